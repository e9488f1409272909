/- ToothMore. Part 4 of 8. -/
import Derived.Test.YtboibffcmhheiaaGreatDoorTrb
import Derived.Test.YtboibffcmhheiaaGreatDoorTrc
import Derived.Sort.AssemblyPlain
import Derived.Sort.Walk13a
set_option linter.all false
set_option maxRecDepth 100000
namespace Pal
open Go Go.Conc Go.Proofs
open Go.Proofs.Tryz
variable {J:Judge Tryz.prog}{E:LH}
def He(fuel:Nat)(K:Int×Int×(List Be)):Option (Bi (Int×Int×(List Be)) ((List Be))):= if K.1<K.2.1 then((ix K.2.2 K.2.1).bind fun O=> (ix K.2.2 K.1).bind fun U=> (Av (K.1+1)).bind fun V=> (Av (K.2.1 - 1)).bind fun W=> some (.more (V,W,((K.2.2.set (Int.toNat K.1) O).set (Int.toNat K.2.1) U)))) else(some (.done K.2.2))
def f182(fuel:Nat)(p0:List Be)(p1:Int)(p2:Int):Option ((List Be)):= (Av (p2 - 1)).bind fun K=> Option.bind (iter (He fuel) fuel (p1,K,p0)) fun O=> some O
theorem Qc{K:Nat}{Y:Nat}{Z:Nat}{ah:Ay}{p0:List (Be)}{p1:Int}{p2:Int}(hW:WL 133 Cc E K Y Z ah p0){fuel:Nat}{r:(List Be)}(ao:f182 fuel p0 p1 p2=some r):AP J 182 [.slice (Bc K) Z Y,iV p1,iV p2,(fV 134)] E [(K,.cells ah 133 (0,0))] (fun w E' B'=>∃(ap:Ay),w= .tuple #[]∧B'= [(K,.cells ap 133 (0,0))]∧WL 133 Cc E' K Y Z ap r):=by
 refine A9 func182 fun Q a1 cs H aw ay=>?_;unfold f182 at ao;obtain⟨a2,az,aA⟩:=bs ao;refine zg 8 rfl (BW az rfl rfl rfl ?_);obtain⟨aB,aC,aD⟩:=bs aA;refine zg 2 rfl (Bs (fun L s=>∃(ai:LH) (f17:Ay),Jn E H ai [bX K f17 133] [] L s (WL 133 Cc ai K Y Z f17 aB)) ?_ ?_)
 ·rintro _ _ ⟨ai,f17,rfl,rfl,aE,aF,aG⟩;obtain rfl:=oi aD;exact JL.fin (v:= .tuple #[]) rfl rfl (BR.list func182 rfl (vs:= []) trivial) (ay aE rfl ⟨f17,rfl,(by first | rfl | simp | (simp [Value.cells])),aG⟩ aF)
 ·intro aH;refine JL.block (CP aC (fun L s W=>∃(aa:LH) (f25:Ay),Jn E H aa [bX K f25 133] [(0,.slice (Bc K) Z Y),(8,iV W.1),(9,iV W.2.1)] L s (WL 133 Cc aa K Y Z f25 W.2.2)) ⟨E,ah,rfl,rfl,Aq,aw,hW⟩ ?_);rintro _ _ W ⟨aa,f25,rfl,rfl,aq,ab,V⟩ aI ⟨a3,aj⟩ aJ;have ar:=aj;unfold He at ar;refine zg 7 rfl (AS ar (fun aK aL=>?_) (fun aK aM=>?_))
  ·refine zg 3 rfl (Gq [13,15] [K] mixed rfl ?_);refine Bd 0 rfl rfl (Bd 1 rfl rfl ?_);refine Bd 2 rfl rfl (Bd 3 rfl rfl ?_);refine Bd 4 rfl rfl (Bd 5 rfl rfl ?_);obtain⟨O,ae,aN⟩:=bs aL;obtain⟨_,⟨_,_,rfl,rfl,⟨_,_,rfl,rfl,⟨ak,al,rfl,aO⟩⟩⟩,aP⟩:=WL.at V ae;refine Cd 6 V.2 ae underlying130 AK ?_;refine DK 7 [iV O.1,iV O.2.1,sV ak O.2.2 al] 0 ab aP B6 AK ?_;refine Bd 8 rfl rfl (Bd 9 rfl rfl ?_);obtain⟨U,ag,aQ⟩:=bs aN;obtain⟨_,⟨_,_,rfl,rfl,⟨_,_,rfl,rfl,⟨am,an,rfl,aR⟩⟩⟩,aS⟩:=WL.at V ag;refine Cd 10 V.2 ag underlying130 AK ?_;refine DK 11 [iV U.1,iV U.2.1,sV am U.2.2 an] 0 ab aS B6 AK ?_;refine Cd 12 V.2 ag underlying130 AK ?_;have au:=WL.put (x':=O) (ws':= [iV O.1,iV O.2.1,sV ak O.2.2 al]) V V.2 ag ⟨_,_,rfl,rfl,⟨_,_,rfl,rfl,⟨_,_,rfl,aO⟩⟩⟩;refine DJ 13 0 ab AK au.2 fun aT=>?_;refine Cd 14 V.2 ae underlying130 AK ?_;have av:=WL.put (x':=U) (ws':= [iV U.1,iV U.2.1,sV am U.2.2 an]) au.1 V.2 ae ⟨_,_,rfl,rfl,⟨_,_,rfl,rfl,⟨_,_,rfl,aR⟩⟩⟩;refine DJ 15 0 aT AK av.2 fun aU=>?_;refine JB.fin (by decide+kernel) ?_;obtain⟨aV,aW,aX⟩:=bs aQ;refine zg 3 rfl (Bg aW rfl rfl rfl ?_);obtain⟨aY,aZ,a0⟩:=bs aX;refine zg 4 rfl (BW aZ rfl rfl rfl ?_);refine zg 3 rfl ?_;obtain rfl:=oi a0;exact AB (aJ _ _ (aV,aY,((W.2.2.set (Int.toNat W.1) O).set (Int.toNat W.2.1) U)) ⟨aa,(Ba (Ba f25 (Int.toNat (W.1)*3) [iV O.1,iV O.2.1,sV ak O.2.2 al]) (Int.toNat (W.2.1)*3) [iV U.1,iV U.2.1,sV am U.2.2 an]),rfl,rfl,aq,aU,av.1⟩ aj) rfl
  ·refine JL.exit rfl ?_;obtain rfl:=oi aM;obtain rfl:=aI _ aj;exact AB (aH _ _ ⟨aa,f25,rfl,rfl,aq,ab,V⟩) rfl
def Ib(fuel:Nat)(p2:Int)(O:Int×Int×(List Be))(K:Int):Option (Bi Int Int):= Option.bind (if K<p2 then((ix O.2.2 K).bind fun U=> (Av (K - 1)).bind fun V=> (ix O.2.2 V).bind fun W=> (f134 fuel U W).bind fun Y=> some (decide (¬(Y<0)))) else(some false)) fun Z=> if Z=true then((Av (K+1)).bind fun aa=> some (.more aa)) else(some (.done K))
def Pv(fuel:Nat)(K:Int×(List Be)):Option (Bi (Int×(List Be)) ((List Be))):= if 1≤K.1 then((ix K.2 K.1).bind fun O=> (Av (K.1 - 1)).bind fun W=> (ix K.2 W).bind fun Y=> (f134 fuel O Y).bind fun Z=> if ¬(Z<0) then(some (.done K.2)) else((Av (K.1 - 1)).bind fun U=> (Av (K.1 - 1)).bind fun aa=> (ix K.2 aa).bind fun V=> (ix (K.2.set (Int.toNat K.1) V) U).bind fun ae=> (Av (K.1 - 1)).bind fun ab=> some (.more (ab,((K.2.set (Int.toNat K.1) V).set (Int.toNat U) O))))) else(some (.done K.2))
def PD(fuel:Nat)(p2:Int)(K:Int×(List Be)):Option (Bi (Int×(List Be)) ((List Be))):= if K.1<p2 then((ix K.2 K.1).bind fun O=> (Av (K.1 - 1)).bind fun W=> (ix K.2 W).bind fun Y=> (f134 fuel O Y).bind fun Z=> if ¬(Z<0) then(some (.done K.2)) else((Av (K.1 - 1)).bind fun U=> (Av (K.1 - 1)).bind fun aa=> (ix K.2 aa).bind fun V=> (ix (K.2.set (Int.toNat K.1) V) U).bind fun ae=> (Av (K.1+1)).bind fun ab=> some (.more (ab,((K.2.set (Int.toNat K.1) V).set (Int.toNat U) O))))) else(some (.done K.2))
def Ll(fuel:Nat)(p1:Int)(p2:Int)(K:Int×Int×(List Be)):Option (Bi (Int×Int×(List Be)) ((Bool×(List Be))⊕((List Be)))):= if K.2.1<5 then(Option.bind (iter (Ib fuel p2 K) fuel K.1) fun O=> if O=p2 then(some (.done (Sum.inl (true,K.2.2)))) else((Av (p2 - p1)).bind fun Z=> if Z<50 then(some (.done (Sum.inl (false,K.2.2)))) else((Av (O - 1)).bind fun U=> (Av (O - 1)).bind fun aa=> (ix K.2.2 aa).bind fun V=> (ix K.2.2 O).bind fun W=> (ix (K.2.2.set (Int.toNat O) V) U).bind fun am=> (Av (O - p1)).bind fun ab=> Option.bind (if 2≤ab then((Av (O - 1)).bind fun ae=> Option.bind (iter (Pv fuel) fuel (ae,((K.2.2.set (Int.toNat O) V).set (Int.toNat U) W))) fun ag=> some ag) else(some ((K.2.2.set (Int.toNat O) V).set (Int.toNat U) W))) fun Y=> (Av (p2 - O)).bind fun ah=> Option.bind (if 2≤ah then((Av (O+1)).bind fun ai=> Option.bind (iter (PD fuel p2) fuel (ai,Y)) fun aj=> some aj) else(some Y)) fun ak=> (Av (K.2.1+1)).bind fun al=> some (.more (O,al,ak))))) else(some (.done (Sum.inr K.2.2)))
def f183(fuel:Nat)(p0:List Be)(p1:Int)(p2:Int):Option (Bool×(List Be)):= (Av (p1+1)).bind fun K=> Option.bind (iter (Ll fuel p1 p2) fuel (K,0,p0)) fun O=> Sum.elim (fun r=>some r) (fun U=> some (false,U)) O
theorem QI{K:Nat}{O:Nat}{U:Nat}{a4:Ay}{p0:List (Be)}{p1:Int}{p2:Int}(hW:WL 133 Cc E K O U a4 p0){fuel:Nat}{r:Bool×(List Be)}(bn:f183 fuel p0 p1 p2=some r):AP J 183 [.slice (Bc K) U O,iV p1,iV p2,(fV 134)] E [(K,.cells a4 133 (0,0))] (fun w E' B'=>∃(bo:Ay),w= .bool r.1∧B'= [(K,.cells bo 133 (0,0))]∧WL 133 Cc E' K O U bo r.2):=by
 refine A9 func183 fun Q fc cs H cf a5=>?_;unfold f183 at bn;obtain⟨fd,cg,ci⟩:=bs bn;refine zg 7 rfl (Bg cg rfl rfl rfl ?_);obtain⟨bp,ck,a6⟩:=bs ci;refine zg 7 rfl (Bs (fun L s=>∃(a7:(List Be)) (a8:LH) (f18:Ay),bp=Sum.inr a7∧Jn E H a8 [bX K f18 133] [] L s (WL 133 Cc a8 K O U f18 a7)) ?_ ?_)
 ·rintro _ _ ⟨a7,a8,f18,rfl,rfl,rfl,cm,cn,co⟩;have cp:=elim_inr a6;refine zg 4 rfl ?_;obtain rfl:=oi cp;exact AN func183 rfl rfl (a5 cm rfl ⟨f18,rfl,(by first | rfl | simp | (simp [Value.cells])),co⟩ cn)
 ·intro cq;refine JL.block (CP ck (fun L s Y=>∃(aO:LH) (f27:Ay),Jn E H aO [bX K f27 133] [(0,.slice (Bc K) U O),(1,iV p1),(2,iV p2),(3,(fV 134)),(9,iV Y.1),(10,iV Y.2.1)] L s (WL 133 Cc aO K O U f27 Y.2.2)) ⟨E,a4,rfl,rfl,Aq,cf,hW⟩ ?_);rintro _ _ Y ⟨aO,f27,rfl,rfl,aP,bq,Z⟩ a9 ⟨fe,ay⟩ cr;have br:=ay;unfold Ll at br;refine zg 6 rfl (AS br (fun ct cu=>?_) (fun ct cv=>?_))
  ·obtain⟨aj,cw,cy⟩:=bs cu;refine zg 4 rfl (Cq [bX K f27 133] [(0,.slice (Bc K) U O),(1,iV p1),(2,iV p2),(3,(fV 134)),(9,iV aj),(10,iV Y.2.1)] (fun az ak aA=>?_) (fun cz=>?_))
   ·refine zg 7 rfl (AS cy (fun cA cB=>?_) (fun cA cC=>?_))
    ·refine zg 4 rfl ?_;obtain rfl:=oi cB;obtain rfl:=a9 _ ay;have cD:=elim_inl a6;obtain rfl:=oi cD;exact AN func183 rfl rfl (a5 (aP.Ab ak) rfl ⟨f27,rfl,(by first | rfl | simp | (simp [Value.cells])),(Z.Ag ak)⟩ aA)
    ·obtain⟨ff,cE,cF⟩:=bs cC;refine zg 6 rfl (BW cE rfl rfl rfl ?_);refine zg 2 rfl (AS cF (fun cG cH=>?_) (fun cG cI=>?_))
     ·refine zg 4 rfl ?_;obtain rfl:=oi cH;obtain rfl:=a9 _ ay;have cJ:=elim_inl a6;obtain rfl:=oi cJ;exact AN func183 rfl rfl (a5 (aP.Ab ak) rfl ⟨f27,rfl,(by first | rfl | simp | (simp [Value.cells])),(Z.Ag ak)⟩ aA)
     ·refine zg 2 rfl (Gq [15,17] [K] mixed rfl ?_);refine Bd 0 rfl rfl (Bd 1 rfl rfl ?_);refine Bd 2 rfl rfl (Bd 3 rfl rfl ?_);obtain⟨bu,cK,cM⟩:=bs cI;refine Gc 4 true rfl rfl (fun ρ h s' hs=>CY (h _ _ rfl) (h _ _ rfl) cK) (Bd 5 rfl rfl ?_);refine Bd 6 rfl rfl ?_;obtain⟨fg,cN,cO⟩:=bs cM;refine Gc 7 true rfl rfl (fun ρ h s' hs=>CY (h _ _ rfl) (h _ _ rfl) cN) ?_;obtain⟨aa,bv,cP⟩:=bs cO;obtain⟨_,⟨_,_,rfl,rfl,⟨_,_,rfl,rfl,⟨aQ,aR,rfl,cQ⟩⟩⟩,cR⟩:=WL.at (Z.Ag ak) bv;refine Cd 8 Z.2 bv underlying130 AK ?_;refine DK 9 [iV aa.1,iV aa.2.1,sV aQ aa.2.2 aR] 0 aA cR B6 AK ?_;refine Bd 10 rfl rfl (Bd 11 rfl rfl ?_);obtain⟨ab,aS,cT⟩:=bs cP;obtain⟨_,⟨_,_,rfl,rfl,⟨_,_,rfl,rfl,⟨aT,aU,rfl,cV⟩⟩⟩,cW⟩:=WL.at (Z.Ag ak) aS;refine Cd 12 Z.2 aS underlying130 AK ?_;refine DK 13 [iV ab.1,iV ab.2.1,sV aT ab.2.2 aU] 0 aA cW B6 AK ?_;refine Cd 14 Z.2 aS underlying130 AK ?_;have aB:=WL.put (x':=aa) (ws':= [iV aa.1,iV aa.2.1,sV aQ aa.2.2 aR]) (Z.Ag ak) Z.2 aS ⟨_,_,rfl,rfl,⟨_,_,rfl,rfl,⟨_,_,rfl,cQ⟩⟩⟩;refine DJ 15 0 aA AK aB.2 fun cX=>?_;obtain⟨fh,ba,cY⟩:=bs cT;obtain⟨_,⟨_,_,rfl,rfl,⟨_,_,rfl,rfl,⟨fj,fk,rfl,fm⟩⟩⟩,fo⟩:=WL.at aB.1 ba;refine Cd 16 (aB.1).2 ba underlying130 AK ?_;have bb:=WL.put (x':=ab) (ws':= [iV ab.1,iV ab.2.1,sV aT ab.2.2 aU]) aB.1 (aB.1).2 ba ⟨_,_,rfl,rfl,⟨_,_,rfl,rfl,⟨_,_,rfl,cV⟩⟩⟩;refine DJ 17 0 cX AK bb.2 fun bw=>?_;refine JB.fin (by decide+kernel) ?_;obtain⟨fp,cZ,c0⟩:=bs cY;refine zg 5 rfl (BW cZ rfl rfl rfl ?_);obtain⟨c1,c2,c3⟩:=bs c0;refine zg 2 rfl (Bs (fun L s=>∃(al:LH) (f99:Ay),Jn az H al [bX K f99 133] [(0,.slice (Bc K) U O),(1,iV p1),(2,iV p2),(3,(fV 134)),(9,iV aj),(10,iV Y.2.1)] L s (WL 133 Cc al K O U f99 c1)) ?_ ?_)
      ·rintro _ _ ⟨al,f99,rfl,rfl,c4,bx,bz⟩;obtain⟨fq,c5,c6⟩:=bs c3;refine zg 4 rfl (BW c5 rfl rfl rfl ?_);obtain⟨bA,c7,c8⟩:=bs c6;refine zg 2 rfl (Bs (fun L s=>∃(aV:LH) (f109:Ay),Jn al H aV [bX K f109 133] [(0,.slice (Bc K) U O),(1,iV p1),(2,iV p2),(3,(fV 134)),(9,iV aj),(10,iV Y.2.1)] L s (WL 133 Cc aV K O U f109 bA)) ?_ ?_)
       ·rintro _ _ ⟨aV,f109,rfl,rfl,c9,da,db⟩;obtain⟨dc,dd,de⟩:=bs c8;refine zg 3 rfl (Bg dd rfl rfl rfl ?_);refine zg 2 rfl ?_;obtain rfl:=oi de;exact AB (cr _ _ (aj,dc,bA) ⟨aV,f109,rfl,rfl,(((aP.Ab ak).Ab c4).Ab c9),da,db⟩ ay) rfl
       ·intro bB;refine AS c7 (fun df dg=>?_) (fun df dh=>?_)
        ·obtain⟨fs,di,dj⟩:=bs dg;refine zg 3 rfl (Bg di rfl rfl rfl ?_);obtain⟨dk,dl,dm⟩:=bs dj;refine zg 2 rfl (Bs (fun L s=>∃(aW:LH) (f134:Ay),Jn al H aW [bX K f134 133] [(0,.slice (Bc K) U O),(1,iV p1),(2,iV p2),(3,(fV 134)),(9,iV aj),(10,iV Y.2.1)] L s (WL 133 Cc aW K O U f134 dk)) ?_ ?_)
         ·rintro _ _ ⟨aW,f134,rfl,rfl,dn,dp,dq⟩;obtain rfl:=oi dm;exact AB (bB _ _ ⟨aW,f134,rfl,rfl,dn,dp,dq⟩) rfl
         ·intro bC;refine JL.block (CP dl (fun L s am=>∃(aX:LH) (f142:Ay),Jn al H aX [bX K f142 133] [(0,.slice (Bc K) U O),(1,iV p1),(2,iV p2),(3,(fV 134)),(9,iV aj),(10,iV Y.2.1),(12,iV am.1)] L s (WL 133 Cc aX K O U f142 am.2)) ⟨al,f99,rfl,rfl,Aq,bx,bz⟩ ?_);rintro _ _ am ⟨aX,f142,rfl,rfl,bc,aC,ae⟩ bD ⟨fu,aY⟩ dr;have bE:=aY;unfold PD at bE;refine zg 7 rfl (AS bE (fun dt du=>?_) (fun dt dv=>?_))
          ·refine zg 5 rfl (CZ 10 [K] ⟨⟨0,_,rfl⟩,trivial⟩ aC fun ht=>?_);refine Bp ht rfl [0,1,2] rfl ?_;obtain⟨V,aD,dw⟩:=bs du;obtain⟨_,⟨_,_,rfl,rfl,⟨_,_,rfl,rfl,⟨aE,aF,rfl,bF⟩⟩⟩,bG⟩:=WL.at ae aD;refine FB 3 ht (ae).2 aD underlying130 AK ?_;refine Dw 4 ht [iV V.1,iV V.2.1,sV aE V.2.2 aF] 0 aC bG B6 AK ?_;refine Bp ht rfl [5,6] rfl ?_;obtain⟨fv,dx,dy⟩:=bs dw;refine BC 7 ht rfl rfl (fun ρ h s' hs=>CY (h _ _ rfl) (h _ _ rfl) dx) ?_;obtain⟨an,bH,dz⟩:=bs dy;obtain⟨_,⟨_,_,rfl,rfl,⟨_,_,rfl,rfl,⟨bI,bJ,rfl,dA⟩⟩⟩,dB⟩:=WL.at ae bH;refine FB 8 ht (ae).2 bH underlying130 AK ?_;refine Dw 9 ht [iV an.1,iV an.2.1,sV bI an.2.2 bJ] 0 aC dB B6 AK ?_;refine Cp [10,11,12] ?_;obtain⟨dC,dD,dE⟩:=bs dz;refine Jq (vs:= [.agg #[iV V.1,iV V.2.1,sV aE V.2.2 aF],.agg #[iV an.1,iV an.2.1,sV bI an.2.2 bJ]]) (Gs bF dA dD) rfl rfl rfl rfl Gk rfl aC ?_;rintro _ bK _ ao ⟨rfl,rfl⟩ aZ;refine zg 1 rfl (Az (v:= .bool (decide (¬(dC<0)))) rfl (fun ρ h=>Ig (h _ _ rfl)) ?_);refine JL.done (AS dE (fun dF dG=>?_) (fun dF dH=>?_))
           ·refine JL.exit rfl ?_;obtain rfl:=oi dG;obtain rfl:=bD _ aY;exact AB (bC _ _ ⟨bK,f142,rfl,rfl,(bc.Ab ao),aZ,(ae.Ag ao)⟩) rfl
           ·refine JL.skip (Gq [15,17] [K] mixed rfl ?_);refine Bd 0 rfl rfl (Bd 1 rfl rfl ?_);refine Bd 2 rfl rfl (Bd 3 rfl rfl ?_);obtain⟨bL,dI,dJ⟩:=bs dH;refine Gc 4 true rfl rfl (fun ρ h s' hs=>CY (h _ _ rfl) (h _ _ rfl) dI) (Bd 5 rfl rfl ?_);refine Bd 6 rfl rfl ?_;obtain⟨fw,dK,dL⟩:=bs dJ;refine Gc 7 true rfl rfl (fun ρ h s' hs=>CY (h _ _ rfl) (h _ _ rfl) dK) ?_;obtain⟨ah,bM,dM⟩:=bs dL;obtain⟨_,⟨_,_,rfl,rfl,⟨_,_,rfl,rfl,⟨bd,be,rfl,dN⟩⟩⟩,dO⟩:=WL.at (ae.Ag ao) bM;refine Cd 8 ae.2 bM underlying130 AK ?_;refine DK 9 [iV ah.1,iV ah.2.1,sV bd ah.2.2 be] 0 aZ dO B6 AK ?_;refine Bd 10 rfl rfl (Bd 11 rfl rfl ?_);refine Cd 12 ae.2 aD underlying130 AK ?_;refine DK 13 [iV V.1,iV V.2.1,sV aE V.2.2 aF] 0 aZ bG B6 AK ?_;refine Cd 14 ae.2 aD underlying130 AK ?_;have aG:=WL.put (x':=ah) (ws':= [iV ah.1,iV ah.2.1,sV bd ah.2.2 be]) (ae.Ag ao) ae.2 aD ⟨_,_,rfl,rfl,⟨_,_,rfl,rfl,⟨_,_,rfl,dN⟩⟩⟩;refine DJ 15 0 aZ AK aG.2 fun dP=>?_;obtain⟨fx,bf,dQ⟩:=bs dM;obtain⟨_,⟨_,_,rfl,rfl,⟨_,_,rfl,rfl,⟨fy,fz,rfl,fA⟩⟩⟩,fB⟩:=WL.at aG.1 bf;refine Cd 16 (aG.1).2 bf underlying130 AK ?_;have bN:=WL.put (x':=V) (ws':= [iV V.1,iV V.2.1,sV aE V.2.2 aF]) aG.1 (aG.1).2 bf ⟨_,_,rfl,rfl,⟨_,_,rfl,rfl,⟨_,_,rfl,(bF.Ag ao)⟩⟩⟩;refine DJ 17 0 dP AK bN.2 fun dR=>?_;refine JB.fin (by decide+kernel) ?_;obtain⟨dS,dT,dU⟩:=bs dQ;refine zg 3 rfl (Bg dT rfl rfl rfl ?_);refine zg 2 rfl ?_;obtain rfl:=oi dU;exact AB (dr _ _ (dS,((am.2.set (Int.toNat am.1) ah).set (Int.toNat bL) V)) ⟨bK,(Ba (Ba f142 (Int.toNat (am.1)*3) [iV ah.1,iV ah.2.1,sV bd ah.2.2 be]) (Int.toNat (bL)*3) [iV V.1,iV V.2.1,sV aE V.2.2 aF]),rfl,rfl,(bc.Ab ao),dR,bN.1⟩ aY) rfl
          ·refine JL.exit rfl ?_;obtain rfl:=oi dv;obtain rfl:=bD _ aY;exact AB (bC _ _ ⟨aX,f142,rfl,rfl,bc,aC,ae⟩) rfl
        ·refine JL.skip ?_;obtain rfl:=oi dh;exact AB (bB _ _ ⟨al,f99,rfl,rfl,Aq,bx,bz⟩) rfl
      ·intro bO;refine AS c2 (fun dV dW=>?_) (fun dV dX=>?_)
       ·obtain⟨fC,dY,dZ⟩:=bs dW;refine zg 3 rfl (BW dY rfl rfl rfl ?_);obtain⟨ea,eb,ec⟩:=bs dZ;refine zg 2 rfl (Bs (fun L s=>∃(a0:LH) (f224:Ay),Jn az H a0 [bX K f224 133] [(0,.slice (Bc K) U O),(1,iV p1),(2,iV p2),(3,(fV 134)),(9,iV aj),(10,iV Y.2.1)] L s (WL 133 Cc a0 K O U f224 ea)) ?_ ?_)
        ·rintro _ _ ⟨a0,f224,rfl,rfl,ed,ee,ef⟩;obtain rfl:=oi ec;exact AB (bO _ _ ⟨a0,f224,rfl,rfl,ed,ee,ef⟩) rfl
        ·intro bP;refine JL.block (CP eb (fun L s ap=>∃(a1:LH) (f232:Ay),Jn az H a1 [bX K f232 133] [(0,.slice (Bc K) U O),(1,iV p1),(2,iV p2),(3,(fV 134)),(9,iV aj),(10,iV Y.2.1),(11,iV ap.1)] L s (WL 133 Cc a1 K O U f232 ap.2)) ⟨az,(Ba (Ba f27 (Int.toNat (aj)*3) [iV aa.1,iV aa.2.1,sV aQ aa.2.2 aR]) (Int.toNat (bu)*3) [iV ab.1,iV ab.2.1,sV aT ab.2.2 aU]),rfl,rfl,Aq,bw,bb.1⟩ ?_);rintro _ _ ap ⟨a1,f232,rfl,rfl,bg,aH,ag⟩ bQ ⟨fD,a2⟩ eg;have bR:=a2;unfold Pv at bR;refine zg 6 rfl (AS bR (fun eh ei=>?_) (fun eh ej=>?_))
         ·refine zg 5 rfl (CZ 10 [K] ⟨⟨0,_,rfl⟩,trivial⟩ aH fun ht=>?_);refine Bp ht rfl [0,1,2] rfl ?_;obtain⟨W,aI,ek⟩:=bs ei;obtain⟨_,⟨_,_,rfl,rfl,⟨_,_,rfl,rfl,⟨aJ,aK,rfl,bS⟩⟩⟩,bT⟩:=WL.at ag aI;refine FB 3 ht (ag).2 aI underlying130 AK ?_;refine Dw 4 ht [iV W.1,iV W.2.1,sV aJ W.2.2 aK] 0 aH bT B6 AK ?_;refine Bp ht rfl [5,6] rfl ?_;obtain⟨fE,el,em⟩:=bs ek;refine BC 7 ht rfl rfl (fun ρ h s' hs=>CY (h _ _ rfl) (h _ _ rfl) el) ?_;obtain⟨aq,bU,en⟩:=bs em;obtain⟨_,⟨_,_,rfl,rfl,⟨_,_,rfl,rfl,⟨bV,bW,rfl,eo⟩⟩⟩,ep⟩:=WL.at ag bU;refine FB 8 ht (ag).2 bU underlying130 AK ?_;refine Dw 9 ht [iV aq.1,iV aq.2.1,sV bV aq.2.2 bW] 0 aH ep B6 AK ?_;refine Cp [10,11,12] ?_;obtain⟨eq,er,et⟩:=bs en;refine Jq (vs:= [.agg #[iV W.1,iV W.2.1,sV aJ W.2.2 aK],.agg #[iV aq.1,iV aq.2.1,sV bV aq.2.2 bW]]) (Gs bS eo er) rfl rfl rfl rfl Gk rfl aH ?_;rintro _ bY _ ar ⟨rfl,rfl⟩ a3;refine zg 1 rfl (Az (v:= .bool (decide (¬(eq<0)))) rfl (fun ρ h=>Ig (h _ _ rfl)) ?_);refine JL.done (AS et (fun eu ew=>?_) (fun eu ex=>?_))
          ·refine JL.exit rfl ?_;obtain rfl:=oi ew;obtain rfl:=bQ _ a2;exact AB (bP _ _ ⟨bY,f232,rfl,rfl,(bg.Ab ar),a3,(ag.Ag ar)⟩) rfl
          ·refine JL.skip (Gq [15,17] [K] mixed rfl ?_);refine Bd 0 rfl rfl (Bd 1 rfl rfl ?_);refine Bd 2 rfl rfl (Bd 3 rfl rfl ?_);obtain⟨bZ,ey,ez⟩:=bs ex;refine Gc 4 true rfl rfl (fun ρ h s' hs=>CY (h _ _ rfl) (h _ _ rfl) ey) (Bd 5 rfl rfl ?_);refine Bd 6 rfl rfl ?_;obtain⟨fF,eA,eB⟩:=bs ez;refine Gc 7 true rfl rfl (fun ρ h s' hs=>CY (h _ _ rfl) (h _ _ rfl) eA) ?_;obtain⟨ai,b0,eC⟩:=bs eB;obtain⟨_,⟨_,_,rfl,rfl,⟨_,_,rfl,rfl,⟨bh,bi,rfl,eD⟩⟩⟩,eE⟩:=WL.at (ag.Ag ar) b0;refine Cd 8 ag.2 b0 underlying130 AK ?_;refine DK 9 [iV ai.1,iV ai.2.1,sV bh ai.2.2 bi] 0 a3 eE B6 AK ?_;refine Bd 10 rfl rfl (Bd 11 rfl rfl ?_);refine Cd 12 ag.2 aI underlying130 AK ?_;refine DK 13 [iV W.1,iV W.2.1,sV aJ W.2.2 aK] 0 a3 bT B6 AK ?_;refine Cd 14 ag.2 aI underlying130 AK ?_;have aL:=WL.put (x':=ai) (ws':= [iV ai.1,iV ai.2.1,sV bh ai.2.2 bi]) (ag.Ag ar) ag.2 aI ⟨_,_,rfl,rfl,⟨_,_,rfl,rfl,⟨_,_,rfl,eD⟩⟩⟩;refine DJ 15 0 a3 AK aL.2 fun eF=>?_;obtain⟨fG,bj,eG⟩:=bs eC;obtain⟨_,⟨_,_,rfl,rfl,⟨_,_,rfl,rfl,⟨fH,fI,rfl,fJ⟩⟩⟩,fK⟩:=WL.at aL.1 bj;refine Cd 16 (aL.1).2 bj underlying130 AK ?_;have b1:=WL.put (x':=W) (ws':= [iV W.1,iV W.2.1,sV aJ W.2.2 aK]) aL.1 (aL.1).2 bj ⟨_,_,rfl,rfl,⟨_,_,rfl,rfl,⟨_,_,rfl,(bS.Ag ar)⟩⟩⟩;refine DJ 17 0 eF AK b1.2 fun eH=>?_;refine JB.fin (by decide+kernel) ?_;obtain⟨eI,eJ,eK⟩:=bs eG;refine zg 3 rfl (BW eJ rfl rfl rfl ?_);refine zg 2 rfl ?_;obtain rfl:=oi eK;exact AB (eg _ _ (eI,((ap.2.set (Int.toNat ap.1) ai).set (Int.toNat bZ) W)) ⟨bY,(Ba (Ba f232 (Int.toNat (ap.1)*3) [iV ai.1,iV ai.2.1,sV bh ai.2.2 bi]) (Int.toNat (bZ)*3) [iV W.1,iV W.2.1,sV aJ W.2.2 aK]),rfl,rfl,(bg.Ab ar),eH,b1.1⟩ a2) rfl
         ·refine JL.exit rfl ?_;obtain rfl:=oi ej;obtain rfl:=bQ _ a2;exact AB (bP _ _ ⟨a1,f232,rfl,rfl,bg,aH,ag⟩) rfl
       ·refine JL.skip ?_;obtain rfl:=oi dX;exact AB (bO _ _ ⟨az,(Ba (Ba f27 (Int.toNat (aj)*3) [iV aa.1,iV aa.2.1,sV aQ aa.2.2 aR]) (Int.toNat (bu)*3) [iV ab.1,iV ab.2.1,sV aT ab.2.2 aU]),rfl,rfl,Aq,bw,bb.1⟩) rfl
   ·refine JL.block (Cs cw (fun aM=> [bX K f27 133]) (fun aM=> [(0,.slice (Bc K) U O),(1,iV p1),(2,iV p2),(3,(fV 134)),(9,iV aM),(10,iV Y.2.1)]) Aq bq ?_);rintro aM b2 au aN eL ⟨fL,bl⟩ eM;have b3:=bl;unfold Ib at b3;refine zg 2 rfl (CZ 18 [K] ⟨⟨0,_,rfl⟩,trivial⟩ aN fun ht=>?_);refine Bp ht rfl [0,1,2,3] rfl ?_;obtain⟨eN,b4,eO⟩:=bs b3;refine FL 0 #[true,true,true,true,true,true,true,true,true,true,true,true,true,true,true,true,true,true] (fun L s=>∃(b5:LH),Jm b2 H b5 [bX K f27 133] [(0,.slice (Bc K) U O),(1,iV p1),(2,iV p2),(3,(fV 134)),(9,iV aM),(10,iV Y.2.1),(36,.bool eN)] L s) ?_ ?_
    ·rintro _ _ ⟨b5,rfl,rfl,b6,b7⟩;refine AO.fin (by decide+kernel) (BL eO (fun eP eQ=>?_) (fun eP eR=>?_))
     ·obtain⟨eS,eT,eU⟩:=bs eQ;refine zg 4 rfl (Bg eT rfl rfl rfl ?_);refine zg 3 rfl ?_;obtain rfl:=oi eU;exact eM eS (au.Ab b6) b7 rfl bl
     ·refine JL.exit rfl ?_;obtain rfl:=oi eR;obtain rfl:=eL _ bl;exact cz (au.Ab b6) b7 rfl
    ·intro b8;refine FY (q:=aM<p2) (i:=22) rfl (fun bm=>?_) (fun bm=>?_)
     ·have eV:=ip b4 bm;refine Bp ht rfl [4,5,6] rfl ?_;obtain⟨av,b9,eW⟩:=bs eV;obtain⟨_,⟨_,_,rfl,rfl,⟨_,_,rfl,rfl,⟨ca,cb,rfl,eX⟩⟩⟩,eY⟩:=WL.at (Z.Ag au) b9;refine BC 7 ht rfl rfl (fun ρ h s' hs=>F3 ((Z.Ag au)).2 b9 underlying130 AK (h _ _ rfl) (h _ _ rfl)) ?_;refine Dw 8 ht [iV av.1,iV av.2.1,sV ca av.2.2 cb] 0 aN eY B6 AK ?_;refine Bp ht rfl [9,10] rfl ?_;obtain⟨fM,eZ,e0⟩:=bs eW;refine BC 11 ht rfl rfl (fun ρ h s' hs=>CY (h _ _ rfl) (h _ _ rfl) eZ) ?_;obtain⟨aw,cc,e1⟩:=bs e0;obtain⟨_,⟨_,_,rfl,rfl,⟨_,_,rfl,rfl,⟨cd,ce,rfl,e2⟩⟩⟩,e3⟩:=WL.at (Z.Ag au) cc;refine BC 12 ht rfl rfl (fun ρ h s' hs=>F3 ((Z.Ag au)).2 cc underlying130 AK (h _ _ rfl) (h _ _ rfl)) ?_;refine Dw 13 ht [iV aw.1,iV aw.2.1,sV cd aw.2.2 ce] 0 aN e3 B6 AK ?_;obtain⟨e4,e5,e6⟩:=bs e1;refine Hb (i:=14) ⟨⟨0,_,rfl⟩,trivial⟩ (vs:= [.agg #[iV av.1,iV av.2.1,sV ca av.2.2 cb],.agg #[iV aw.1,iV aw.2.1,sV cd aw.2.2 ce]]) (Gs eX e2 e5) (by decide+kernel) rfl rfl rfl rfl Gk rfl aN ?_;rintro _ e7 _ e8 ⟨rfl,rfl⟩ e9;refine Ct 15 ht rfl rfl ?_;refine BC (v:= .bool (decide (¬(e4<0)))) 16 ht rfl rfl (fun ρ h s' hs=>Ig (h _ _ rfl)) ?_;refine Ct 17 ht rfl rfl ?_;obtain rfl:=oi e6;refine DD ?_ (b8 _ _ ⟨e7,rfl,rfl,e8,e9⟩);exact⟨rfl,rfl,rfl,rfl,rfl,rfl,rfl,trivial⟩
     ·have fa:=im b4 bm;refine Bp ht rfl [4,5,6,7,8,9,10,11,12,13,14,15,16,17] rfl ?_;obtain rfl:=oi fa;refine DD ?_ (b8 _ _ ⟨b2,rfl,rfl,Aq,aN⟩);exact⟨rfl,rfl,rfl,rfl,rfl,rfl,rfl,trivial⟩
  ·refine JL.exit rfl ?_;obtain rfl:=oi cv;have fb:bp=(Sum.inr Y.2.2):=(a9 _ ay).symm;exact AB (cq _ _ ⟨Y.2.2,aO,f27,fb,rfl,rfl,aP,bq,Z⟩) rfl
def JD(fuel:Nat)(p0:List Be)(p1:Int)(p3:Int)(O:Be)(U:Be)(V:Int)(K:Int):Option (Bi Int Int):= Option.bind (if K≤V then((ix ((p0.set (Int.toNat p1) O).set (Int.toNat p3) U) K).bind fun W=> (ix ((p0.set (Int.toNat p1) O).set (Int.toNat p3) U) p1).bind fun Y=> (f134 fuel W Y).bind fun Z=> some (decide (Z<0))) else(some false)) fun aa=> if aa=true then((Av (K+1)).bind fun ab=> some (.more ab)) else(some (.done K))
def Jw(fuel:Nat)(p0:List Be)(p1:Int)(p3:Int)(O:Be)(U:Be)(V:Int)(K:Int):Option (Bi Int Int):= Option.bind (if V≤K then((ix ((p0.set (Int.toNat p1) O).set (Int.toNat p3) U) K).bind fun W=> (ix ((p0.set (Int.toNat p1) O).set (Int.toNat p3) U) p1).bind fun Y=> (f134 fuel W Y).bind fun Z=> some (decide (¬(Z<0)))) else(some false)) fun aa=> if aa=true then((Av (K - 1)).bind fun ab=> some (.more ab)) else(some (.done K))
def II(fuel:Nat)(p1:Int)(O:Int×Int×(List Be))(K:Int):Option (Bi Int Int):= Option.bind (if K≤O.2.1 then((ix O.2.2 K).bind fun U=> (ix O.2.2 p1).bind fun V=> (f134 fuel U V).bind fun W=> some (decide (W<0))) else(some false)) fun Y=> if Y=true then((Av (K+1)).bind fun Z=> some (.more Z)) else(some (.done K))
def IJ(fuel:Nat)(p1:Int)(O:Int×Int×(List Be))(U:Int)(K:Int):Option (Bi Int Int):= Option.bind (if U≤K then((ix O.2.2 K).bind fun V=> (ix O.2.2 p1).bind fun W=> (f134 fuel V W).bind fun Y=> some (decide (¬(Y<0)))) else(some false)) fun Z=> if Z=true then((Av (K - 1)).bind fun aa=> some (.more aa)) else(some (.done K))
def Ia(fuel:Nat)(p1:Int)(K:Int×Int×(List Be)):Option (Bi (Int×Int×(List Be)) (Int×(List Be))):= Option.bind (iter (II fuel p1 K) fuel K.1) fun O=> Option.bind (iter (IJ fuel p1 K O) fuel K.2.1) fun U=> if U<O then(some (.done (U,K.2.2))) else((ix K.2.2 U).bind fun V=> (ix K.2.2 O).bind fun W=> (Av (O+1)).bind fun Y=> (Av (U - 1)).bind fun Z=> some (.more (Y,Z,((K.2.2.set (Int.toNat O) V).set (Int.toNat U) W))))
def f185(fuel:Nat)(p0:List Be)(p1:Int)(p2:Int)(p3:Int):Option (Int×Bool×(List Be)):= (ix p0 p3).bind fun K=> (ix p0 p1).bind fun O=> (Av (p1+1)).bind fun Z=> (Av (p2 - 1)).bind fun Y=> Option.bind (iter (JD fuel p0 p1 p3 K O Y) fuel Z) fun W=> Option.bind (iter (Jw fuel p0 p1 p3 K O W) fuel Y) fun U=> if U<W then((ix ((p0.set (Int.toNat p1) K).set (Int.toNat p3) O) p1).bind fun aa=> (ix ((p0.set (Int.toNat p1) K).set (Int.toNat p3) O) U).bind fun ab=> some (U,true,((((p0.set (Int.toNat p1) K).set (Int.toNat p3) O).set (Int.toNat U) aa).set (Int.toNat p1) ab))) else((ix ((p0.set (Int.toNat p1) K).set (Int.toNat p3) O) U).bind fun ae=> (ix ((p0.set (Int.toNat p1) K).set (Int.toNat p3) O) W).bind fun ag=> (Av (W+1)).bind fun ah=> (Av (U - 1)).bind fun ai=> Option.bind (iter (Ia fuel p1) fuel (ah,ai,((((p0.set (Int.toNat p1) K).set (Int.toNat p3) O).set (Int.toNat W) ae).set (Int.toNat U) ag))) fun V=> (ix V.2 p1).bind fun aj=> (ix V.2 V.1).bind fun ak=> some (V.1,false,((V.2.set (Int.toNat V.1) aj).set (Int.toNat p1) ak)))
theorem QD{K:Nat}{W:Nat}{Y:Nat}{ag:Ay}{p0:List (Be)}{p1:Int}{p2:Int}{p3:Int}(hW:WL 133 Cc E K W Y ag p0){fuel:Nat}{r:Int×Bool×(List Be)}(bI:f185 fuel p0 p1 p2 p3=some r):AP J 185 [.slice (Bc K) Y W,iV p1,iV p2,iV p3,(fV 134)] E [(K,.cells ag 133 (0,0))] (fun w E' B'=>∃(bJ:Ay),w= .tuple #[iV r.1,.bool r.2.1]∧B'= [(K,.cells bJ 133 (0,0))]∧WL 133 Cc E' K W Y bJ r.2.2):=by
 refine A9 func185 fun Q gg cs H a6 bK=>?_;unfold f185 at bI;refine zg 6 rfl (Gq [13,15] [K] mixed rfl ?_);refine Bd 0 rfl rfl (Bd 1 rfl rfl ?_);refine Bd 2 rfl rfl (Bd 3 rfl rfl ?_);refine Bd 4 rfl rfl (Bd 5 rfl rfl ?_);obtain⟨O,aW,cW⟩:=bs bI;obtain⟨_,⟨_,_,rfl,rfl,⟨_,_,rfl,rfl,⟨ah,c4,rfl,cX⟩⟩⟩,cY⟩:=WL.at hW aW;refine Cd 6 hW.2 aW underlying130 AK ?_;refine DK 7 [iV O.1,iV O.2.1,sV ah O.2.2 c4] 0 a6 cY B6 AK ?_;refine Bd 8 rfl rfl (Bd 9 rfl rfl ?_);obtain⟨U,aN,cZ⟩:=bs cW;obtain⟨_,⟨_,_,rfl,rfl,⟨_,_,rfl,rfl,⟨ai,aj,rfl,c0⟩⟩⟩,c1⟩:=WL.at hW aN;refine Cd 10 hW.2 aN underlying130 AK ?_;refine DK 11 [iV U.1,iV U.2.1,sV ai U.2.2 aj] 0 a6 c1 B6 AK ?_;refine Cd 12 hW.2 aN underlying130 AK ?_;have bL:=WL.put (x':=O) (ws':= [iV O.1,iV O.2.1,sV ah O.2.2 c4]) hW hW.2 aN ⟨_,_,rfl,rfl,⟨_,_,rfl,rfl,⟨_,_,rfl,cX⟩⟩⟩;refine DJ 13 0 a6 AK bL.2 fun c2=>?_;refine Cd 14 hW.2 aW underlying130 AK ?_;have V:=WL.put (x':=U) (ws':= [iV U.1,iV U.2.1,sV ai U.2.2 aj]) bL.1 hW.2 aW ⟨_,_,rfl,rfl,⟨_,_,rfl,rfl,⟨_,_,rfl,c0⟩⟩⟩;refine DJ 15 0 c2 AK V.2 fun c3=>?_;refine JB.fin (by decide+kernel) ?_;obtain⟨gh,c5,c6⟩:=bs cZ;refine zg 3 rfl (Bg c5 rfl rfl rfl ?_);obtain⟨aX,c7,c8⟩:=bs c6;refine zg 1 rfl (BW c7 rfl rfl rfl ?_);obtain⟨ay,c9,da⟩:=bs c8;refine zg 4 rfl (Cq [bX K (Ba (Ba ag (Int.toNat (p1)*3) [iV O.1,iV O.2.1,sV ah O.2.2 c4]) (Int.toNat (p3)*3) [iV U.1,iV U.2.1,sV ai U.2.2 aj]) 133] [(0,.slice (Bc K) Y W),(1,iV p1),(4,(fV 134)),(12,iV ay),(13,iV aX)] (fun gi aa db=>?_) (fun dc=>?_))
 ·obtain⟨a7,dd,de⟩:=bs da;refine JL.seq (Cq [bX K (Ba (Ba ag (Int.toNat (p1)*3) [iV O.1,iV O.2.1,sV ah O.2.2 c4]) (Int.toNat (p3)*3) [iV U.1,iV U.2.1,sV ai U.2.2 aj]) 133] [(0,.slice (Bc K) Y W),(1,iV p1),(4,(fV 134)),(12,iV ay),(13,iV a7)] (fun a8 av az=>?_) (fun df=>?_))
  ·refine zg 7 rfl (AS de (fun dg dh=>?_) (fun dg di=>?_))
   ·refine JL.seq (Gq [13,15] [K] mixed rfl ?_);refine Bd 0 rfl rfl (Bd 1 rfl rfl ?_);refine Bd 2 rfl rfl (Bd 3 rfl rfl ?_);refine Bd 4 rfl rfl (Bd 5 rfl rfl ?_);refine Cd 6 hW.2 aN underlying130 AK ?_;obtain⟨ak,a9,dj⟩:=bs dh;obtain⟨_,⟨_,_,rfl,rfl,⟨_,_,rfl,rfl,⟨ba,bb,rfl,dk⟩⟩⟩,dl⟩:=WL.at (V.1.Ag (aa.Ab av)) a9;refine DK 7 [iV ak.1,iV ak.2.1,sV ba ak.2.2 bb] 0 az dl B6 AK ?_;refine Bd 8 rfl rfl (Bd 9 rfl rfl ?_);obtain⟨al,aY,dm⟩:=bs dj;obtain⟨_,⟨_,_,rfl,rfl,⟨_,_,rfl,rfl,⟨bc,bd,rfl,dn⟩⟩⟩,dp⟩:=WL.at (V.1.Ag (aa.Ab av)) aY;refine Cd 10 (V.1).2 aY underlying130 AK ?_;refine DK 11 [iV al.1,iV al.2.1,sV bc al.2.2 bd] 0 az dp B6 AK ?_;refine Cd 12 (V.1).2 aY underlying130 AK ?_;have bM:=WL.put (x':=ak) (ws':= [iV ak.1,iV ak.2.1,sV ba ak.2.2 bb]) (V.1.Ag (aa.Ab av)) (V.1).2 aY ⟨_,_,rfl,rfl,⟨_,_,rfl,rfl,⟨_,_,rfl,dk⟩⟩⟩;refine DJ 13 0 az AK bM.2 fun dq=>?_;refine Cd 14 (V.1).2 a9 underlying130 AK ?_;have bN:=WL.put (x':=al) (ws':= [iV al.1,iV al.2.1,sV bc al.2.2 bd]) bM.1 (V.1).2 a9 ⟨_,_,rfl,rfl,⟨_,_,rfl,rfl,⟨_,_,rfl,dn⟩⟩⟩;refine DJ 15 0 dq AK bN.2 fun dr=>?_;refine JB.fin (by decide+kernel) (zg 6 rfl ?_);obtain rfl:=oi dm;exact AN func185 rfl rfl (bK (aa.Ab av) rfl ⟨(Ba (Ba (Ba (Ba ag (Int.toNat (p1)*3) [iV O.1,iV O.2.1,sV ah O.2.2 c4]) (Int.toNat (p3)*3) [iV U.1,iV U.2.1,sV ai U.2.2 aj]) (Int.toNat (a7)*3) [iV ak.1,iV ak.2.1,sV ba ak.2.2 bb]) (Int.toNat (p1)*3) [iV al.1,iV al.2.1,sV bc al.2.2 bd]),rfl,(by first | rfl | simp | (simp [Value.cells])),bN.1⟩ dr)
   ·refine zg 2 rfl (Gq [13,15] [K] mixed rfl ?_);refine Bd 0 rfl rfl (Bd 1 rfl rfl ?_);refine Bd 2 rfl rfl (Bd 3 rfl rfl ?_);refine Bd 4 rfl rfl (Bd 5 rfl rfl ?_);obtain⟨am,aZ,dt⟩:=bs di;obtain⟨_,⟨_,_,rfl,rfl,⟨_,_,rfl,rfl,⟨be,bf,rfl,du⟩⟩⟩,dv⟩:=WL.at (V.1.Ag (aa.Ab av)) aZ;refine Cd 6 (V.1).2 aZ underlying130 AK ?_;refine DK 7 [iV am.1,iV am.2.1,sV be am.2.2 bf] 0 az dv B6 AK ?_;refine Bd 8 rfl rfl (Bd 9 rfl rfl ?_);obtain⟨an,a0,dw⟩:=bs dt;obtain⟨_,⟨_,_,rfl,rfl,⟨_,_,rfl,rfl,⟨bg,bh,rfl,dx⟩⟩⟩,dy⟩:=WL.at (V.1.Ag (aa.Ab av)) a0;refine Cd 10 (V.1).2 a0 underlying130 AK ?_;refine DK 11 [iV an.1,iV an.2.1,sV bg an.2.2 bh] 0 az dy B6 AK ?_;refine Cd 12 (V.1).2 a0 underlying130 AK ?_;have bO:=WL.put (x':=am) (ws':= [iV am.1,iV am.2.1,sV be am.2.2 bf]) (V.1.Ag (aa.Ab av)) (V.1).2 a0 ⟨_,_,rfl,rfl,⟨_,_,rfl,rfl,⟨_,_,rfl,du⟩⟩⟩;refine DJ 13 0 az AK bO.2 fun dz=>?_;refine Cd 14 (V.1).2 aZ underlying130 AK ?_;have bP:=WL.put (x':=an) (ws':= [iV an.1,iV an.2.1,sV bg an.2.2 bh]) bO.1 (V.1).2 aZ ⟨_,_,rfl,rfl,⟨_,_,rfl,rfl,⟨_,_,rfl,dx⟩⟩⟩;refine DJ 15 0 dz AK bP.2 fun dA=>?_;refine JB.fin (by decide+kernel) ?_;obtain⟨gj,dB,dC⟩:=bs dw;refine zg 3 rfl (Bg dB rfl rfl rfl ?_);obtain⟨gk,dD,dE⟩:=bs dC;refine zg 5 rfl (BW dD rfl rfl rfl ?_);obtain⟨bi,dF,dG⟩:=bs dE;refine zg 3 rfl (Bs (fun L s=>∃(bj:LH) (f102:Ay),Jn a8 H bj [bX K f102 133] [(0,.slice (Bc K) Y W),(1,iV p1),(13,iV bi.1)] L s (WL 133 Cc bj K W Y f102 bi.2)) ?_ ?_)
    ·rintro _ _ ⟨bj,f102,rfl,rfl,dH,bl,ar⟩;refine JL.seq (Gq [13,15] [K] mixed rfl ?_);refine Bd 0 rfl rfl (Bd 1 rfl rfl ?_);refine Bd 2 rfl rfl (Bd 3 rfl rfl ?_);refine Bd 4 rfl rfl (Bd 5 rfl rfl ?_);obtain⟨ao,a1,dI⟩:=bs dG;obtain⟨_,⟨_,_,rfl,rfl,⟨_,_,rfl,rfl,⟨bm,bn,rfl,dJ⟩⟩⟩,dK⟩:=WL.at ar a1;refine Cd 6 ar.2 a1 underlying130 AK ?_;refine DK 7 [iV ao.1,iV ao.2.1,sV bm ao.2.2 bn] 0 bl dK B6 AK ?_;refine Bd 8 rfl rfl (Bd 9 rfl rfl ?_);obtain⟨ap,a2,dL⟩:=bs dI;obtain⟨_,⟨_,_,rfl,rfl,⟨_,_,rfl,rfl,⟨bo,bp,rfl,dM⟩⟩⟩,dN⟩:=WL.at ar a2;refine Cd 10 ar.2 a2 underlying130 AK ?_;refine DK 11 [iV ap.1,iV ap.2.1,sV bo ap.2.2 bp] 0 bl dN B6 AK ?_;refine Cd 12 ar.2 a2 underlying130 AK ?_;have bQ:=WL.put (x':=ao) (ws':= [iV ao.1,iV ao.2.1,sV bm ao.2.2 bn]) ar ar.2 a2 ⟨_,_,rfl,rfl,⟨_,_,rfl,rfl,⟨_,_,rfl,dJ⟩⟩⟩;refine DJ 13 0 bl AK bQ.2 fun dO=>?_;refine Cd 14 ar.2 a1 underlying130 AK ?_;have bR:=WL.put (x':=ap) (ws':= [iV ap.1,iV ap.2.1,sV bo ap.2.2 bp]) bQ.1 ar.2 a1 ⟨_,_,rfl,rfl,⟨_,_,rfl,rfl,⟨_,_,rfl,dM⟩⟩⟩;refine DJ 15 0 dO AK bR.2 fun dP=>?_;refine JB.fin (by decide+kernel) (zg 6 rfl ?_);obtain rfl:=oi dL;exact AN func185 rfl rfl (bK ((aa.Ab av).Ab dH) rfl ⟨(Ba (Ba f102 (Int.toNat (bi.1)*3) [iV ao.1,iV ao.2.1,sV bm ao.2.2 bn]) (Int.toNat (p1)*3) [iV ap.1,iV ap.2.1,sV bo ap.2.2 bp]),rfl,(by first | rfl | simp | (simp [Value.cells])),bR.1⟩ dP)
    ·intro dQ;refine JL.block (CP dF (fun L s au=>∃(bq:LH) (f127:Ay),Jn a8 H bq [bX K f127 133] [(0,.slice (Bc K) Y W),(1,iV p1),(4,(fV 134)),(12,iV au.1),(13,iV au.2.1)] L s (WL 133 Cc bq K W Y f127 au.2.2)) ⟨a8,(Ba (Ba (Ba (Ba ag (Int.toNat (p1)*3) [iV O.1,iV O.2.1,sV ah O.2.2 c4]) (Int.toNat (p3)*3) [iV U.1,iV U.2.1,sV ai U.2.2 aj]) (Int.toNat (ay)*3) [iV am.1,iV am.2.1,sV be am.2.2 bf]) (Int.toNat (a7)*3) [iV an.1,iV an.2.1,sV bg an.2.2 bh]),rfl,rfl,Aq,dA,bP.1⟩ ?_);rintro _ _ au ⟨bq,f127,rfl,rfl,bS,dR,Z⟩ dS ⟨gl,br⟩ dT;have bT:=br;unfold Ia at bT;obtain⟨aw,dU,dV⟩:=bs bT;refine zg 2 rfl (Cq [bX K f127 133] [(0,.slice (Bc K) Y W),(1,iV p1),(4,(fV 134)),(12,iV aw),(13,iV au.2.1)] (fun gm aq dW=>?_) (fun dX=>?_))
     ·obtain⟨bu,dY,dZ⟩:=bs dV;refine JL.seq (Cq [bX K f127 133] [(0,.slice (Bc K) Y W),(1,iV p1),(4,(fV 134)),(12,iV aw),(13,iV bu)] (fun bU aA a3=>?_) (fun ea=>?_))
      ·refine zg 7 rfl (AS dZ (fun eb ec=>?_) (fun eb ed=>?_))
       ·refine JL.exit rfl ?_;obtain rfl:=oi ec;obtain rfl:=dS _ br;exact AB (dQ _ _ ⟨bU,f127,rfl,rfl,((bS.Ab aq).Ab aA),a3,(Z.Ag (aq.Ab aA))⟩) rfl
       ·refine zg 2 rfl (Gq [13,15] [K] mixed rfl ?_);refine Bd 0 rfl rfl (Bd 1 rfl rfl ?_);refine Bd 2 rfl rfl (Bd 3 rfl rfl ?_);refine Bd 4 rfl rfl (Bd 5 rfl rfl ?_);obtain⟨ab,a4,ee⟩:=bs ed;obtain⟨_,⟨_,_,rfl,rfl,⟨_,_,rfl,rfl,⟨bv,bw,rfl,ef⟩⟩⟩,eg⟩:=WL.at (Z.Ag (aq.Ab aA)) a4;refine Cd 6 Z.2 a4 underlying130 AK ?_;refine DK 7 [iV ab.1,iV ab.2.1,sV bv ab.2.2 bw] 0 a3 eg B6 AK ?_;refine Bd 8 rfl rfl (Bd 9 rfl rfl ?_);obtain⟨ae,a5,eh⟩:=bs ee;obtain⟨_,⟨_,_,rfl,rfl,⟨_,_,rfl,rfl,⟨bx,bz,rfl,ei⟩⟩⟩,ej⟩:=WL.at (Z.Ag (aq.Ab aA)) a5;refine Cd 10 Z.2 a5 underlying130 AK ?_;refine DK 11 [iV ae.1,iV ae.2.1,sV bx ae.2.2 bz] 0 a3 ej B6 AK ?_;refine Cd 12 Z.2 a5 underlying130 AK ?_;have bV:=WL.put (x':=ab) (ws':= [iV ab.1,iV ab.2.1,sV bv ab.2.2 bw]) (Z.Ag (aq.Ab aA)) Z.2 a5 ⟨_,_,rfl,rfl,⟨_,_,rfl,rfl,⟨_,_,rfl,ef⟩⟩⟩;refine DJ 13 0 a3 AK bV.2 fun ek=>?_;refine Cd 14 Z.2 a4 underlying130 AK ?_;have bW:=WL.put (x':=ae) (ws':= [iV ae.1,iV ae.2.1,sV bx ae.2.2 bz]) bV.1 Z.2 a4 ⟨_,_,rfl,rfl,⟨_,_,rfl,rfl,⟨_,_,rfl,ei⟩⟩⟩;refine DJ 15 0 ek AK bW.2 fun el=>?_;refine JB.fin (by decide+kernel) ?_;obtain⟨em,en,eo⟩:=bs eh;refine zg 3 rfl (Bg en rfl rfl rfl ?_);obtain⟨ep,eq,er⟩:=bs eo;refine zg 4 rfl (BW eq rfl rfl rfl ?_);refine zg 3 rfl ?_;obtain rfl:=oi er;exact AB (dT _ _ (em,ep,((au.2.2.set (Int.toNat aw) ab).set (Int.toNat bu) ae)) ⟨bU,(Ba (Ba f127 (Int.toNat (aw)*3) [iV ab.1,iV ab.2.1,sV bv ab.2.2 bw]) (Int.toNat (bu)*3) [iV ae.1,iV ae.2.1,sV bx ae.2.2 bz]),rfl,rfl,((bS.Ab aq).Ab aA),el,bW.1⟩ br) rfl
      ·refine JL.block (Cs dY (fun aO=> [bX K f127 133]) (fun aO=> [(0,.slice (Bc K) Y W),(1,iV p1),(4,(fV 134)),(12,iV aw),(13,iV aO)]) Aq dW ?_);rintro aO bY aB aP et ⟨gn,bA⟩ eu;have bZ:=bA;unfold IJ at bZ;refine zg 2 rfl (CZ 17 [K] ⟨⟨0,_,rfl⟩,trivial⟩ aP fun ht=>?_);refine Bp ht rfl [0,1,2,3] rfl ?_;obtain⟨ew,b0,ex⟩:=bs bZ;refine FL 0 #[true,true,true,true,true,true,true,true,true,true,true,true,true,true,true,true,true] (fun L s=>∃(b1:LH),Jm bY H b1 [bX K f127 133] [(0,.slice (Bc K) Y W),(1,iV p1),(4,(fV 134)),(12,iV aw),(13,iV aO),(139,.bool ew)] L s) ?_ ?_
       ·rintro _ _ ⟨b1,rfl,rfl,b2,b3⟩;refine AO.fin (by decide+kernel) (BL ex (fun ey ez=>?_) (fun ey eA=>?_))
        ·obtain⟨eB,eC,eD⟩:=bs ez;refine zg 4 rfl (BW eC rfl rfl rfl ?_);refine zg 3 rfl ?_;obtain rfl:=oi eD;exact eu eB (aB.Ab b2) b3 rfl bA
        ·refine JL.exit rfl ?_;obtain rfl:=oi eA;obtain rfl:=et _ bA;exact ea (aB.Ab b2) b3 rfl
       ·intro b4;refine FY (q:=aw≤aO) (i:=126) rfl (fun bB=>?_) (fun bB=>?_)
        ·have eE:=ip b0 bB;refine Bp ht rfl [4,5,6] rfl ?_;obtain⟨aC,b5,eF⟩:=bs eE;obtain⟨_,⟨_,_,rfl,rfl,⟨_,_,rfl,rfl,⟨b6,b7,rfl,eG⟩⟩⟩,eH⟩:=WL.at (Z.Ag (aq.Ab aB)) b5;refine BC 7 ht rfl rfl (fun ρ h s' hs=>F3 ((Z.Ag (aq.Ab aB))).2 b5 underlying130 AK (h _ _ rfl) (h _ _ rfl)) ?_;refine Dw 8 ht [iV aC.1,iV aC.2.1,sV b6 aC.2.2 b7] 0 aP eH B6 AK ?_;refine Bp ht rfl [9,10] rfl ?_;obtain⟨aD,b8,eI⟩:=bs eF;obtain⟨_,⟨_,_,rfl,rfl,⟨_,_,rfl,rfl,⟨b9,ca,rfl,eJ⟩⟩⟩,eK⟩:=WL.at (Z.Ag (aq.Ab aB)) b8;refine BC 11 ht rfl rfl (fun ρ h s' hs=>F3 ((Z.Ag (aq.Ab aB))).2 b8 underlying130 AK (h _ _ rfl) (h _ _ rfl)) ?_;refine Dw 12 ht [iV aD.1,iV aD.2.1,sV b9 aD.2.2 ca] 0 aP eK B6 AK ?_;obtain⟨eL,eM,eN⟩:=bs eI;refine Hb (i:=13) ⟨⟨0,_,rfl⟩,trivial⟩ (vs:= [.agg #[iV aC.1,iV aC.2.1,sV b6 aC.2.2 b7],.agg #[iV aD.1,iV aD.2.1,sV b9 aD.2.2 ca]]) (Gs eG eJ eM) (by decide+kernel) rfl rfl rfl rfl Gk rfl aP ?_;rintro _ eO _ eP ⟨rfl,rfl⟩ eQ;refine Ct 14 ht rfl rfl ?_;refine BC (v:= .bool (decide (¬(eL<0)))) 15 ht rfl rfl (fun ρ h s' hs=>Ig (h _ _ rfl)) ?_;refine Ct 16 ht rfl rfl ?_;obtain rfl:=oi eN;refine DD ?_ (b4 _ _ ⟨eO,rfl,rfl,eP,eQ⟩);exact⟨rfl,rfl,rfl,rfl,rfl,rfl,trivial⟩
        ·have eR:=im b0 bB;refine Bp ht rfl [4,5,6,7,8,9,10,11,12,13,14,15,16] rfl ?_;obtain rfl:=oi eR;refine DD ?_ (b4 _ _ ⟨bY,rfl,rfl,Aq,aP⟩);exact⟨rfl,rfl,rfl,rfl,rfl,rfl,trivial⟩
     ·refine JL.block (Cs dU (fun aQ=> [bX K f127 133]) (fun aQ=> [(0,.slice (Bc K) Y W),(1,iV p1),(4,(fV 134)),(12,iV aQ),(13,iV au.2.1)]) Aq dR ?_);rintro aQ cb aE aR eS ⟨gp,bC⟩ eT;have cc:=bC;unfold II at cc;refine zg 2 rfl (CZ 16 [K] ⟨⟨0,_,rfl⟩,trivial⟩ aR fun ht=>?_);refine Bp ht rfl [0,1,2,3] rfl ?_;obtain⟨eU,cd,eV⟩:=bs cc;refine FL 0 #[true,true,true,true,true,true,true,true,true,true,true,true,true,true,true,true] (fun L s=>∃(ce:LH),Jm cb H ce [bX K f127 133] [(0,.slice (Bc K) Y W),(1,iV p1),(4,(fV 134)),(12,iV aQ),(13,iV au.2.1),(120,.bool eU)] L s) ?_ ?_
      ·rintro _ _ ⟨ce,rfl,rfl,cf,cg⟩;refine AO.fin (by decide+kernel) (BL eV (fun eW eX=>?_) (fun eW eY=>?_))
       ·obtain⟨eZ,e0,e1⟩:=bs eX;refine zg 4 rfl (Bg e0 rfl rfl rfl ?_);refine zg 3 rfl ?_;obtain rfl:=oi e1;exact eT eZ (aE.Ab cf) cg rfl bC
       ·refine JL.exit rfl ?_;obtain rfl:=oi eY;obtain rfl:=eS _ bC;exact dX (aE.Ab cf) cg rfl
      ·intro ci;refine FY (q:=aQ≤au.2.1) (i:=108) rfl (fun bD=>?_) (fun bD=>?_)
       ·have e2:=ip cd bD;refine Bp ht rfl [4,5,6] rfl ?_;obtain⟨aF,ck,e3⟩:=bs e2;obtain⟨_,⟨_,_,rfl,rfl,⟨_,_,rfl,rfl,⟨cm,cn,rfl,e4⟩⟩⟩,e5⟩:=WL.at (Z.Ag aE) ck;refine BC 7 ht rfl rfl (fun ρ h s' hs=>F3 ((Z.Ag aE)).2 ck underlying130 AK (h _ _ rfl) (h _ _ rfl)) ?_;refine Dw 8 ht [iV aF.1,iV aF.2.1,sV cm aF.2.2 cn] 0 aR e5 B6 AK ?_;refine Bp ht rfl [9,10] rfl ?_;obtain⟨aG,co,e6⟩:=bs e3;obtain⟨_,⟨_,_,rfl,rfl,⟨_,_,rfl,rfl,⟨cp,cq,rfl,e7⟩⟩⟩,e8⟩:=WL.at (Z.Ag aE) co;refine BC 11 ht rfl rfl (fun ρ h s' hs=>F3 ((Z.Ag aE)).2 co underlying130 AK (h _ _ rfl) (h _ _ rfl)) ?_;refine Dw 12 ht [iV aG.1,iV aG.2.1,sV cp aG.2.2 cq] 0 aR e8 B6 AK ?_;obtain⟨gq,e9,fa⟩:=bs e6;refine Hb (i:=13) ⟨⟨0,_,rfl⟩,trivial⟩ (vs:= [.agg #[iV aF.1,iV aF.2.1,sV cm aF.2.2 cn],.agg #[iV aG.1,iV aG.2.1,sV cp aG.2.2 cq]]) (Gs e4 e7 e9) (by decide+kernel) rfl rfl rfl rfl Gk rfl aR ?_;rintro _ fb _ fc ⟨rfl,rfl⟩ fd;refine Bp ht rfl [14,15] rfl ?_;obtain rfl:=oi fa;refine DD ?_ (ci _ _ ⟨fb,rfl,rfl,fc,fd⟩);exact⟨rfl,rfl,rfl,rfl,rfl,rfl,trivial⟩
       ·have fe:=im cd bD;refine Bp ht rfl [4,5,6,7,8,9,10,11,12,13,14,15] rfl ?_;obtain rfl:=oi fe;refine DD ?_ (ci _ _ ⟨cb,rfl,rfl,Aq,aR⟩);exact⟨rfl,rfl,rfl,rfl,rfl,rfl,trivial⟩
  ·refine JL.block (Cs dd (fun aS=> [bX K (Ba (Ba ag (Int.toNat (p1)*3) [iV O.1,iV O.2.1,sV ah O.2.2 c4]) (Int.toNat (p3)*3) [iV U.1,iV U.2.1,sV ai U.2.2 aj]) 133]) (fun aS=> [(0,.slice (Bc K) Y W),(1,iV p1),(4,(fV 134)),(12,iV ay),(13,iV aS)]) Aq db ?_);rintro aS cr aH aT ff ⟨gr,bE⟩ fg;have ct:=bE;unfold Jw at ct;refine zg 2 rfl (CZ 17 [K] ⟨⟨0,_,rfl⟩,trivial⟩ aT fun ht=>?_);refine Bp ht rfl [0,1,2,3] rfl ?_;obtain⟨fh,cu,fj⟩:=bs ct;refine FL 0 #[true,true,true,true,true,true,true,true,true,true,true,true,true,true,true,true,true] (fun L s=>∃(cv:LH),Jm cr H cv [bX K (Ba (Ba ag (Int.toNat (p1)*3) [iV O.1,iV O.2.1,sV ah O.2.2 c4]) (Int.toNat (p3)*3) [iV U.1,iV U.2.1,sV ai U.2.2 aj]) 133] [(0,.slice (Bc K) Y W),(1,iV p1),(4,(fV 134)),(12,iV ay),(13,iV aS),(66,.bool fh)] L s) ?_ ?_
   ·rintro _ _ ⟨cv,rfl,rfl,cw,cy⟩;refine AO.fin (by decide+kernel) (BL fj (fun fk fm=>?_) (fun fk fo=>?_))
    ·obtain⟨fp,fq,fs⟩:=bs fm;refine zg 4 rfl (BW fq rfl rfl rfl ?_);refine zg 3 rfl ?_;obtain rfl:=oi fs;exact fg fp (aH.Ab cw) cy rfl bE
    ·refine JL.exit rfl ?_;obtain rfl:=oi fo;obtain rfl:=ff _ bE;exact df (aH.Ab cw) cy rfl
   ·intro cz;refine FY (q:=ay≤aS) (i:=53) rfl (fun bF=>?_) (fun bF=>?_)
    ·have fu:=ip cu bF;refine Bp ht rfl [4,5,6] rfl ?_;obtain⟨aI,cA,fv⟩:=bs fu;obtain⟨_,⟨_,_,rfl,rfl,⟨_,_,rfl,rfl,⟨cB,cC,rfl,fw⟩⟩⟩,fx⟩:=WL.at (V.1.Ag (aa.Ab aH)) cA;refine BC 7 ht rfl rfl (fun ρ h s' hs=>F3 ((V.1.Ag (aa.Ab aH))).2 cA underlying130 AK (h _ _ rfl) (h _ _ rfl)) ?_;refine Dw 8 ht [iV aI.1,iV aI.2.1,sV cB aI.2.2 cC] 0 aT fx B6 AK ?_;refine Bp ht rfl [9,10] rfl ?_;obtain⟨aJ,cD,fy⟩:=bs fv;obtain⟨_,⟨_,_,rfl,rfl,⟨_,_,rfl,rfl,⟨cE,cF,rfl,fz⟩⟩⟩,fA⟩:=WL.at (V.1.Ag (aa.Ab aH)) cD;refine BC 11 ht rfl rfl (fun ρ h s' hs=>F3 ((V.1.Ag (aa.Ab aH))).2 cD underlying130 AK (h _ _ rfl) (h _ _ rfl)) ?_;refine Dw 12 ht [iV aJ.1,iV aJ.2.1,sV cE aJ.2.2 cF] 0 aT fA B6 AK ?_;obtain⟨fB,fC,fD⟩:=bs fy;refine Hb (i:=13) ⟨⟨0,_,rfl⟩,trivial⟩ (vs:= [.agg #[iV aI.1,iV aI.2.1,sV cB aI.2.2 cC],.agg #[iV aJ.1,iV aJ.2.1,sV cE aJ.2.2 cF]]) (Gs fw fz fC) (by decide+kernel) rfl rfl rfl rfl Gk rfl aT ?_;rintro _ fE _ fF ⟨rfl,rfl⟩ fG;refine Ct 14 ht rfl rfl ?_;refine BC (v:= .bool (decide (¬(fB<0)))) 15 ht rfl rfl (fun ρ h s' hs=>Ig (h _ _ rfl)) ?_;refine Ct 16 ht rfl rfl ?_;obtain rfl:=oi fD;refine DD ?_ (cz _ _ ⟨fE,rfl,rfl,fF,fG⟩);exact⟨rfl,rfl,rfl,rfl,rfl,rfl,trivial⟩
    ·have fH:=im cu bF;refine Bp ht rfl [4,5,6,7,8,9,10,11,12,13,14,15,16] rfl ?_;obtain rfl:=oi fH;refine DD ?_ (cz _ _ ⟨cr,rfl,rfl,Aq,aT⟩);exact⟨rfl,rfl,rfl,rfl,rfl,rfl,trivial⟩
 ·refine JL.block (Cs c9 (fun aU=> [bX K (Ba (Ba ag (Int.toNat (p1)*3) [iV O.1,iV O.2.1,sV ah O.2.2 c4]) (Int.toNat (p3)*3) [iV U.1,iV U.2.1,sV ai U.2.2 aj]) 133]) (fun aU=> [(0,.slice (Bc K) Y W),(1,iV p1),(4,(fV 134)),(12,iV aU),(13,iV aX)]) Aq c3 ?_);rintro aU cG aK aV fI ⟨gt,bG⟩ fJ;have cH:=bG;unfold JD at cH;refine zg 2 rfl (CZ 16 [K] ⟨⟨0,_,rfl⟩,trivial⟩ aV fun ht=>?_);refine Bp ht rfl [0,1,2,3] rfl ?_;obtain⟨fK,cI,fL⟩:=bs cH;refine FL 0 #[true,true,true,true,true,true,true,true,true,true,true,true,true,true,true,true] (fun L s=>∃(cJ:LH),Jm cG H cJ [bX K (Ba (Ba ag (Int.toNat (p1)*3) [iV O.1,iV O.2.1,sV ah O.2.2 c4]) (Int.toNat (p3)*3) [iV U.1,iV U.2.1,sV ai U.2.2 aj]) 133] [(0,.slice (Bc K) Y W),(1,iV p1),(4,(fV 134)),(12,iV aU),(13,iV aX),(47,.bool fK)] L s) ?_ ?_
  ·rintro _ _ ⟨cJ,rfl,rfl,cK,cM⟩;refine AO.fin (by decide+kernel) (BL fL (fun fM fN=>?_) (fun fM fO=>?_))
   ·obtain⟨fP,fQ,fR⟩:=bs fN;refine zg 4 rfl (Bg fQ rfl rfl rfl ?_);refine zg 3 rfl ?_;obtain rfl:=oi fR;exact fJ fP (aK.Ab cK) cM rfl bG
   ·refine JL.exit rfl ?_;obtain rfl:=oi fO;obtain rfl:=fI _ bG;exact dc (aK.Ab cK) cM rfl
  ·intro cN;refine FY (q:=aU≤aX) (i:=35) rfl (fun bH=>?_) (fun bH=>?_)
   ·have fS:=ip cI bH;refine Bp ht rfl [4,5,6] rfl ?_;obtain⟨aL,cO,fT⟩:=bs fS;obtain⟨_,⟨_,_,rfl,rfl,⟨_,_,rfl,rfl,⟨cP,cQ,rfl,fU⟩⟩⟩,fW⟩:=WL.at (V.1.Ag aK) cO;refine BC 7 ht rfl rfl (fun ρ h s' hs=>F3 ((V.1.Ag aK)).2 cO underlying130 AK (h _ _ rfl) (h _ _ rfl)) ?_;refine Dw 8 ht [iV aL.1,iV aL.2.1,sV cP aL.2.2 cQ] 0 aV fW B6 AK ?_;refine Bp ht rfl [9,10] rfl ?_;obtain⟨aM,cR,fX⟩:=bs fT;obtain⟨_,⟨_,_,rfl,rfl,⟨_,_,rfl,rfl,⟨cT,cV,rfl,fY⟩⟩⟩,fZ⟩:=WL.at (V.1.Ag aK) cR;refine BC 11 ht rfl rfl (fun ρ h s' hs=>F3 ((V.1.Ag aK)).2 cR underlying130 AK (h _ _ rfl) (h _ _ rfl)) ?_;refine Dw 12 ht [iV aM.1,iV aM.2.1,sV cT aM.2.2 cV] 0 aV fZ B6 AK ?_;obtain⟨gu,ga,gb⟩:=bs fX;refine Hb (i:=13) ⟨⟨0,_,rfl⟩,trivial⟩ (vs:= [.agg #[iV aL.1,iV aL.2.1,sV cP aL.2.2 cQ],.agg #[iV aM.1,iV aM.2.1,sV cT aM.2.2 cV]]) (Gs fU fY ga) (by decide+kernel) rfl rfl rfl rfl Gk rfl aV ?_;rintro _ gc _ gd ⟨rfl,rfl⟩ ge;refine Bp ht rfl [14,15] rfl ?_;obtain rfl:=oi gb;refine DD ?_ (cN _ _ ⟨gc,rfl,rfl,gd,ge⟩);exact⟨rfl,rfl,rfl,rfl,rfl,rfl,trivial⟩
   ·have gf:=im cI bH;refine Bp ht rfl [4,5,6,7,8,9,10,11,12,13,14,15] rfl ?_;obtain rfl:=oi gf;refine DD ?_ (cN _ _ ⟨cG,rfl,rfl,Aq,aV⟩);exact⟨rfl,rfl,rfl,rfl,rfl,rfl,trivial⟩
end Pal
namespace Pal
open Go Go.Conc Go.Proofs
open Go.Proofs.Tryz
variable {J:Judge Tryz.prog}{E:LH}
def KZ(fuel:Nat)(p0:List Be)(p1:Int)(p2:Int)(p3:Int)(ap:Unit):Option (Bi Unit (((List Be))⊕(Unit))):= (Av (p2 - p1)).bind fun Y=> if Y≤12 then((f178 fuel p0 p1 p2).bind fun Z=> some (.done (Sum.inl Z))) else(if p3=0 then(none) else((f181 fuel p0 p1 p2).bind fun O=> Option.bind (if O.2=2 then((f182 fuel p0 p1 p2).bind fun aa=> (Av (p2 - 1)).bind fun ab=> (Av (O.1 - p1)).bind fun ae=> (Av (ab - ae)).bind fun ag=> some (ag,1,aa)) else(some (O.1,O.2,p0))) fun K=> Option.bind (if K.2.1=1 then((f183 fuel K.2.2 p1 p2).bind fun U=> if U.1=true then(some (Sum.inl U.2)) else(some (Sum.inr U.2))) else(some (Sum.inr K.2.2))) fun ah=>Sum.elim (fun r=>some (.done (Sum.inl r))) (fun V=> Option.bind (if 0<p1 then((Av (p1 - 1)).bind fun ai=> (ix V ai).bind fun aj=> (ix V K.1).bind fun ak=> (f134 fuel aj ak).bind fun al=> some (decide (¬(al<0)))) else(some false)) fun am=> if am=true then(none) else((f185 fuel V p1 p2 K.1).bind fun W=> (Av (W.1 - p1)).bind fun an=> (Av (p2 - W.1)).bind fun ao=> (G1 Y (8)).bind fun aq=> if an<ao then(none) else((Av (W.1+1)).bind fun ar=> none))) ah))
def HM(fuel:Nat)(p0:List Be)(p1:Int)(p2:Int)(p3:Int):Option ((List Be)):= Option.bind (iter (KZ fuel p0 p1 p2 p3) fuel ()) fun K=> Sum.elim (fun r=>some r) (fun O=> none) K
theorem PG{K:Nat}{O:Nat}{U:Nat}{ah:Ay}{p0:List (Be)}{p1:Int}{p2:Int}{p3:Int}(hW:WL 133 Cc E K O U ah p0){fuel:Nat}{r:(List Be)}(an:HM fuel p0 p1 p2 p3=some r):AP J 162 [.slice (Bc K) U O,iV p1,iV p2,iV p3,(fV 134)] E [(K,.cells ah 133 (0,0))] (fun w E' B'=>∃(ao:Ay),w= .tuple #[]∧B'= [(K,.cells ao 133 (0,0))]∧WL 133 Cc E' K O U ao r):=by
 refine A9 func162 fun Q cq cs H aR ap=>?_;unfold HM at an;obtain⟨cr,aS,aq⟩:=bs an;refine zg 8 rfl (Bs (fun L s=>False) ?_ ?_)
 ·intro _ _ aT;exact aT.elim
 ·intro ct;refine JL.block (Cs aS (fun ar=> [bX K ah 133]) (fun ar=> [(0,.slice (Bc K) U O),(1,iV p1),(2,iV p2),(3,iV p3),(4,(fV 134)),(10,.bool true),(11,.bool true)]) Aq aR ?_);rintro ar cu V au av ⟨cv,ai⟩ cw;have aw:=ai;unfold KZ at aw;obtain⟨aj,aU,aV⟩:=bs aw;refine zg 5 rfl (BW aU rfl rfl rfl ?_);refine zg 8 rfl (AS aV (fun aW aX=>?_) (fun aW aY=>?_))
  ·obtain⟨cy,aZ,a0⟩:=bs aX;refine zg 6 rfl (BP 0 (QE (hW.Ag V) aZ) rfl rfl Mi au rfl ?_);rintro _ cz _ a1 ⟨f32,rfl,rfl,a2⟩ a3;refine JL.done ?_;obtain rfl:=oi a0;obtain rfl:=av _ ai;have a4:=elim_inl aq;obtain rfl:=oi a4;exact AN func162 rfl rfl (ap (V.Ab a1) rfl ⟨f32,rfl,(by first | rfl | simp | (simp [Value.cells])),a2⟩ a3)
  ·refine zg 7 rfl (AS aY (fun a5 a6=>?_) (fun a5 a7=>?_))
   ·refine zg 6 rfl ?_;cases a6
   ·refine zg 5 rfl (Az (v:= .bool false) rfl (fun ρ h=>Yl.not (c:=true) (h _ _ rfl)) ?_);obtain⟨cA,a8,a9⟩:=bs a7;refine zg 9 rfl (BP 0 (Qe (hW.Ag V) a8) rfl rfl (AX func181 rfl) au rfl ?_);rintro _ ay _ ak ⟨rfl,rfl⟩ az;obtain⟨W,ba,bb⟩:=bs a9;refine zg 12 rfl (Bs (fun L s=>∃(aa:LH) (f56:Ay),Jn ay H aa [bX K f56 133] [(0,.slice (Bc K) U O),(1,iV p1),(2,iV p2),(3,iV p3),(4,(fV 134)),(10,.bool true),(11,.bool true),(12,iV aj),(13,iV W.1),(14,iV W.2.1)] L s (WL 133 Cc aa K O U f56 W.2.2)) ?_ ?_)
    ·rintro _ _ ⟨aa,f56,rfl,rfl,bc,aA,aB⟩;obtain⟨bd,be,aC⟩:=bs bb;refine zg 12 rfl (Bs (fun L s=>∃(al:(List Be)) (ab:LH) (f65:Ay),bd=Sum.inr al∧Jn aa H ab [bX K f65 133] [(0,.slice (Bc K) U O),(1,iV p1),(2,iV p2),(3,iV p3),(4,(fV 134)),(10,.bool true),(11,.bool true),(12,iV aj),(13,iV W.1)] L s (WL 133 Cc ab K O U f65 al)) ?_ ?_)
     ·rintro _ _ ⟨al,ab,f65,rfl,rfl,rfl,cB,ae,ag⟩;have bf:=elim_inr aC;refine zg 2 rfl (CZ 17 [K] ⟨⟨0,_,rfl⟩,trivial⟩ ae fun ht=>?_);refine Bp ht rfl [0,1,2] rfl ?_;obtain⟨bg,aD,bh⟩:=bs bf;refine FL 0 #[true,true,true,true,true,true,true,true,true,true,true,true,true,true,true,true,true] (fun L s=>∃(aE:LH),Jm ab H aE [bX K f65 133] [(0,.slice (Bc K) U O),(1,iV p1),(2,iV p2),(3,iV p3),(4,(fV 134)),(10,.bool true),(11,.bool true),(12,iV aj),(13,iV W.1),(97,.bool bg)] L s) ?_ ?_
      ·rintro _ _ ⟨aE,rfl,rfl,bi,bj⟩;refine AO.fin (by decide+kernel) (BL bh (fun bl bm=>?_) (fun bl bn=>?_))
       ·refine zg 7 rfl ?_;cases bm
       ·obtain⟨cC,bo,bp⟩:=bs bn;refine zg 8 rfl (BP 0 (QD (ag.Ag bi) bo) rfl rfl (AX func185 rfl) bj rfl ?_);rintro _ cD _ cE ⟨f83,rfl,rfl,cF⟩ cG;obtain⟨cH,bq,br⟩:=bs bp;refine zg 15 rfl (BW bq rfl rfl rfl ?_);obtain⟨cI,bu,bv⟩:=bs br;refine zg 2 rfl (BW bu rfl rfl rfl ?_);obtain⟨bw,bx,bz⟩:=bs bv;refine zg 6 rfl (Az (v:=iV bw) rfl (fun ρ h=>Jv (h _ _ rfl) (h _ _ rfl) bx) ?_);refine zg 8 rfl (AS bz (fun bA bB=>?_) (fun bA bC=>?_))
        ·refine zg 14 rfl ?_;cases bB
        ·obtain⟨cJ,bD,bE⟩:=bs bC;refine zg 11 rfl (Bg bD rfl rfl rfl ?_);refine zg 3 rfl ?_;cases bE
      ·intro aF;refine FY (q:=0<p1) (i:=83) rfl (fun am=>?_) (fun am=>?_)
       ·have bF:=ip aD am;refine Bp ht rfl [3,4,5] rfl ?_;obtain⟨cK,bG,bH⟩:=bs bF;refine BC 6 ht rfl rfl (fun ρ h s' hs=>CY (h _ _ rfl) (h _ _ rfl) bG) ?_;obtain⟨Y,aG,bI⟩:=bs bH;obtain⟨_,⟨_,_,rfl,rfl,⟨_,_,rfl,rfl,⟨aH,aI,rfl,bJ⟩⟩⟩,bK⟩:=WL.at ag aG;refine FB 7 ht (ag).2 aG underlying130 AK ?_;refine Dw 8 ht [iV Y.1,iV Y.2.1,sV aH Y.2.2 aI] 0 ae bK B6 AK ?_;refine Bp ht rfl [9,10] rfl ?_;obtain⟨Z,aJ,bL⟩:=bs bI;obtain⟨_,⟨_,_,rfl,rfl,⟨_,_,rfl,rfl,⟨aK,aL,rfl,bM⟩⟩⟩,bN⟩:=WL.at ag aJ;refine FB 11 ht (ag).2 aJ underlying130 AK ?_;refine Dw 12 ht [iV Z.1,iV Z.2.1,sV aK Z.2.2 aL] 0 ae bN B6 AK ?_;obtain⟨bO,bP,bQ⟩:=bs bL;refine Hb (i:=13) ⟨⟨0,_,rfl⟩,trivial⟩ (vs:= [.agg #[iV Y.1,iV Y.2.1,sV aH Y.2.2 aI],.agg #[iV Z.1,iV Z.2.1,sV aK Z.2.2 aL]]) (Gs bJ bM bP) (by decide+kernel) rfl rfl rfl rfl Gk rfl ae ?_;rintro _ bR _ bS ⟨rfl,rfl⟩ bT;refine Ct 14 ht rfl rfl ?_;refine BC (v:= .bool (decide (¬(bO<0)))) 15 ht rfl rfl (fun ρ h s' hs=>Ig (h _ _ rfl)) ?_;refine Ct 16 ht rfl rfl ?_;obtain rfl:=oi bQ;refine DD ?_ (aF _ _ ⟨bR,rfl,rfl,bS,bT⟩);exact⟨rfl,rfl,rfl,rfl,rfl,rfl,rfl,rfl,rfl,rfl,trivial⟩
       ·have bU:=im aD am;refine Bp ht rfl [3,4,5,6,7,8,9,10,11,12,13,14,15,16] rfl ?_;obtain rfl:=oi bU;refine DD ?_ (aF _ _ ⟨ab,rfl,rfl,Aq,ae⟩);exact⟨rfl,rfl,rfl,rfl,rfl,rfl,rfl,rfl,rfl,rfl,trivial⟩
     ·intro aM;refine AS be (fun bV bW=>?_) (fun bV bY=>?_)
      ·obtain⟨bZ,b0,b1⟩:=bs bW;refine zg 6 rfl (BP 0 (QI aB b0) rfl rfl (AX func183 rfl) aA rfl ?_);rintro _ b2 _ aN ⟨f133,rfl,rfl,aO⟩ aP;refine JL.done (BL b1 (fun b3 b4=>?_) (fun b3 b5=>?_))
       ·obtain rfl:=oi b4;have b6:=elim_inl aC;obtain rfl:=oi b6;obtain rfl:=av _ ai;have b7:=elim_inl aq;obtain rfl:=oi b7;exact AN func162 rfl rfl (ap (((V.Ab ak).Ab bc).Ab aN) rfl ⟨f133,rfl,(by first | rfl | simp | (simp [Value.cells])),aO⟩ aP)
       ·exact JL.skip (AB (aM _ _ ⟨bZ.2,b2,f133,(Option.some.inj b5).symm,rfl,rfl,aN,aP,aO⟩) rfl)
      ·exact JL.skip (AB (aM _ _ ⟨W.2.2,aa,f56,(Option.some.inj bY).symm,rfl,rfl,Aq,aA,aB⟩) rfl)
    ·intro aQ;refine AS ba (fun b8 b9=>?_) (fun b8 ca=>?_)
     ·obtain⟨cM,cb,cc⟩:=bs b9;refine zg 6 rfl (BP 0 (Qc (hW.Ag (V.Ab ak)) cb) rfl rfl (AX func182 rfl) az rfl ?_);rintro _ cd _ ce ⟨f156,rfl,rfl,cf⟩ cg;obtain⟨cN,ci,ck⟩:=bs cc;refine zg 4 rfl (BW ci rfl rfl rfl ?_);obtain⟨cO,cm,cn⟩:=bs ck;refine zg 2 rfl (BW cm rfl rfl rfl ?_);obtain⟨cP,co,cp⟩:=bs cn;refine BW co rfl rfl rfl (zg 5 rfl ?_);obtain rfl:=oi cp;exact AB (aQ _ _ ⟨cd,f156,rfl,rfl,ce,cg,cf⟩) rfl
     ·refine JL.skip ?_;obtain rfl:=oi ca;exact AB (aQ _ _ ⟨ay,ah,rfl,rfl,Aq,az,(hW.Ag (V.Ab ak))⟩) rfl
def GU(fuel:Nat)(p3:Int)(K:Int×Int×Bool×Bool×(List Be)):Option (Bi (Int×Int×Bool×Bool×(List Be)) (((List Be))⊕(Unit))):= Option.bind ((Av (K.2.1 - K.1)).bind fun aa=> if aa≤12 then((f178 fuel K.2.2.2.2 K.1 K.2.1).bind fun ah=> some (Sum.inl ah)) else(if p3=0 then(none) else(Option.bind (if(!K.2.2.1)=true then(none) else(some ())) fun aD=> (f181 fuel K.2.2.2.2 K.1 K.2.1).bind fun V=> Option.bind (if V.2=2 then((f182 fuel K.2.2.2.2 K.1 K.2.1).bind fun ai=> (Av (K.2.1 - 1)).bind fun aj=> (Av (V.1 - K.1)).bind fun ak=> (Av (aj - ak)).bind fun al=> some (al,1,ai)) else(some (V.1,V.2,K.2.2.2.2))) fun U=> Option.bind (if K.2.2.1=true then(some K.2.2.2.1) else(some false)) fun am=> Option.bind (if am=true then(some (decide (U.2.1=1))) else(some false)) fun an=> Option.bind (if an=true then((f183 fuel U.2.2 K.1 K.2.1).bind fun Y=> if Y.1=true then(some (Sum.inl Y.2)) else(some (Sum.inr Y.2))) else(some (Sum.inr U.2.2))) fun ao=>Sum.elim (fun r=>some (Sum.inl r)) (fun Z=> Option.bind (if 0<K.1 then((Av (K.1 - 1)).bind fun ap=> (ix Z ap).bind fun aq=> (ix Z U.1).bind fun ar=> (f134 fuel aq ar).bind fun au=> some (decide (¬(au<0)))) else(some false)) fun av=> if av=true then(none) else((f185 fuel Z K.1 K.2.1 U.1).bind fun O=> (Av (O.1 - K.1)).bind fun ab=> (Av (K.2.1 - O.1)).bind fun ae=> (G1 aa (8)).bind fun ag=> Option.bind (if ab<ae then((HM fuel O.2.2 K.1 O.1 p3).bind fun aw=> (Av (O.1+1)).bind fun ay=> some (ay,K.2.1,decide (ag≤ab),aw)) else((Av (O.1+1)).bind fun az=> (HM fuel O.2.2 az K.2.1 p3).bind fun aA=> some (K.1,O.1,decide (ag≤ae),aA))) fun W=> some (Sum.inr (W.1,W.2.1,W.2.2.1,O.2.1,W.2.2.2)))) ao))) fun aB=>Sum.elim (fun r=>some (.done (Sum.inl r))) (fun aC=> some (.more aC)) aB
def f162(fuel:Nat)(p0:List Be)(p1:Int)(p2:Int)(p3:Int):Option ((List Be)):= Option.bind (iter (GU fuel p3) fuel (p1,p2,true,true,p0)) fun K=> Sum.elim (fun r=>some r) (fun O=> none) K
theorem VK{O:Nat}{U:Nat}{V:Nat}{av:Ay}{p0:List (Be)}{p1:Int}{p2:Int}{p3:Int}(hW:WL 133 Cc E O U V av p0){fuel:Nat}{r:(List Be)}(aD:f162 fuel p0 p1 p2 p3=some r):AP J 162 [.slice (Bc O) V U,iV p1,iV p2,iV p3,(fV 134)] E [(O,.cells av 133 (0,0))] (fun w E' B'=>∃(aE:Ay),w= .tuple #[]∧B'= [(O,.cells aE 133 (0,0))]∧WL 133 Cc E' O U V aE r):=by
 refine A9 func162 fun Q dH cs H bd aF=>?_;unfold f162 at aD;obtain⟨dI,be,aG⟩:=bs aD;refine zg 8 rfl (Bs (fun L s=>False) ?_ ?_)
 ·intro _ _ bf;exact bf.elim
 ·intro dJ;refine JL.block (CP be (fun L s K=>∃(ak:LH) (f22:Ay),Jn E H ak [bX O f22 133] [(0,.slice (Bc O) V U),(1,iV K.1),(2,iV K.2.1),(3,iV p3),(4,(fV 134)),(10,.bool K.2.2.1),(11,.bool K.2.2.2.1)] L s (WL 133 Cc ak O U V f22 K.2.2.2.2)) ⟨E,av,rfl,rfl,Aq,bd,hW⟩ ?_);rintro _ _ K ⟨ak,f22,rfl,rfl,aw,aH,al⟩ aI ⟨dK,am⟩ bg;have aJ:=am;unfold GU at aJ;obtain⟨bh,bi,ay⟩:=bs aJ;refine Bs (fun L s=>∃(Y:Int×Int×Bool×Bool×(List Be)) (an:LH) (f36:Ay),bh=Sum.inr Y∧Jn ak H an [bX O f36 133] [(0,.slice (Bc O) V U),(1,iV Y.1),(2,iV Y.2.1),(3,iV p3),(4,(fV 134)),(10,.bool Y.2.2.1),(11,.bool Y.2.2.2.1)] L s (WL 133 Cc an O U V f36 Y.2.2.2.2)) ?_ ?_
  ·rintro _ _ ⟨Y,an,f36,rfl,rfl,rfl,bj,bl,bm⟩;have bn:=elim_inr ay;obtain rfl:=oi bn;exact AB (bg _ _ Y ⟨an,f36,rfl,rfl,(aw.Ab bj),bl,bm⟩ am) rfl
  ·intro bo;obtain⟨aa,bp,bq⟩:=bs bi;refine zg 5 rfl (BW bp rfl rfl rfl ?_);refine zg 8 rfl (AS bq (fun br bu=>?_) (fun br bv=>?_))
   ·obtain⟨dL,bw,bx⟩:=bs bu;refine zg 6 rfl (BP 0 (QE al bw) rfl rfl Mi aH rfl ?_);rintro _ dM _ bz ⟨f52,rfl,rfl,bA⟩ bB;refine JL.done ?_;obtain rfl:=oi bx;have bC:=elim_inl ay;obtain rfl:=oi bC;obtain rfl:=aI _ am;have bD:=elim_inl aG;obtain rfl:=oi bD;exact AN func162 rfl rfl (aF (aw.Ab bz) rfl ⟨f52,rfl,(by first | rfl | simp | (simp [Value.cells])),bA⟩ bB)
   ·refine zg 7 rfl (AS bv (fun bE bF=>?_) (fun bE bG=>?_))
    ·refine zg 6 rfl ?_;cases bF
    ·refine zg 5 rfl (Az (v:= .bool (!K.2.2.1)) rfl (fun ρ h=>Yl.not (h _ _ rfl)) ?_);obtain⟨dN,bH,bI⟩:=bs bG;refine JL.done (Cq [bX O f22 133] [(0,.slice (Bc O) V U),(1,iV K.1),(2,iV K.2.1),(3,iV p3),(4,(fV 134)),(10,.bool K.2.2.1),(11,.bool K.2.2.2.1),(12,iV aa)] (fun dO ag bJ=>?_) (fun bK=>?_))
     ·obtain⟨dP,bL,bM⟩:=bs bI;refine zg 6 rfl (BP 0 (Qe (al.Ag ag) bL) rfl rfl (AX func181 rfl) bJ rfl ?_);rintro _ aK _ ao ⟨rfl,rfl⟩ aL;obtain⟨W,bN,bO⟩:=bs bM;refine zg 12 rfl (Bs (fun L s=>∃(az:LH) (f84:Ay),Jn aK H az [bX O f84 133] [(0,.slice (Bc O) V U),(1,iV K.1),(2,iV K.2.1),(3,iV p3),(4,(fV 134)),(10,.bool K.2.2.1),(11,.bool K.2.2.2.1),(12,iV aa),(13,iV W.1),(14,iV W.2.1)] L s (WL 133 Cc az O U V f84 W.2.2)) ?_ ?_)
      ·rintro _ _ ⟨az,f84,rfl,rfl,aM,aN,aO⟩;obtain⟨bP,bQ,bR⟩:=bs bO;refine zg 5 rfl (C3 4 4 [bX O f84 133] [(0,.slice (Bc O) V U),(1,iV K.1),(2,iV K.2.1),(3,iV p3),(4,(fV 134)),(10,.bool K.2.2.1),(11,.bool K.2.2.2.1),(12,iV aa),(13,iV W.1),(14,iV W.2.1),(71,.bool bP)] (fun aA ap aP=>?_) (fun aQ=>?_))
       ·obtain⟨bS,bT,bU⟩:=bs bR;refine zg 1 rfl (Fx [] (fun L s=>∃(aq:LH),Jm aA H aq [bX O f84 133] [(0,.slice (Bc O) V U),(1,iV K.1),(2,iV K.2.1),(3,iV p3),(4,(fV 134)),(10,.bool K.2.2.1),(11,.bool K.2.2.2.1),(12,iV aa),(13,iV W.1),(75,.bool bS)] L s) ?_ ?_)
        ·rintro _ _ ⟨aq,rfl,rfl,ar,aR⟩;obtain⟨bV,bW,aS⟩:=bs bU;refine JL.done (Bs (fun L s=>∃(aB:(List Be)) (ah:LH) (f105:Ay),bV=Sum.inr aB∧Jn aq H ah [bX O f105 133] [(0,.slice (Bc O) V U),(1,iV K.1),(2,iV K.2.1),(3,iV p3),(4,(fV 134)),(10,.bool K.2.2.1),(11,.bool K.2.2.2.1),(12,iV aa),(13,iV W.1)] L s (WL 133 Cc ah O U V f105 aB)) ?_ ?_)
         ·rintro _ _ ⟨aB,ah,f105,rfl,rfl,rfl,bY,ai,aj⟩;have bZ:=elim_inr aS;refine zg 2 rfl (CZ 17 [O] ⟨⟨0,_,rfl⟩,trivial⟩ ai fun ht=>?_);refine Bp ht rfl [0,1,2] rfl ?_;obtain⟨b0,aT,b1⟩:=bs bZ;refine FL 0 #[true,true,true,true,true,true,true,true,true,true,true,true,true,true,true,true,true] (fun L s=>∃(aU:LH),Jm ah H aU [bX O f105 133] [(0,.slice (Bc O) V U),(1,iV K.1),(2,iV K.2.1),(3,iV p3),(4,(fV 134)),(10,.bool K.2.2.1),(11,.bool K.2.2.2.1),(12,iV aa),(13,iV W.1),(97,.bool b0)] L s) ?_ ?_
          ·rintro _ _ ⟨aU,rfl,rfl,aV,b2⟩;refine AO.fin (by decide+kernel) (BL b1 (fun b3 b4=>?_) (fun b3 b5=>?_))
           ·refine zg 7 rfl ?_;cases b4
           ·obtain⟨aW,b6,b7⟩:=bs b5;refine zg 8 rfl (BP 0 (QD (aj.Ag aV) b6) rfl rfl (AX func185 rfl) b2 rfl ?_);rintro _ b8 _ b9 ⟨f123,rfl,rfl,aX⟩ aY;obtain⟨dQ,ca,cb⟩:=bs b7;refine zg 15 rfl (BW ca rfl rfl rfl ?_);obtain⟨dR,cc,cd⟩:=bs cb;refine zg 2 rfl (BW cc rfl rfl rfl ?_);obtain⟨ce,cf,cg⟩:=bs cd;refine zg 6 rfl (Az (v:=iV ce) rfl (fun ρ h=>Jv (h _ _ rfl) (h _ _ rfl) cf) ?_);obtain⟨Z,ci,ck⟩:=bs cg;refine zg 8 rfl (Bs (fun L s=>∃(au:LH) (f138:Ay),Jn b8 H au [bX O f138 133] [(0,.slice (Bc O) V U),(1,iV Z.1),(2,iV Z.2.1),(3,iV p3),(4,(fV 134)),(10,.bool Z.2.2.1),(11,.bool aW.2.1)] L s (WL 133 Cc au O U V f138 Z.2.2.2)) ?_ ?_)
            ·rintro _ _ ⟨au,f138,rfl,rfl,cm,cn,co⟩;exact N5 (AB (bo _ _ ⟨(Z.1,Z.2.1,Z.2.2.1,aW.2.1,Z.2.2.2),au,f138,(Option.some.inj ck).symm,rfl,rfl,((((((((ag.Ab ao).Ab aM).Ab ap).Ab ar).Ab bY).Ab aV).Ab b9).Ab cm),cn,co⟩) rfl)
            ·intro aZ;refine AS ci (fun cp cq=>?_) (fun cp cr=>?_)
             ·obtain⟨dS,ct,cu⟩:=bs cq;refine zg 14 rfl (BP 0 (PG aX ct) rfl rfl Km aY rfl ?_);rintro _ cv _ cw ⟨f150,rfl,rfl,cy⟩ cz;obtain⟨dT,cA,cB⟩:=bs cu;refine zg 3 rfl (Bg cA rfl rfl rfl ?_);refine zg 2 rfl ?_;obtain rfl:=oi cB;exact AB (aZ _ _ ⟨cv,f150,rfl,rfl,cw,cz,cy⟩) rfl
             ·obtain⟨dU,cC,cD⟩:=bs cr;refine zg 11 rfl (Bg cC rfl rfl rfl ?_);obtain⟨dV,cE,cF⟩:=bs cD;refine zg 3 rfl (BP 0 (PG aX cE) rfl rfl Km aY rfl ?_);rintro _ cG _ cH ⟨f165,rfl,rfl,cI⟩ cJ;refine zg 5 rfl ?_;obtain rfl:=oi cF;exact AB (aZ _ _ ⟨cG,f165,rfl,rfl,cH,cJ,cI⟩) rfl
          ·intro a0;refine FY (q:=0<K.1) (i:=83) rfl (fun aC=>?_) (fun aC=>?_)
           ·have cK:=ip aT aC;refine Bp ht rfl [3,4,5] rfl ?_;obtain⟨dW,cM,cN⟩:=bs cK;refine BC 6 ht rfl rfl (fun ρ h s' hs=>CY (h _ _ rfl) (h _ _ rfl) cM) ?_;obtain⟨ab,a1,cO⟩:=bs cN;obtain⟨_,⟨_,_,rfl,rfl,⟨_,_,rfl,rfl,⟨a2,a3,rfl,cP⟩⟩⟩,cQ⟩:=WL.at aj a1;refine FB 7 ht (aj).2 a1 underlying130 AK ?_;refine Dw 8 ht [iV ab.1,iV ab.2.1,sV a2 ab.2.2 a3] 0 ai cQ B6 AK ?_;refine Bp ht rfl [9,10] rfl ?_;obtain⟨ae,a4,cR⟩:=bs cO;obtain⟨_,⟨_,_,rfl,rfl,⟨_,_,rfl,rfl,⟨a5,a6,rfl,cT⟩⟩⟩,cV⟩:=WL.at aj a4;refine FB 11 ht (aj).2 a4 underlying130 AK ?_;refine Dw 12 ht [iV ae.1,iV ae.2.1,sV a5 ae.2.2 a6] 0 ai cV B6 AK ?_;obtain⟨cW,cX,cY⟩:=bs cR;refine Hb (i:=13) ⟨⟨0,_,rfl⟩,trivial⟩ (vs:= [.agg #[iV ab.1,iV ab.2.1,sV a2 ab.2.2 a3],.agg #[iV ae.1,iV ae.2.1,sV a5 ae.2.2 a6]]) (Gs cP cT cX) (by decide+kernel) rfl rfl rfl rfl Gk rfl ai ?_;rintro _ cZ _ c0 ⟨rfl,rfl⟩ c1;refine Ct 14 ht rfl rfl ?_;refine BC (v:= .bool (decide (¬(cW<0)))) 15 ht rfl rfl (fun ρ h s' hs=>Ig (h _ _ rfl)) ?_;refine Ct 16 ht rfl rfl ?_;obtain rfl:=oi cY;refine DD ?_ (a0 _ _ ⟨cZ,rfl,rfl,c0,c1⟩);exact⟨rfl,rfl,rfl,rfl,rfl,rfl,rfl,rfl,rfl,rfl,trivial⟩
           ·have c2:=im aT aC;refine Bp ht rfl [3,4,5,6,7,8,9,10,11,12,13,14,15,16] rfl ?_;obtain rfl:=oi c2;refine DD ?_ (a0 _ _ ⟨ah,rfl,rfl,Aq,ai⟩);exact⟨rfl,rfl,rfl,rfl,rfl,rfl,rfl,rfl,rfl,rfl,trivial⟩
         ·intro a7;refine BL bW (fun c3 c4=>?_) (fun c3 c5=>?_)
          ·obtain⟨c6,c7,c8⟩:=bs c4;refine zg 6 rfl (BP 0 (QI (aO.Ag (ap.Ab ar)) c7) rfl rfl (AX func183 rfl) aR rfl ?_);rintro _ c9 _ a8 ⟨f205,rfl,rfl,a9⟩ ba;refine JL.done (BL c8 (fun da db=>?_) (fun da dc=>?_))
           ·obtain rfl:=oi db;have dd:=elim_inl aS;obtain rfl:=oi dd;have de:=elim_inl ay;obtain rfl:=oi de;obtain rfl:=aI _ am;have df:=elim_inl aG;obtain rfl:=oi df;exact AN func162 rfl rfl (aF ((((((aw.Ab ag).Ab ao).Ab aM).Ab ap).Ab ar).Ab a8) rfl ⟨f205,rfl,(by first | rfl | simp | (simp [Value.cells])),a9⟩ ba)
           ·exact JL.skip (AB (a7 _ _ ⟨c6.2,c9,f205,(Option.some.inj dc).symm,rfl,rfl,a8,ba,a9⟩) rfl)
          ·exact JL.skip (AB (a7 _ _ ⟨W.2.2,aq,f84,(Option.some.inj c5).symm,rfl,rfl,Aq,aR,(aO.Ag (ap.Ab ar))⟩) rfl)
        ·intro bb;refine Dr 72 bT (fun dg dh=>?_) (fun dg di=>?_)
         ·refine zg 3 rfl ?_;obtain rfl:=oi dh;exact AB (bb _ _ ⟨aA,rfl,rfl,Aq,aP⟩) rfl
         ·refine zg 3 rfl ?_;obtain rfl:=oi di;exact AB (bb _ _ ⟨aA,rfl,rfl,Aq,aP⟩) rfl
       ·refine Dr 69 bQ (fun dj dk=>?_) (fun dj dl=>?_)
        ·refine zg 2 rfl ?_;obtain rfl:=oi dk;exact aQ Aq aN rfl
        ·refine zg 2 rfl ?_;obtain rfl:=oi dl;exact aQ Aq aN rfl
      ·intro bc;refine AS bN (fun dm dn=>?_) (fun dm dp=>?_)
       ·obtain⟨dX,dq,dr⟩:=bs dn;refine zg 6 rfl (BP 0 (Qc (al.Ag (ag.Ab ao)) dq) rfl rfl (AX func182 rfl) aL rfl ?_);rintro _ dt _ du ⟨dv,rfl,rfl,dw⟩ dx;obtain⟨dY,dy,dz⟩:=bs dr;refine zg 4 rfl (BW dy rfl rfl rfl ?_);obtain⟨dZ,dA,dB⟩:=bs dz;refine zg 2 rfl (BW dA rfl rfl rfl ?_);obtain⟨ea,dC,dD⟩:=bs dB;refine BW dC rfl rfl rfl (zg 5 rfl ?_);obtain rfl:=oi dD;exact AB (bc _ _ ⟨dt,dv,rfl,rfl,du,dx,dw⟩) rfl
       ·refine JL.skip ?_;obtain rfl:=oi dp;exact AB (bc _ _ ⟨aK,f22,rfl,rfl,Aq,aL,(al.Ag (ag.Ab ao))⟩) rfl
     ·refine BL bH (fun dE dF=>?_) (fun dE dG=>?_)
      ·refine zg 6 rfl ?_;cases dF
      ·refine JL.skip ?_;obtain rfl:=oi dG;exact bK Aq aH rfl
def f133(fuel:Nat)(p0:List Be):Option ((List Be)):= (f163 fuel (CN (p0.length:Int))).bind fun K=> (f162 fuel p0 0 (p0.length:Int) K).bind fun O=> some O
theorem Vw{K:Nat}{O:Nat}{U:Nat}{V:Ay}{p0:List (Be)}(hW:WL 133 Cc E K O U V p0){fuel:Nat}{r:(List Be)}(W:f133 fuel p0=some r):AP J 133 [.slice (Bc K) U O,(fV 134)] E [(K,.cells V 133 (0,0))] (fun w E' B'=>∃(Y:Ay),w= .tuple #[]∧B'= [(K,.cells Y 133 (0,0))]∧WL 133 Cc E' K O U Y r):=by
 refine A9 func133 fun Q an cs H aa ab=>?_;unfold f133 at W;refine zg 3 rfl (Az (v:=iV (p0.length:Int)) rfl (fun ρ h=>Py (hW).2 rfl underlying130 (h _ _ rfl)) ?_);refine zg 6 rfl (Az (v:= .int .u64 ((CN (p0.length:Int):Nat):Int)) rfl (fun ρ h=>Yl.CN underlying3 underlying156 (h _ _ rfl)) ?_);obtain⟨ao,ae,ag⟩:=bs W;refine BK (Qx ae) rfl rfl (AX func163 rfl) aa fun ap Z ah=>?_;obtain⟨aq,ai,aj⟩:=bs ag;refine zg 1 rfl (BP 0 (VK (hW.Ag Z) ai) rfl rfl Km ah rfl ?_);rintro _ ar _ ak ⟨f12,rfl,rfl,al⟩ am;refine JL.done ?_;obtain rfl:=oi aj;exact JL.fin (v:= .tuple #[]) rfl rfl (BR.list func133 rfl (vs:= []) trivial) (ab (Z.Ab ak) rfl ⟨f12,rfl,(by first | rfl | simp | (simp [Value.cells])),al⟩ am)
end Pal
namespace Pal
def A7{α:Type}(o:Option α)(Q:α→Prop):Prop:=∃a,o=some a∧Q a
section
variable {α β:Type}{Q R:α→Prop}
theorem Au{a:α}(h:Q a):A7 (some a) Q:=⟨a,rfl,h⟩
theorem A7.Ag{o:Option α}(h:A7 o R)(k:∀a,R a→Q a):A7 o Q:=let ⟨a,K,O⟩:=h;⟨a,K,k a O⟩
theorem A7.of_eq{o:Option α}{a:α}(h:o=some a)(k:Q a):A7 o Q:=⟨a,h,k⟩
theorem AU{o:Option β}{f:β→Option α}{S:β→Prop}(h:A7 o S)(k:∀b,S b→A7 (f b) Q):A7 (o.bind f) Q:=by
 obtain⟨b,rfl,hb⟩:=h;obtain⟨a,K,O⟩:=k b hb;exact⟨a,K,O⟩
theorem Bl{o:Option β}{f:β→Option α}{b:β}(h:o=some b)(k:A7 (f b) Q):A7 (o.bind f) Q:=by subst h;exact k
theorem A7.Wv{f:Int→Option α}{x:Int}(K: -9223372036854775808≤x)(O:x≤9223372036854775807)(k:A7 (f x) Q):A7 ((Av x).bind f) Q:=Bl (if_pos ⟨K,O⟩) k
theorem Gz{xs:List β}{i:Int}{m:Nat}{b:β}(h:i=(m:Int))(hb:xs[m]? =some b):ix xs i=some b:=by subst h;simpa [ix] using hb
theorem VV{xs:List β}{m:Nat}(h:m<xs.length):ix xs (m:Int)=some xs[m]:=Gz rfl (List.getElem?_eq_getElem h)
theorem BM{f:β→Option α}{xs:List β}{i:Int}{m:Nat}(h:i=(m:Int))(hm:m<xs.length)(k:A7 (f xs[m]) Q):A7 ((ix xs i).bind f) Q:=Bl (Gz h (List.getElem?_eq_getElem hm)) k
theorem H7{f:List β→Option α}{xs:List β}{x:β}(h:xs.length+1≤2 ^ 40)(k:A7 (f (xs++ [x])) Q):A7 ((room xs x).bind f) Q:=Bl (if_pos h) k
theorem B8{c:Prop} [Decidable c] {x y:Option α}(K:c→A7 x Q)(O:¬c→A7 y Q):A7 (if c then x else y) Q:=by
 by_cases h:c
 ·rw [if_pos h];exact K h
 ·rw [if_neg h];exact O h
theorem Cy{c:Prop} [Decidable c] {x y:Option α}(h:c)(k:A7 x Q):A7 (if c then x else y) Q:=by rw [if_pos h];exact k
theorem BB{c:Prop} [Decidable c] {x y:Option α}(h:¬c)(k:A7 y Q):A7 (if c then x else y) Q:=by rw [if_neg h];exact k
def Bi.sat{S A:Type}(I:S→Prop)(Q:A→Prop):Bi S A→Prop
 | .more s=>I s
 | .done a=>Q a
theorem KX{S:Type}{body:S→Option (Bi S α)}(I:Nat→S→Prop)(round:∀m s,I m s→A7 (body s) (Bi.sat (fun s'=>∃m',m'<m∧I m' s') Q)):
  ∀{m fuel:Nat} {s:S},I m s→m<fuel→A7 (iter body fuel s) Q:=by
 intro m
 induction m using Nat.strongRecOn with
 | _ m O=>
  intro fuel s U Z;obtain⟨fuel,rfl⟩:∃k,fuel=k+1:=⟨fuel - 1,by omega⟩;obtain⟨st,V,K⟩:=round m s U;unfold Pal.iter;rw [V];cases st with
  | more s'=>
   obtain⟨m',W,Y⟩:=K;exact O m' W Y (by omega)
  | done a=>exact⟨a,rfl,K⟩
end
end Pal
namespace Pal
open Go.Sort
abbrev PT:=Int×Int×(List (Int×(List Int)×Nat))
def AH(x y:PT):Bool:=decide (x.1<y.1)
theorem K9:SWO AH:=⟨fun x=>by simp [AH],fun x y z K O=>by simp [AH] at*;omega,fun x y z K O=>by simp [AH] at*;omega⟩
def KO(xs:List PT):Prop:=∀x∈xs,0≤x.1∧x.1≤1000
theorem Jx{fuel:Nat}{x y:PT}(K:0≤x.1∧x.1≤1000)(O:0≤y.1∧y.1≤1000):f134 fuel x y=some (x.1 - y.1):=by
 unfold f134;rw [show Av (x.1 - y.1)=some (x.1 - y.1) from if_pos (by omega)];rfl
theorem IK(x y:PT):decide (x.1 - y.1<0)=AH x y:=by unfold AH;congr 1;apply propext;omega
theorem KO.get{xs:List PT}(h:KO xs){i:Nat}(hi:i<xs.length):0≤xs[i].1∧xs[i].1≤1000:=h _ (List.getElem_mem hi)
theorem KO.set{xs:List PT}(h:KO xs){i:Nat}{x:PT}(K:0≤x.1∧x.1≤1000):KO (xs.set i x):=fun y O=>by
 rcases List.mem_or_eq_of_mem_set O with q | q
 ·exact h y q
 ·subst q;exact K
theorem H8{xs:List PT}{i j:Nat}(hi:i<xs.length)(K:j<xs.length):((xs.set i xs[j]).set j xs[i]).toArray=swp xs.toArray i j:=by
 unfold swp;rw [show xs.toArray[j]! =xs[j] by simp [getElem!_pos,K],show xs.toArray[i]! =xs[i] by simp [getElem!_pos,hi]];simp
theorem F4{xs:List PT}{i:Nat}(hi:i<xs.length):xs.toArray[i]! =xs[i]:=by simp [getElem!_pos,hi]
section
variable {α:Type}{Q:α→Prop}
theorem Bh{f:Int→Option α}{x:Int}(y:Int)(h:x=y)(K: -9223372036854775808≤y)(O:y≤9223372036854775807)(k:A7 (f y) Q):A7 ((Av x).bind f) Q:=by subst h;exact A7.Wv K O k
end
theorem UE{F:Nat}(a:Nat):∀(j fuel:Nat) (xs:List PT),j<fuel→j<xs.length→xs.length<1000→KO xs→
  A7 (iter (IM F (a:Int)) fuel ((j:Int),xs)) (fun ys=>ys.toArray=insInner AH a j xs.toArray∧KO ys∧ys.length=xs.length):=by
 intro j
 induction j with
 | zero=>
  intro fuel xs aa U Y K;obtain⟨fuel,rfl⟩:∃k,fuel=k+1:=⟨fuel - 1,by omega⟩;refine⟨xs,?_,rfl,K,rfl⟩;have ab:¬((a:Int)<0):=by omega
  simp [iter,IM,ab]
 | succ j ae=>
  intro fuel xs aa U Y K;obtain⟨fuel,rfl⟩:∃k,fuel=k+1:=⟨fuel - 1,by omega⟩;have O:j<xs.length:=by omega
  have ag:A7 (IM F (a:Int) (((j+1:Nat):Int),xs)) (fun st=>st=if(decide (j+1>a)&&AH xs[j+1] xs[j])=true then .more ((j:Int),(xs.set (j+1) xs[j]).set j xs[j+1]) else .done xs):=by
   unfold IM;refine AU (S:=fun c=>c=(decide (j+1>a)&&AH xs[j+1] xs[j])) ?_ ?_
   ·refine B8 (fun h=>?_) (fun h=>?_)
    ·have W:a<j+1:=by simp at h;omega
     refine BM (m:=j+1) rfl U (Bh (j:Int) (by simp) (by omega) (by omega) ?_);refine BM (m:=j) rfl O (Bl (Jx (K.get U) (K.get O)) ?_);refine Au ?_;rw [IK];simp [W]
    ·have W:¬a<j+1:=by simp at h;omega
     refine Au ?_;simp [W]
   ·rintro c rfl;refine B8 (fun h=>?_) (fun h=>?_)
    ·refine Bh (j:Int) (by simp) (by omega) (by omega) (Bh (j:Int) (by simp) (by omega) (by omega) ?_);refine BM (m:=j) rfl O (BM (m:=j+1) rfl U ?_);refine Bl (b:=(xs.set (j+1) xs[j])[j]'(by simpa using O)) (Gz rfl (List.getElem?_eq_getElem _)) ?_;refine Bh (j:Int) (by simp) (by omega) (by omega) (Au ?_);rw [if_pos h];simp
    ·refine Au ?_;rw [if_neg h]
  obtain⟨st,ah,rfl⟩:=ag;unfold iter;rw [ah];have V:insInner AH a (j+1) xs.toArray=if(decide (j+1>a)&&AH xs[j+1] xs[j])=true then insInner AH a j (swp xs.toArray (j+1) j) else xs.toArray:=by
   rw [insInner,F4 U,F4 O]
  by_cases Z:(decide (j+1>a)&&AH xs[j+1] xs[j])=true
  ·rw [if_pos Z] at V ⊢;have ai:KO ((xs.set (j+1) xs[j]).set j xs[j+1]):=(K.set (K.get O)).set (K.get U);refine(ae fuel ((xs.set (j+1) xs[j]).set j xs[j+1]) (by omega) (by simpa using O) (by simpa using Y) ai).Ag ?_;rintro ys ⟨aj,ak,al⟩;refine⟨?_,ak,by simpa using al⟩;rw [aj,H8 U O,V]
  ·rw [if_neg Z] at V ⊢;exact⟨xs,rfl,V.symm,K,rfl⟩
theorem Tk{F:Nat}(a b:Nat)(ag:2000<F):∀(m i fuel:Nat) (xs:List PT),b - i=m→m<fuel→b≤xs.length→xs.length<1000→KO xs→
  A7 (iter (Ic F (a:Int) (b:Int)) fuel ((i:Int),xs)) (fun ys=>ys.toArray=insOuter AH a b i xs.toArray∧KO ys∧ys.length=xs.length):=by
 intro m
 induction m with
 | zero=>
  intro i fuel xs hm W hb V O;obtain⟨fuel,rfl⟩:∃k,fuel=k+1:=⟨fuel - 1,by omega⟩;have U:¬i<b:=by omega
  have K:A7 (Ic F (a:Int) (b:Int) ((i:Int),xs)) (fun st=>st= .done xs):=by
   unfold Ic;exact BB (show ¬(i:Int)<(b:Int) by omega) (Au rfl)
  obtain⟨st,K,rfl⟩:=K;unfold iter;rw [K];refine⟨xs,rfl,?_,O,rfl⟩;rw [insOuter,if_neg U]
 | succ m Y=>
  intro i fuel xs hm W hb V O;obtain⟨fuel,rfl⟩:∃k,fuel=k+1:=⟨fuel - 1,by omega⟩;have U:i<b:=by omega
  obtain⟨ys,Z,aa,ab,ah⟩:=UE (F:=F) a i F xs (by omega) (by omega) V O;have K:A7 (Ic F (a:Int) (b:Int) ((i:Int),xs)) (fun st=>st= .more (((i+1:Nat):Int),ys)):=by
   unfold Ic;refine Cy (show(i:Int)<(b:Int) by omega) (Bl Z ?_);exact Bh ((i+1:Nat):Int) (by simp) (by omega) (by omega) (Au rfl)
  obtain⟨st,K,rfl⟩:=K;unfold iter;rw [K];refine(Y (i+1) fuel ys (by omega) (by omega) (by omega) (by omega) ab).Ag ?_;rintro ai ⟨k1,ae,aj⟩;refine⟨?_,ae,by omega⟩;rw [k1,aa,insOuter.eq_def AH a b i,if_pos U]
theorem PX{F a b:Nat}{xs:List PT}(K:2000<F)(hb:b≤xs.length)(O:xs.length<1000)(U:KO xs)(Z:a≤b):
  A7 (f178 F xs (a:Int) (b:Int)) (fun ys=>ys.toArray=insertionSort AH xs.toArray a b∧KO ys∧ys.length=xs.length):=by
 unfold f178;refine Bh ((a+1:Nat):Int) (by simp) (by omega) (by omega) (AU (Tk (F:=F) a b K (b - (a+1)) (a+1) F xs rfl (by omega) hb O U) ?_);rintro ys ⟨V,W,Y⟩;exact⟨ys,rfl,V,W,Y⟩
end Pal
namespace Pal
open Go.Sort
theorem M0{F a b sw:Nat}{xs:List PT}(O:a<xs.length)(hb:b<xs.length)(hs:sw<1000)(V:xs.length<1000)(U:KO xs):
  f200 F xs (a:Int) (b:Int) (sw:Int)=some ((((order2 AH xs.toArray a b sw).1:Nat):Int),(((order2 AH xs.toArray a b sw).2.1:Nat):Int),(((order2 AH xs.toArray a b sw).2.2:Nat):Int)):=by
 have h:A7 (f200 F xs (a:Int) (b:Int) (sw:Int)) (fun r=>r=((((order2 AH xs.toArray a b sw).1:Nat):Int),(((order2 AH xs.toArray a b sw).2.1:Nat):Int),(((order2 AH xs.toArray a b sw).2.2:Nat):Int))):=by
  unfold f200;refine BM (m:=b) rfl hb (BM (m:=a) rfl O ?_);refine Bl (Jx (U.get hb) (U.get O)) ?_;have e:order2 AH xs.toArray a b sw=if AH xs[b] xs[a] then(b,a,sw+1) else(a,b,sw):=by unfold order2;rw [F4 O,F4 hb]
  refine B8 (fun h=>?_) (fun h=>?_)
  ·have K:AH xs[b] xs[a]=true:=by rw [← IK];exact decide_eq_true h
   refine Bh ((sw+1:Nat):Int) (by simp) (by omega) (by omega) (Au ?_);rw [e,if_pos K]
  ·have K:¬AH xs[b] xs[a]=true:=by rw [← IK];simpa using h
   refine Au ?_;rw [e,if_neg K]
 obtain⟨r,K,rfl⟩:=h;exact K
theorem OE{n a b sw:Nat}{d:Array PT}(K:a<n)(hb:b<n):(order2 AH d a b sw).1<n∧(order2 AH d a b sw).2.1<n∧(order2 AH d a b sw).2.2≤sw+1:=by
 unfold order2;split
 ·exact⟨hb,K,Nat.le_refl _⟩
 ·exact⟨K,hb,Nat.le_succ _⟩
theorem Uf{F a b c sw:Nat}{xs:List PT}(U:a<xs.length)(hb:b<xs.length)(V:c<xs.length)(hs:sw<900)(K:xs.length<1000)(O:KO xs):
  f197 F xs (a:Int) (b:Int) (c:Int) (sw:Int)=some ((((median AH xs.toArray a b c sw).1:Nat):Int),(((median AH xs.toArray a b c sw).2:Nat):Int)):=by
 unfold f197 median;obtain⟨Y,W,aa⟩:=OE (sw:=sw) (d:=xs.toArray) U hb;rw [M0 U hb (by omega) K O];simp only [Option.bind_some];obtain⟨Z,ab,ae⟩:=OE (sw:=(order2 AH xs.toArray a b sw).2.2) (d:=xs.toArray) W V;rw [M0 W V (by omega) K O];simp only [Option.bind_some];rw [M0 Y Z (by omega) K O];simp only [Option.bind_some]
def HN:Hint→Int | .unknown=>0 | .increasing=>1 | .decreasing=>2
theorem A7.quo{α:Type}{Q:α→Prop}{f:Int→Option α}{x:Int}(m k:Nat)(K:x=(m:Int))(hm:m<1000)(O:0<k)(h:A7 (f ((m / k:Nat):Int)) Q):A7 ((G1 x (k:Int)).bind f) Q:=by
 subst K;refine Bl ?_ h;unfold G1;rw [if_neg (by omega)];have e:((m:Int).tdiv (k:Int))=((m / k:Nat):Int):=by rw [Int.tdiv_eq_ediv_of_nonneg (by omega)];rfl
 have hle:m / k≤m:=Nat.div_le_self _ _;rw [e];generalize m / k=z at hle ⊢;exact if_pos (by omega)
theorem Ud{F a b:Nat}{xs:List PT}(ag:a+8≤b)(ah:b<a+50)(hb:b≤xs.length)(Y:xs.length<1000)(Z:KO xs):
  f181 F xs (a:Int) (b:Int)=some ((((choosePivot AH xs.toArray a b).1:Nat):Int),HN (choosePivot AH xs.toArray a b).2):=by
 have h:A7 (f181 F xs (a:Int) (b:Int)) (fun r=>r=((((choosePivot AH xs.toArray a b).1:Nat):Int),HN (choosePivot AH xs.toArray a b).2)):=by
  unfold f181;have ai:(b - a) / 4≤b - a:=Nat.div_le_self _ _;have aj:(b - a) / 4*3<b - a:=by omega
  refine Bh ((b - a:Nat):Int) (by omega) (by omega) (by omega) (A7.quo (b - a) 4 rfl (by omega) (by omega) ?_);refine Bh (((b - a) / 4*1:Nat):Int) (by push_cast;rfl) (by omega) (by omega) (Bh ((a+(b - a) / 4*1:Nat):Int) (by push_cast;rfl) (by omega) (by omega) ?_);refine A7.quo (b - a) 4 rfl (by omega) (by omega) (Bh (((b - a) / 4*2:Nat):Int) (by push_cast;rfl) (by omega) (by omega) ?_);refine Bh ((a+(b - a) / 4*2:Nat):Int) (by push_cast;rfl) (by omega) (by omega) (A7.quo (b - a) 4 rfl (by omega) (by omega) ?_);refine Bh (((b - a) / 4*3:Nat):Int) (by push_cast;rfl) (by omega) (by omega) (Bh ((a+(b - a) / 4*3:Nat):Int) (by push_cast;rfl) (by omega) (by omega) ?_);have aa:choosePivot AH xs.toArray a b=((median AH xs.toArray (a+(b - a) / 4*1) (a+(b - a) / 4*2) (a+(b - a) / 4*3) 0).1,if(median AH xs.toArray (a+(b - a) / 4*1) (a+(b - a) / 4*2) (a+(b - a) / 4*3) 0).2=0 then .increasing else if(median AH xs.toArray (a+(b - a) / 4*1) (a+(b - a) / 4*2) (a+(b - a) / 4*3) 0).2=12 then .decreasing else .unknown):=by
   unfold choosePivot;simp only;rw [if_pos (by omega),if_neg (by omega)]
  rw [aa];generalize ab:median AH xs.toArray (a+(b - a) / 4*1) (a+(b - a) / 4*2) (a+(b - a) / 4*3) 0=K;refine AU (S:=fun r=>r=(((K.1:Nat):Int),((K.2:Nat):Int))) ?_ ?_
  ·refine Cy (by omega) (AU (S:=fun _=>True) (BB (by omega) (Au trivial)) fun _ _=>?_);have W:=Uf (F:=F) (a:=a+(b - a) / 4*1) (b:=a+(b - a) / 4*2) (c:=a+(b - a) / 4*3) (sw:=0) (xs:=xs) (by omega) (by omega) (by omega) (by omega) Y Z;rw [ab] at W;exact Bl W (Au rfl)
  ·rintro r rfl;refine B8 (fun h=>?_) (fun h=>?_)
   ·have O:K.2=0:=by simp at h;omega
    rw [if_pos O];exact Au rfl
   ·have O:¬K.2=0:=by simp at h;omega
    rw [if_neg O];refine B8 (fun U=>?_) (fun U=>?_)
    ·have V:K.2=12:=by simp at U;omega
     rw [if_pos V];exact Au rfl
    ·have V:¬K.2=12:=by simp at U;omega
     rw [if_neg V];exact Au rfl
 obtain⟨r,ae,rfl⟩:=h;exact ae
theorem T8{F:Nat}:∀(m i j fuel:Nat) (xs:List PT),j - i≤m→m<fuel→(i<j→j<xs.length)→i≤xs.length→j≤xs.length→xs.length<1000→KO xs→
  A7 (iter (He F) fuel ((i:Int),(j:Int),xs)) (fun ys=>ys.toArray=reverseLoop i j xs.toArray∧KO ys∧ys.length=xs.length):=by
 intro m
 induction m with
 | zero=>
  intro i j fuel xs hm aa Y hi ab Z K;obtain⟨fuel,rfl⟩:∃k,fuel=k+1:=⟨fuel - 1,by omega⟩;have O:¬i<j:=by omega
  have U:A7 (He F ((i:Int),(j:Int),xs)) (fun st=>st= .done xs):=by
   unfold He;exact BB (show ¬(i:Int)<(j:Int) by omega) (Au rfl)
  obtain⟨st,hb,rfl⟩:=U;unfold iter;rw [hb];refine⟨xs,rfl,?_,K,rfl⟩;rw [reverseLoop,if_neg O]
 | succ m ae=>
  intro i j fuel xs hm aa Y hi ab Z K;obtain⟨fuel,rfl⟩:∃k,fuel=k+1:=⟨fuel - 1,by omega⟩;by_cases O:i<j
  ·have V:=Y O;have W:i<xs.length:=by omega
   have U:A7 (He F ((i:Int),(j:Int),xs)) (fun st=>st= .more (((i+1:Nat):Int),((j - 1:Nat):Int),(xs.set i xs[j]).set j xs[i])):=by
    unfold He;refine Cy (show(i:Int)<(j:Int) by omega) (BM (m:=j) rfl V ?_);refine BM (m:=i) rfl W (Bh ((i+1:Nat):Int) (by simp) (by omega) (by omega) ?_);exact Bh ((j - 1:Nat):Int) (by simp;omega) (by omega) (by omega) (Au rfl)
   obtain⟨st,hb,rfl⟩:=U;unfold iter;rw [hb];refine(ae (i+1) (j - 1) fuel ((xs.set i xs[j]).set j xs[i]) (by omega) (by omega) (by simp;omega) (by simp;omega) (by simp;omega) (by simpa using Z) ((K.set (K.get V)).set (K.get W))).Ag ?_;rintro ys ⟨ag,ah,ai⟩;refine⟨?_,ah,by simpa using ai⟩;rw [ag,H8 W V,reverseLoop.eq_def i j,if_pos O]
  ·have U:A7 (He F ((i:Int),(j:Int),xs)) (fun st=>st= .done xs):=by
    unfold He;exact BB (show ¬(i:Int)<(j:Int) by omega) (Au rfl)
   obtain⟨st,hb,rfl⟩:=U;unfold iter;rw [hb];refine⟨xs,rfl,?_,K,rfl⟩;rw [reverseLoop,if_neg O]
theorem UO{F a b:Nat}{xs:List PT}(U:2000<F)(V:a<b)(hb:b≤xs.length)(K:xs.length<1000)(O:KO xs):
  A7 (f182 F xs (a:Int) (b:Int)) (fun ys=>ys.toArray=reverseRange xs.toArray a b∧KO ys∧ys.length=xs.length):=by
 unfold f182 reverseRange;refine Bh ((b - 1:Nat):Int) (by omega) (by omega) (by omega) (AU (T8 (F:=F) (b - 1 - a) a (b - 1) F xs (by omega) (by omega) (by omega) (by omega) (by omega) K O) ?_);rintro ys h;exact⟨ys,rfl,h⟩
theorem UD{F b q1:Nat}{xs:List PT}(q2:Int)(hb:b≤xs.length)(ae:xs.length<1000)(Y:KO xs):∀(m i fuel:Nat),b - i≤m→m<fuel→1≤i→
  A7 (iter (Ib F (b:Int) (((q1:Nat):Int),q2,xs)) fuel (i:Int)) (fun r=>r=((scanSorted AH xs.toArray b i:Nat):Int)):=by
 intro m
 induction m with
 | zero=>
  intro i fuel hm ab hi;obtain⟨fuel,rfl⟩:∃k,fuel=k+1:=⟨fuel - 1,by omega⟩;have K:¬i<b:=by omega
  have O:A7 (Ib F (b:Int) (((q1:Nat):Int),q2,xs) (i:Int)) (fun st=>st= .done (i:Int)):=by
   unfold Ib;refine AU (S:=fun c=>c=false) (BB (by omega) (Au rfl)) ?_;rintro c rfl;exact BB (by simp) (Au rfl)
  obtain⟨st,U,rfl⟩:=O;unfold iter;rw [U];refine⟨_,rfl,?_⟩;rw [scanSorted,if_neg (by simp [K])]
 | succ m Z=>
  intro i fuel hm ab hi;obtain⟨fuel,rfl⟩:∃k,fuel=k+1:=⟨fuel - 1,by omega⟩;by_cases K:i<b
  ·have V:i<xs.length:=by omega
   have W:i - 1<xs.length:=by omega
   have O:A7 (Ib F (b:Int) (((q1:Nat):Int),q2,xs) (i:Int)) (fun st=>st=if(!AH xs[i] xs[i-1])=true then .more ((i+1:Nat):Int) else .done (i:Int)):=by
    unfold Ib;refine AU (S:=fun c=>c= !AH xs[i] xs[i-1]) ?_ ?_
    ·refine Cy (by omega) (BM (m:=i) rfl V ?_);refine Bh ((i - 1:Nat):Int) (by omega) (by omega) (by omega) (BM (m:=i - 1) rfl W ?_);refine Bl (Jx (Y.get V) (Y.get W)) (Au ?_);rw [← IK];exact decide_not
    ·rintro c rfl;refine B8 (fun h=>?_) (fun h=>?_)
     ·refine Bh ((i+1:Nat):Int) (by simp) (by omega) (by omega) ?_;rw [if_pos h];exact Au rfl
     ·rw [if_neg h];exact Au rfl
   obtain⟨st,U,rfl⟩:=O;unfold iter;rw [U];have hs:scanSorted AH xs.toArray b i=if(!AH xs[i] xs[i-1])=true then scanSorted AH xs.toArray b (i+1) else i:=by
    rw [scanSorted.eq_def AH xs.toArray b i,F4 V,F4 W];simp [K]
   by_cases aa:(!AH xs[i] xs[i-1])=true
   ·rw [if_pos aa] at hs ⊢;rw [hs];exact Z (i+1) fuel (by omega) (by omega) (by omega)
   ·rw [if_neg aa] at hs ⊢;exact⟨_,rfl,by rw [hs]⟩
  ·exact Z i (fuel+1) (by omega) (by omega) hi
theorem UM{F a b:Nat}{xs:List PT}(Z:2000<F)(aa:a<b)(ab:b<a+50)(hb:b≤xs.length)(O:xs.length<1000)(U:KO xs):
  f183 F xs (a:Int) (b:Int)=some ((partialInsertionSort AH xs.toArray a b).2,xs)∧(partialInsertionSort AH xs.toArray a b).1=xs.toArray:=by
 have e:partialInsertionSort AH xs.toArray a b=if scanSorted AH xs.toArray b (a+1)=b then(xs.toArray,true) else(xs.toArray,false):=by
  unfold partialInsertionSort partialIns;simp only;split
  ·rfl
  ·rw [if_pos (by omega)]
 have h:A7 (f183 F xs (a:Int) (b:Int)) (fun r=>r=((partialInsertionSort AH xs.toArray a b).2,xs)):=by
  unfold f183;refine Bh ((a+1:Nat):Int) (by simp) (by omega) (by omega) (AU (S:=fun r=>r=Sum.inl ((partialInsertionSort AH xs.toArray a b).2,xs)) ?_ ?_)
  ·obtain⟨K,rfl⟩:∃k,F=k+1:=⟨F - 1,by omega⟩;have V:A7 (Ll (K+1) (a:Int) (b:Int) (((a+1:Nat):Int),0,xs)) (fun st=>st= .done (Sum.inl ((partialInsertionSort AH xs.toArray a b).2,xs))):=by
    unfold Ll;refine Cy (show(0:Int)<5 by omega) (AU (UD (F:=K+1) (q1:=a+1) 0 hb O U (b - (a+1)) (a+1) (K+1) (by omega) (by omega) (by omega)) ?_);rintro r rfl;rw [e];refine B8 (fun h=>?_) (fun h=>?_)
    ·rw [if_pos (by omega)];exact Au rfl
    ·rw [if_neg (by omega)];exact Bh ((b - a:Nat):Int) (by omega) (by omega) (by omega) (Cy (by omega) (Au rfl))
   obtain⟨st,W,rfl⟩:=V;unfold iter;rw [W];exact⟨_,rfl,rfl⟩
  ·rintro r rfl;exact Au rfl
 obtain⟨r,Y,rfl⟩:=h;refine⟨Y,?_⟩;rw [e];split <;> rfl
end Pal
namespace Pal
open Go.Sort
theorem Oc{body:Int→Option (Bi Int Int)}{d:Array PT}{p:PT→Bool}{j:Nat}(V:j<900)
  (h:∀i:Nat,i≤j+2→body (i:Int)=some (if(decide (i≤j)&&p d[i]!)=true then .more ((i+1:Nat):Int) else .done (i:Int))):
  ∀(m i fuel:Nat),j+1 - i≤m→m<fuel→i≤j+2→iter body fuel (i:Int)=some ((scanUp p d j i:Nat):Int):=by
 intro m
 induction m with
 | zero=>
  intro i fuel hm O hi;obtain⟨fuel,rfl⟩:∃k,fuel=k+1:=⟨fuel - 1,by omega⟩;have K:¬(decide (i≤j)&&p d[i]!)=true:=by simp;omega
  unfold iter;rw [h i hi,if_neg K,scanUp,if_neg K]
 | succ m U=>
  intro i fuel hm O hi;obtain⟨fuel,rfl⟩:∃k,fuel=k+1:=⟨fuel - 1,by omega⟩;unfold iter;rw [h i hi,scanUp];by_cases K:(decide (i≤j)&&p d[i]!)=true
  ·rw [if_pos K,if_pos K];have:i≤j:=by simp at K;exact K.1
   exact U (i+1) fuel (by omega) (by omega) (by omega)
  ·rw [if_neg K,if_neg K]
theorem NV{body:Int→Option (Bi Int Int)}{d:Array PT}{p:PT→Bool}{i:Nat}(hi:1≤i){n:Nat}
  (h:∀j:Nat,j<n→body (j:Int)=some (if(decide (i≤j)&&p d[j]!)=true then .more ((j - 1:Nat):Int) else .done (j:Int))):
  ∀(j fuel:Nat),j<n→j<fuel→iter body fuel (j:Int)=some ((scanDown p d i j:Nat):Int):=by
 intro j
 induction j with
 | zero=>
  intro fuel O U;obtain⟨fuel,rfl⟩:∃k,fuel=k+1:=⟨fuel - 1,by omega⟩;have K:¬(decide (i≤0)&&p d[0]!)=true:=by simp;omega
  unfold iter;rw [h 0 O,if_neg K];rfl
 | succ j V=>
  intro fuel O U;obtain⟨fuel,rfl⟩:∃k,fuel=k+1:=⟨fuel - 1,by omega⟩;unfold iter;rw [h (j+1) O,scanDown];by_cases K:(decide (i≤j+1)&&p d[j+1]!)=true
  ·rw [if_pos K,if_pos K];exact V fuel (by omega) (by omega)
  ·rw [if_neg K,if_neg K]
theorem A7.J9{α:Type}{o:Option α}{a:α}(h:A7 o (fun x=>x=a)):o=some a:=by obtain⟨x,K,rfl⟩:=h;exact K
theorem PU{F a:Nat}{q2:Int}{j:Nat}{q1:Int}{ys:List PT}(K:a<ys.length)(W:j<ys.length)(Y:ys.length<900)(V:KO ys)(i:Nat)(hi:i≤j+2):
  II F (a:Int) (q1,(j:Int),ys) (i:Int)=some (if(decide (i≤j)&&AH ys.toArray[i]! ys.toArray[a]!)=true then .more ((i+1:Nat):Int) else .done (i:Int)):=by
 refine A7.J9 ?_;unfold II;refine AU (S:=fun c=>c=(decide (i≤j)&&AH ys.toArray[i]! ys.toArray[a]!)) ?_ ?_
 ·refine B8 (fun h=>?_) (fun h=>?_)
  ·have O:i≤j:=by simp at h;omega
   have U:i<ys.length:=by omega
   refine BM (m:=i) rfl U (BM (m:=a) rfl K ?_);refine Bl (Jx (V.get U) (V.get K)) (Au ?_);rw [IK,F4 U,F4 K];simp [O]
  ·have O:¬i≤j:=by simp at h;omega
   refine Au ?_;simp [O]
 ·rintro c rfl;refine B8 (fun h=>?_) (fun h=>?_)
  ·refine Bh ((i+1:Nat):Int) (by simp) (by omega) (by omega) ?_;rw [if_pos h];exact Au rfl
  ·rw [if_neg h];exact Au rfl
theorem OG{F a i:Nat}{q1 q2:Int}{ys:List PT}(O:a<ys.length)(W:ys.length<900)(V:KO ys)(hi:1≤i)(j:Nat)(U:j<ys.length):
  IJ F (a:Int) (q1,q2,ys) (i:Int) (j:Int)=some (if(decide (i≤j)&& !AH ys.toArray[j]! ys.toArray[a]!)=true then .more ((j - 1:Nat):Int) else .done (j:Int)):=by
 refine A7.J9 ?_;unfold IJ;refine AU (S:=fun c=>c=(decide (i≤j)&& !AH ys.toArray[j]! ys.toArray[a]!)) ?_ ?_
 ·refine B8 (fun h=>?_) (fun h=>?_)
  ·have K:i≤j:=by omega
   refine BM (m:=j) rfl U (BM (m:=a) rfl O ?_);refine Bl (Jx (V.get U) (V.get O)) (Au ?_);rw [F4 U,F4 O,← IK,← decide_not];simp [K]
  ·have K:¬i≤j:=by omega
   refine Au ?_;simp [K]
 ·rintro c rfl;refine B8 (fun h=>?_) (fun h=>?_)
  ·have K:i≤j:=by simp at h;exact h.1
   refine Bh ((j - 1:Nat):Int) (by omega) (by omega) (by omega) ?_;rw [if_pos h];exact Au rfl
  ·rw [if_neg h];exact Au rfl
theorem UL{F a b:Nat}(av:2000<F)(aw:a<b):∀(m i j fuel:Nat) (ys:List PT),j+1 - i≤m→m<fuel→a<i→i≤j+2→j<b→b≤ys.length→ys.length<900→KO ys→
  A7 (iter (Ia F (a:Int)) fuel ((i:Int),(j:Int),ys)) (fun r=>r.1=(((partLoop AH a i j ys.toArray).1:Nat):Int)∧r.2.toArray=(partLoop AH a i j ys.toArray).2∧KO r.2∧r.2.length=ys.length):=by
 intro m
 induction m with
 | zero=>?_
 | succ m aj=>?_
 all_goals
  intro i j fuel ys hm ay az ak aA hb V U;obtain⟨fuel,rfl⟩:∃k,fuel=k+1:=⟨fuel - 1,by omega⟩;have ae:a<ys.length:=by omega
  have ag:j<ys.length:=by omega
  have W:iter (II F (a:Int) ((i:Int),(j:Int),ys)) F (i:Int)=some ((scanUp (fun x=>AH x ys.toArray[a]!) ys.toArray j i:Nat):Int):=
   Oc (by omega) (fun al am=>PU (q2:=0) ae ag V U al am) (j+1 - i) i F (by omega) (by omega) ak
  have an:=scanUp_ge (fun x=>AH x ys.toArray[a]!) ys.toArray j i;have ao:=scanUp_spec (fun x=>AH x ys.toArray[a]!) ys.toArray j _ i rfl;have O:=partLoop_eq AH a i j ys.toArray;generalize aB:scanUp (fun x=>AH x ys.toArray[a]!) ys.toArray j i=i2 at W an ao O;have Y:iter (IJ F (a:Int) ((i:Int),(j:Int),ys) (i2:Int)) F (j:Int)=some ((scanDown (fun x=> !AH x ys.toArray[a]!) ys.toArray i2 j:Nat):Int):=
   NV (n:=ys.length) (by omega) (fun ap aq=>OG ae V U (by omega) ap aq) j F ag (by omega)
  have hle:=scanDown_le (fun x=> !AH x ys.toArray[a]!) ys.toArray i2 j;generalize aC:scanDown (fun x=> !AH x ys.toArray[a]!) ys.toArray i2 j=K at Y hle O;by_cases ah:i2>K
  ·have Z:Ia F (a:Int) ((i:Int),(j:Int),ys)=some (.done ((K:Int),ys)):=by
    refine A7.J9 ?_;unfold Ia;refine Bl W (Bl Y ?_);exact Cy (by omega) (Au rfl)
   unfold iter;rw [Z];rw [if_pos ah] at O;exact⟨_,rfl,by rw [O],by rw [O],U,rfl⟩
  ·first
    | (exfalso;omega)
    | (
     have aa:i2<ys.length:=by omega
     have ab:K<ys.length:=by omega
     have Z:Ia F (a:Int) ((i:Int),(j:Int),ys)=some (.more (((i2+1:Nat):Int),((K - 1:Nat):Int),(ys.set i2 ys[K]).set K ys[i2])):=by
      refine A7.J9 ?_
      unfold Ia
      refine Bl W ?_
      refine Bl Y ?_
      refine BB (by omega) ?_
      refine BM (m:=K) rfl ab ?_
      refine BM (m:=i2) rfl aa ?_
      refine Bh ((i2+1:Nat):Int) (by simp) (by omega) (by omega) ?_
      refine Bh ((K - 1:Nat):Int) (by omega) (by omega) (by omega) ?_
      exact Au rfl
     unfold iter;rw [Z]
     rw [if_neg ah] at O
     refine(aj (i2+1) (K - 1) fuel ((ys.set i2 ys[K]).set K ys[i2]) (by omega) (by omega) (by omega) (by omega) (by omega) (by simpa using hb) (by simpa using V) ((U.set (U.get ab)).set (U.get aa))).Ag ?_
     rintro r ⟨k1,ai,ar,au⟩
     rw [H8 aa ab,← O] at k1 ai
     exact⟨k1,ai,ar,by simpa using au⟩)
theorem S2{F a:Nat}{j p3:Nat}{xs ys:List PT}{K O:PT}(he:(xs.set a K).set p3 O=ys)(U:a<ys.length)(V:j<ys.length)(W:ys.length<900)(Y:KO ys)(i:Nat)(hi:i≤j+2):
  JD F xs (a:Int) (p3:Int) K O (j:Int) (i:Int)=some (if(decide (i≤j)&&AH ys.toArray[i]! ys.toArray[a]!)=true then .more ((i+1:Nat):Int) else .done (i:Int)):=by
 rw [← PU (F:=F) (q1:=0) (q2:=0) U V W Y i hi];unfold JD II;simp only [Int.toNat_natCast,he]
theorem RI{F a i p3:Nat}{xs ys:List PT}{K O:PT}(he:(xs.set a K).set p3 O=ys)(U:a<ys.length)(V:ys.length<900)(W:KO ys)(hi:1≤i)(j:Nat)(Y:j<ys.length):
  Jw F xs (a:Int) (p3:Int) K O (i:Int) (j:Int)=some (if(decide (i≤j)&& !AH ys.toArray[j]! ys.toArray[a]!)=true then .more ((j - 1:Nat):Int) else .done (j:Int)):=by
 rw [← OG (F:=F) (q1:=0) (q2:=0) U V W hi j Y];unfold Jw IJ;simp only [Int.toNat_natCast,he]
theorem Ru(a:Nat):∀(n i j:Nat) (d:Array PT),j+1 - i≤n→(partLoop AH a i j d).1≤j:=by
  intro n
  induction n with
  | zero=>?_
  | succ n V=>?_
  all_goals
    intro i j d Y;have K:=partLoop_eq AH a i j d;have W:=scanUp_ge (fun x=>AH x d[a]!) d j i;generalize Z:scanUp (fun x=>AH x d[a]!) d j i=i2 at W K;have hle:=scanDown_le (fun x=> !AH x d[a]!) d i2 j;generalize aa:scanDown (fun x=> !AH x d[a]!) d i2 j=O at hle K;by_cases U:i2>O
    ·rw [K,if_pos U];exact hle
    ·first
        | (exfalso;omega)
        | (rw [K,if_neg U]
           have:=V (i2+1) (O - 1) (swp d i2 O) (by omega)
           omega)
theorem Ug{F a b pv:Nat}(ap:2000<F){xs:List PT}(aC:a≤pv)(aD:pv<b)(hb:b≤xs.length)(aE:xs.length<900)(aa:KO xs):
  A7 (f185 F xs (a:Int) (b:Int) (pv:Int)) (fun r=>r.1=(((partition AH xs.toArray a b pv).1:Nat):Int)∧r.2.1=(partition AH xs.toArray a b pv).2.1∧r.2.2.toArray=(partition AH xs.toArray a b pv).2.2∧KO r.2.2∧r.2.2.length=xs.length):=by
 have ab:a<xs.length:=by omega
 have ae:pv<xs.length:=by omega
 obtain⟨ys,V⟩:∃ys,(xs.set a xs[pv]).set pv xs[a]=ys:=⟨_,rfl⟩;have O:KO ys:=by rw [← V];exact(aa.set (aa.get ae)).set (aa.get ab)
 have am:ys.length=xs.length:=by rw [← V];simp
 have aq:ys.toArray=swp xs.toArray a pv:=by rw [← V,H8 ab ae]
 have Y:a<ys.length:=by omega
 have an:b - 1<ys.length:=by omega
 unfold f185;refine BM (m:=pv) rfl ae (BM (m:=a) rfl ab ?_);refine Bh ((a+1:Nat):Int) (by simp) (by omega) (by omega) (Bh ((b - 1:Nat):Int) (by omega) (by omega) (by omega) ?_);have ar:iter (JD F xs (a:Int) (pv:Int) xs[pv] xs[a] ((b - 1:Nat):Int)) F ((a+1:Nat):Int)=some ((scanUp (fun x=>AH x ys.toArray[a]!) ys.toArray (b - 1) (a+1):Nat):Int):=
  Oc (by omega) (fun au av=>S2 V Y an (by omega) O au av) (b - 1+1 - (a+1)) (a+1) F (by omega) (by omega) (by omega)
 refine Bl ar ?_;have aw:=scanUp_ge (fun x=>AH x ys.toArray[a]!) ys.toArray (b - 1) (a+1);have U:partition AH xs.toArray a b pv=if scanUp (fun x=>AH x ys.toArray[a]!) ys.toArray (b - 1) (a+1)>scanDown (fun x=> !AH x ys.toArray[a]!) ys.toArray (scanUp (fun x=>AH x ys.toArray[a]!) ys.toArray (b - 1) (a+1)) (b - 1) then
   (scanDown (fun x=> !AH x ys.toArray[a]!) ys.toArray (scanUp (fun x=>AH x ys.toArray[a]!) ys.toArray (b - 1) (a+1)) (b - 1),true,swp ys.toArray (scanDown (fun x=> !AH x ys.toArray[a]!) ys.toArray (scanUp (fun x=>AH x ys.toArray[a]!) ys.toArray (b - 1) (a+1)) (b - 1)) a) else
   ((partLoop AH a (scanUp (fun x=>AH x ys.toArray[a]!) ys.toArray (b - 1) (a+1)+1) (scanDown (fun x=> !AH x ys.toArray[a]!) ys.toArray (scanUp (fun x=>AH x ys.toArray[a]!) ys.toArray (b - 1) (a+1)) (b - 1) - 1) (swp ys.toArray (scanUp (fun x=>AH x ys.toArray[a]!) ys.toArray (b - 1) (a+1)) (scanDown (fun x=> !AH x ys.toArray[a]!) ys.toArray (scanUp (fun x=>AH x ys.toArray[a]!) ys.toArray (b - 1) (a+1)) (b - 1)))).1,false,
    swp (partLoop AH a (scanUp (fun x=>AH x ys.toArray[a]!) ys.toArray (b - 1) (a+1)+1) (scanDown (fun x=> !AH x ys.toArray[a]!) ys.toArray (scanUp (fun x=>AH x ys.toArray[a]!) ys.toArray (b - 1) (a+1)) (b - 1) - 1) (swp ys.toArray (scanUp (fun x=>AH x ys.toArray[a]!) ys.toArray (b - 1) (a+1)) (scanDown (fun x=> !AH x ys.toArray[a]!) ys.toArray (scanUp (fun x=>AH x ys.toArray[a]!) ys.toArray (b - 1) (a+1)) (b - 1)))).2
     (partLoop AH a (scanUp (fun x=>AH x ys.toArray[a]!) ys.toArray (b - 1) (a+1)+1) (scanDown (fun x=> !AH x ys.toArray[a]!) ys.toArray (scanUp (fun x=>AH x ys.toArray[a]!) ys.toArray (b - 1) (a+1)) (b - 1) - 1) (swp ys.toArray (scanUp (fun x=>AH x ys.toArray[a]!) ys.toArray (b - 1) (a+1)) (scanDown (fun x=> !AH x ys.toArray[a]!) ys.toArray (scanUp (fun x=>AH x ys.toArray[a]!) ys.toArray (b - 1) (a+1)) (b - 1)))).1 a):=by
  rw [aq];rfl
 generalize aF:scanUp (fun x=>AH x ys.toArray[a]!) ys.toArray (b - 1) (a+1)=i2 at aw U ⊢;have ay:iter (Jw F xs (a:Int) (pv:Int) xs[pv] xs[a] (i2:Int)) F ((b - 1:Nat):Int)=some ((scanDown (fun x=> !AH x ys.toArray[a]!) ys.toArray i2 (b - 1):Nat):Int):=
  NV (n:=ys.length) (by omega) (fun az aA=>RI V Y (by omega) O (by omega) az aA) (b - 1) F an (by omega)
 refine Bl ay ?_;have hle:=scanDown_le (fun x=> !AH x ys.toArray[a]!) ys.toArray i2 (b - 1);generalize aG:scanDown (fun x=> !AH x ys.toArray[a]!) ys.toArray i2 (b - 1)=K at hle U ⊢;have W:K<ys.length:=by omega
 simp only [Int.toNat_natCast,V];refine B8 (fun h=>?_) (fun h=>?_)
 ·have ag:i2>K:=by omega
  rw [if_pos ag] at U;refine BM (m:=a) rfl Y (BM (m:=K) rfl W ?_);refine Au ?_;rw [U];exact⟨rfl,rfl,H8 W Y,(O.set (O.get Y)).set (O.get W),by simp [am]⟩
 ·have ag:¬i2>K:=by omega
  have ah:i2<ys.length:=by omega
  rw [if_neg ag] at U;refine BM (m:=K) rfl W (BM (m:=i2) rfl ah ?_);refine Bh ((i2+1:Nat):Int) (by simp) (by omega) (by omega) (Bh ((K - 1:Nat):Int) (by omega) (by omega) (by omega) ?_);refine AU (UL (F:=F) ap (show a<b by omega) (K - 1+1 - (i2+1)) (i2+1) (K - 1) F ((ys.set i2 ys[K]).set K ys[i2]) (by omega) (by omega) (by omega) (by omega) (by omega) (by simp;omega) (by simp;omega) ((O.set (O.get W)).set (O.get ah))) ?_;rintro r ⟨k1,ai,Z,ao⟩;rw [H8 ah W] at k1 ai;have aB:=Ru a _ (i2+1) (K - 1) (swp ys.toArray i2 K) (Nat.le_refl _);obtain⟨aH,aj⟩:=r;simp only at k1 ai Z ao ⊢;subst k1;rw [← ai] at U;have hlen:aj.length=ys.length:=by simpa using ao
  generalize (partLoop AH a (i2+1) (K - 1) (swp ys.toArray i2 K)).1=pm at aB U ⊢;have ak:pm<aj.length:=by omega
  have al:a<aj.length:=by omega
  refine BM (m:=a) rfl al (BM (m:=pm) rfl ak ?_);refine Au ?_;rw [U];exact⟨rfl,rfl,H8 ak al,(Z.set (Z.get al)).set (Z.get ak),by simp [hlen,am]⟩
end Pal
namespace Pal
open Go.Sort
theorem Us(F:Nat):∀n:Nat,n<13→∃l,f163 F (CN (n:Int))=some l:=by
 intro n K
 match n,K with
 | 0,_=>exact⟨_,rfl⟩
 | 1,_=>exact⟨_,rfl⟩
 | 2,_=>exact⟨_,rfl⟩
 | 3,_=>exact⟨_,rfl⟩
 | 4,_=>exact⟨_,rfl⟩
 | 5,_=>exact⟨_,rfl⟩
 | 6,_=>exact⟨_,rfl⟩
 | 7,_=>exact⟨_,rfl⟩
 | 8,_=>exact⟨_,rfl⟩
 | 9,_=>exact⟨_,rfl⟩
 | 10,_=>exact⟨_,rfl⟩
 | 11,_=>exact⟨_,rfl⟩
 | 12,_=>exact⟨_,rfl⟩
 | n+13,h=>omega
theorem SZ(F:Nat):f163 F (CN ((13:Nat):Int))=some 4:=rfl
def Is(xs:List PT)(d:Array PT)(ys:List PT):Prop:=ys.toArray=d∧KO ys∧ys.length=xs.length
theorem N9{F a b:Nat}{l:Int}{xs:List PT}(K:2000<F)(O:a≤b)(ae:b≤a+12)(hb:b≤xs.length)(ag:xs.length<900)(U:KO xs):
  A7 (HM F xs (a:Int) (b:Int) l) (Is xs (insertionSort AH xs.toArray a b)):=by
 unfold HM;refine AU (S:=fun r=>∃ys,r=Sum.inl ys∧Is xs (insertionSort AH xs.toArray a b) ys) ?_ ?_
 ·obtain⟨V,rfl⟩:∃k,F=k+1:=⟨F - 1,by omega⟩;obtain⟨ys,W,Y,Z,aa⟩:=PX K hb (by omega) U O;have ab:KZ (V+1) xs (a:Int) (b:Int) l ()=some (.done (Sum.inl ys)):=by
   refine A7.J9 ?_;unfold KZ;refine Bh ((b - a:Nat):Int) (by omega) (by omega) (by omega) (Cy (by omega) ?_);exact Bl W (Au rfl)
  unfold iter;rw [ab];exact⟨_,rfl,ys,rfl,Y,Z,aa⟩
 ·rintro r ⟨ys,rfl,h⟩;exact Au h
theorem Mp{F a b:Nat}{l:Int}{wb wp:Bool}{xs:List PT}(K:2000<F)(O:a≤b)(aa:b≤a+12)(hb:b≤xs.length)(ab:xs.length<900)(U:KO xs):
  A7 (GU F l ((a:Int),(b:Int),wb,wp,xs)) (fun st=>∃ys,st= .done (Sum.inl ys)∧Is xs (insertionSort AH xs.toArray a b) ys):=by
 obtain⟨ys,V,W,Y,Z⟩:=PX K hb (by omega) U O;unfold GU;refine AU (S:=fun r=>r=Sum.inl ys) ?_ ?_
 ·refine Bh ((b - a:Nat):Int) (by dsimp only;omega) (by omega) (by omega) (Cy (by omega) ?_);exact Bl V (Au rfl)
 ·rintro r rfl;exact Au ⟨ys,rfl,W,Y,Z⟩
theorem R9{F n:Nat}{l:Int}{xs:List PT}(O:2000<F)(Z:n=xs.length)(aa:n≤12)(U:KO xs):
  A7 (f162 F xs 0 (n:Int) l) (Is xs (insertionSort AH xs.toArray 0 n)):=by
 unfold f162;refine AU (S:=fun r=>∃ys,r=Sum.inl ys∧Is xs (insertionSort AH xs.toArray 0 n) ys) ?_ ?_
 ·obtain⟨K,rfl⟩:∃k,F=k+1:=⟨F - 1,by omega⟩;obtain⟨st,V,ys,rfl,W⟩:=Mp (F:=K+1) (a:=0) (b:=n) (l:=l) (wb:=true) (wp:=true) (xs:=xs) O (by omega) (by omega) (by omega) (by omega) U;have Y:GU (K+1) l (0,(n:Int),true,true,xs)=some (.done (Sum.inl ys)):=V;unfold iter;rw [Y];exact⟨_,rfl,ys,rfl,W⟩
 ·rintro r ⟨ys,rfl,h⟩;exact Au h
theorem Tm{S A:Type}{body:S→Option (Bi S A)}{F:Nat}{s s':S}(h:body s=some (.more s')){Q:A→Prop}(k:A7 (iter body F s') Q):A7 (iter body (F+1) s) Q:=by
 unfold iter;rw [h];exact k
theorem TF{S A:Type}{body:S→Option (Bi S A)}{F:Nat}{s:S}{Q:A→Prop}(h:A7 (body s) (fun st=>∃a,st= .done a∧Q a)):A7 (iter body (F+1) s) Q:=by
 obtain⟨st,K,a,rfl,O⟩:=h;unfold iter;rw [K];exact⟨a,rfl,O⟩
set_option maxHeartbeats 1000000 in
theorem TQ{F:Nat}{xs:List PT}(bc:3000<F)(aJ:xs.length=13)(ao:KO xs):
  A7 (f162 F xs 0 ((13:Nat):Int) 4) (Is xs (pdq AH xs.toArray 0 13 4 true true)):=by
 have aK:xs.toArray.size=13:=by simpa using aJ
 obtain⟨s1,B1,bd,s2,be,ap,bf,bg⟩:=rd_facts (lt:=AH) (d:=xs.toArray) (a:=0) (b:=13) (limit:=4) (wb:=true) (wp:=true) K9 partialInsertionSort_holds reverseRange_holds (by omega) (by rw [aK];omega) (.inl rfl);have aq:¬(13 - 0≤12):=by omega
 have aC:=Ud (F:=F) (a:=0) (b:=13) (xs:=xs) (by omega) (by omega) (by omega) (by omega) ao;have aL:choosePivot AH xs.toArray 0 13=(rd AH xs.toArray 0 13 4 true true).c:=rfl;rw [aL] at aC;generalize K:rd AH xs.toArray 0 13 4 true true=R at*;have aM:R.lim=4:=by rw [← K];rfl
 have aN:R.c.2= .decreasing→R.d2=reverseRange xs.toArray 0 13∧R.pivot=(13 - 1) - (R.c.1 - 0)∧R.hint= .increasing:=by
  intro h;rw [← K] at h ⊢;exact rd_dec h
 have aO:R.c.2≠ .decreasing→R.d2=xs.toArray∧R.pivot=R.c.1∧R.hint=R.c.2:=by
  intro h;rw [← K] at h ⊢;exact rd_not h
 have aP:R.hint= .increasing→R.pi=partialInsertionSort AH R.d2 0 13:=by
  intro h;rw [← K] at h ⊢;exact rd_pi_yes (by simp [h])
 have aQ:R.hint≠ .increasing→R.pi=(R.d2,false):=by
  intro h;rw [← K] at h ⊢;exact rd_pi_no (by simp [h])
 have aR:A7 (if HN R.c.2=2 then(f182 F xs 0 ((13:Nat):Int)).bind fun aS=>(Av (((13:Nat):Int) - 1)).bind fun aT=>(Av (((R.c.1:Nat):Int) - 0)).bind fun aU=>(Av (aT - aU)).bind fun aV=>some (aV,(1:Int),aS) else some (((R.c.1:Nat):Int),HN R.c.2,xs))
   (fun q=>q.1=((R.pivot:Nat):Int)∧q.2.1=HN R.hint∧Is xs R.d2 q.2.2):=by
  by_cases ai:R.c.2= .decreasing
  ·obtain⟨ab,ae,W⟩:=aN ai;refine Cy (by rw [ai];rfl) (AU (UO (F:=F) (a:=0) (b:=13) (xs:=xs) (by omega) (by omega) (by omega) (by omega) ao) ?_);rintro ys ⟨k1,U,V⟩;refine Bh 12 (by omega) (by omega) (by omega) (Bh ((R.c.1:Nat):Int) (by omega) (by omega) (by omega) ?_);refine Bh ((12 - R.c.1:Nat):Int) (by omega) (by omega) (by omega) (Au ⟨?_,?_,?_,U,V⟩)
   ·rw [ae];rfl
   ·rw [W];rfl
   ·rw [ab];exact k1
  ·obtain⟨ab,ae,W⟩:=aO ai;refine BB (by intro h;cases ar:R.c.2 <;> rw [ar] at h ai <;> first | (exact ai rfl) | (cases h)) ?_
   refine Au ⟨?_,?_,?_,ao,rfl⟩
   ·rw [ae]
   ·rw [W]
   ·rw [ab]
 unfold f162;refine AU (S:=fun r=>∃ys,r=Sum.inl ys∧Is xs (pdq AH xs.toArray 0 13 4 true true) ys) ?_ (by rintro r ⟨ys,rfl,h⟩;exact Au h);have aW:∀(Y:List PT),Is xs R.pi.1 Y→R.pi.2=false→
   A7 ((f185 F Y 0 ((13:Nat):Int) ((R.pivot:Nat):Int)).bind fun O=>(Av (O.1 - 0)).bind fun aD=>(Av (((13:Nat):Int) - O.1)).bind fun aE=>(G1 (13:Int) (8)).bind fun aF=>
     Option.bind (
      if aD<aE then(
       (HM F O.2.2 0 O.1 4).bind fun aX=>
       (Av (O.1+1)).bind fun aY=>
       some (aY,((13:Nat):Int),decide (aF≤aD),aX)
      ) else(
       (Av (O.1+1)).bind fun aZ=>
       (HM F O.2.2 aZ ((13:Nat):Int) 4).bind fun a0=>
       some ((0:Int),O.1,decide (aF≤aE),a0)
      )
     ) fun am=>
     some (am.1,am.2.1,am.2.2.1,O.2.1,am.2.2.2))
    (fun st=>A7 (GU F 4 st) (fun q=>∃a,q= .done a∧∃ys,a=Sum.inl ys∧Is xs (pdq AH xs.toArray 0 13 4 true true) ys)):=by
  intro Y a1 aG;obtain⟨z1,a2,bh⟩:=a1;have bi:Y.length=13:=by omega
  refine AU (Ug (F:=F) (a:=0) (b:=13) (pv:=R.pivot) (xs:=Y) (by omega) (by omega) ap.2 (by omega) (by omega) a2) ?_;rw [z1];have Z:=partition_holds AH K9 R.pi.1 0 13 R.pivot ap.1 ap.2 (by omega);have aj:=fun au=>pdq_left (lt:=AH) (d:=xs.toArray) (a:=0) (b:=13) (limit:=4) (wb:=true) (wp:=true) aq (by omega) (by rw [K];exact aG) (by simp) (by rw [K];exact⟨Z.1,Z.2.1⟩) au;have ak:=fun au=>pdq_right (lt:=AH) (d:=xs.toArray) (a:=0) (b:=13) (limit:=4) (wb:=true) (wp:=true) aq (by omega) (by rw [K];exact aG) (by simp) (by rw [K];exact⟨Z.1,Z.2.1⟩) au;rw [K] at aj ak;rw [aM] at aj ak;generalize partition AH R.pi.1 0 13 R.pivot=PA at Z aj ak ⊢;obtain⟨m,bj,d4⟩:=PA;rintro⟨bl,a3,aa⟩ ⟨k1,U,V,av,a4⟩;simp only at k1 U V av a4 Z aj ak ⊢;subst k1 U;have hm:m<13:=Z.2.1;have bm:aa.length=13:=by omega
  refine Bh (m:Int) (by omega) (by omega) (by omega) (Bh ((13 - m:Nat):Int) (by omega) (by omega) (by omega) ?_);refine Bl (b:=1) rfl ?_;by_cases aH:m - 0<13 - m
  ·refine AU (S:=fun q=>∃us,q=(((m+1:Nat):Int),((13:Nat):Int),decide ((1:Int)≤(m:Int)),us)∧Is aa (insertionSort AH aa.toArray 0 m) us) ?_ ?_
   ·refine Cy (by omega) (AU (N9 (F:=F) (a:=0) (b:=m) (l:=4) (xs:=aa) (by omega) (by omega) (by omega) (by omega) (by omega) av) ?_);intro us aw;exact Bh ((m+1:Nat):Int) (by simp) (by omega) (by omega) (Au ⟨us,rfl,aw⟩)
   ·rintro q ⟨us,rfl,u1,ay,a5⟩;refine Au ?_;refine(Mp (F:=F) (a:=m+1) (b:=13) (l:=4) (xs:=us) (by omega) (by omega) (by omega) (by omega) (by omega) ay).Ag ?_;rintro st ⟨ys,rfl,v1,v2,a6⟩;refine⟨_,rfl,ys,rfl,?_,v2,by omega⟩;rw [v1,u1,V,aj aH,pdq_small (by omega),pdq_small (by omega)]
  ·refine AU (S:=fun q=>∃us,q=((0:Int),(m:Int),decide ((1:Int)≤((13 - m:Nat):Int)),us)∧Is aa (insertionSort AH aa.toArray (m+1) 13) us) ?_ ?_
   ·refine BB (by omega) (Bh ((m+1:Nat):Int) (by simp) (by omega) (by omega) ?_);refine AU (N9 (F:=F) (a:=m+1) (b:=13) (l:=4) (xs:=aa) (by omega) (by omega) (by omega) (by omega) (by omega) av) ?_;intro us aw;exact Au ⟨us,rfl,aw⟩
   ·rintro q ⟨us,rfl,u1,ay,a5⟩;refine Au ?_;have:=Mp (F:=F) (a:=0) (b:=m) (l:=4) (wb:=decide ((1:Int)≤((13 - m:Nat):Int))) (wp:=a3) (xs:=us) (by omega) (by omega) (by omega) (by omega) (by omega) ay;refine A7.Ag this ?_;rintro st ⟨ys,rfl,v1,v2,a6⟩;refine⟨_,rfl,ys,rfl,?_,v2,by omega⟩;rw [v1,u1,V,ak aH,pdq_small (by omega),pdq_small (by omega)]
 have a7:A7 (GU F 4 (0,((13:Nat):Int),true,true,xs)) (fun st=>(∃a,st= .done a∧∃ys,a=Sum.inl ys∧Is xs (pdq AH xs.toArray 0 13 4 true true) ys)∨
   ∃s',st= .more s'∧A7 (GU F 4 s') (fun q=>∃a,q= .done a∧∃ys,a=Sum.inl ys∧Is xs (pdq AH xs.toArray 0 13 4 true true) ys)):=by
  unfold GU;refine AU (S:=fun r=>(∃ys,r=Sum.inl ys∧Is xs (pdq AH xs.toArray 0 13 4 true true) ys)∨∃s',r=Sum.inr s'∧A7 (GU F 4 s') (fun q=>∃a,q= .done a∧∃ys,a=Sum.inl ys∧Is xs (pdq AH xs.toArray 0 13 4 true true) ys)) ?_ ?_
  ·refine Bh 13 (by dsimp only;omega) (by omega) (by omega) (BB (by omega) ?_);refine BB (by omega) (AU (S:=fun _=>True) (BB (by simp) (Au trivial)) fun _ _=>?_);refine Bl aC (AU aR ?_);rintro⟨q1,q2,ag⟩ ⟨ab,ae,W⟩;simp only at ab ae W ⊢;subst ab ae;refine Bl (b:=true) (by simp) (Bl (b:=decide (HN R.hint=1)) (by simp) ?_);have a8:A7 (if(decide (HN R.hint=1))=true then(f183 F ag 0 ((13:Nat):Int)).bind fun az=>if az.1=true then some (Sum.inl az.2) else some (Sum.inr az.2) else some (Sum.inr ag))
     (fun r=>(R.pi.2=true∧∃ys,r=Sum.inl ys∧Is xs R.pi.1 ys)∨(R.pi.2=false∧∃ys,r=Sum.inr ys∧Is xs R.pi.1 ys)):=by
    by_cases hh:R.hint= .increasing
    ·refine Cy (by rw [hh];rfl) ?_;obtain⟨k1,U,V⟩:=W;obtain⟨aA,g2⟩:=UM (F:=F) (a:=0) (b:=13) (xs:=ag) (by omega) (by omega) (by omega) (by omega) (by omega) U;rw [k1] at aA g2;rw [← aP hh] at aA g2;refine Bl aA (B8 (fun h=>?_) (fun h=>?_))
     ·exact Au (.inl ⟨h,ag,rfl,by rw [g2];exact k1,U,V⟩)
     ·exact Au (.inr ⟨by simpa using h,ag,rfl,by rw [g2];exact k1,U,V⟩)
    ·refine BB (by intro h;cases ar:R.hint <;> rw [ar] at h hh <;> first | (exact hh rfl) | (simp [HN] at h)) ?_
     rw [aQ hh];exact Au (.inr ⟨rfl,ag,rfl,W⟩)
   refine AU a8 ?_;rintro r (⟨p2,ys,rfl,aB⟩ | ⟨p2,Y,rfl,a9⟩)
   ·refine Au (.inl ⟨ys,rfl,?_⟩);rw [pdq_done aq (by omega) (by rw [K];exact p2),K];exact aB
   ·rw [Sum.elim_inr];refine AU (S:=fun c=>c=false) (BB (by omega) (Au rfl)) ?_;rintro c rfl;refine BB (by simp) ?_;obtain⟨s',ah,al⟩:=aW Y a9 p2;have bn:∀{α β:Type} (o:Option α) (f:α→Option β) (g:β→(List PT)⊕(Int×Int×Bool×Bool×List PT)),True:=fun _ _ _=>trivial;refine A7.of_eq (a:=Sum.inr s') ?_ (.inr ⟨s',rfl,al⟩);have key:∀(o:Option (Int×Int×Bool×Bool×List PT)),o=some s'→(o.bind fun x=>some (Sum.inr x:List PT⊕(Int×Int×Bool×Bool×List PT)))=some (Sum.inr s'):=fun o ba=>by rw [ba];rfl
    refine Eq.trans ?_ (key _ ah);simp only [Option.bind_assoc,Option.bind_some]
  ·rintro r (⟨ys,rfl,aB⟩ | ⟨s',rfl,bb⟩)
   ·exact Au (.inl ⟨_,rfl,ys,rfl,aB⟩)
   ·exact Au (.inr ⟨s',rfl,bb⟩)
 obtain⟨bo,aI⟩:∃k,F=k+2:=⟨F - 2,by omega⟩;obtain⟨st,ah,al | al⟩:=a7
 ·obtain⟨a,rfl,an⟩:=al;rw [aI] at ah ⊢;unfold iter;rw [ah];exact⟨a,rfl,an⟩
 ·obtain⟨s',rfl,an⟩:=al;rw [aI] at ah an ⊢;exact Tm ah (TF an)
end Pal
namespace Pal
open Go Go.Conc Go.Proofs
open Go.Proofs.Tryz
variable {J:Judge Tryz.prog}{E:LH}
def O7(fuel:Nat)(p1:Int)(K:Int)(U:Unit):Option (Bi Unit Unit):= Option.bind (if p1<K then(none) else(some false)) fun O=> if O=true then((Av (K - 1)).bind fun V=> (Av (K - 1)).bind fun W=> none) else(some (.done ()))
def O5(fuel:Nat)(p1:Int)(p2:Int)(K:Int):Option (Bi Int Unit):= if K<p2 then(Option.bind (iter (O7 fuel p1 K) fuel ()) fun U=> (Av (K+1)).bind fun O=> some (.more O)) else(some (.done ()))
def Nr(fuel:Nat)(p1:Int)(p2:Int):Option Unit:= (Av (p1+1)).bind fun K=> Option.bind (iter (O5 fuel p1 p2) fuel K) fun O=> some ()
theorem Up{p1:Int}{p2:Int}{fuel:Nat}{r:Unit}(V:Nr fuel p1 p2=some r):AP J 178 [nS,iV p1,iV p2,(fV 134)] E [] (fun w E' B'=>w= .tuple #[]∧B'= []):=by
 refine A9 func178 fun Q aZ cs H aj ak=>?_;unfold Nr at V;obtain⟨a0,al,am⟩:=bs V;refine zg 3 rfl (Bg al rfl rfl rfl ?_);obtain⟨a1,an,ao⟩:=bs am;refine zg 2 rfl (Cq [] [] (fun a2 ap aq=>?_) (fun ar=>?_))
 ·obtain rfl:=oi ao;exact JL.fin (v:= .tuple #[]) rfl rfl (BR.list func178 rfl (vs:= []) trivial) (ak ap rfl ⟨rfl,rfl⟩ aq)
 ·refine JL.block (Cs an (fun K=> []) (fun K=> [(0,.slice none 0 0),(1,iV p1),(2,iV p2),(3,(fV 134)),(8,iV K)]) Aq aj ?_);rintro K a3 W Y au ⟨a4,O⟩ av;have Z:=O;unfold O5 at Z;refine zg 7 rfl (AS Z (fun aw ay=>?_) (fun aw az=>?_))
  ·obtain⟨a5,aA,aB⟩:=bs ay;refine zg 8 rfl (Cq [] [(0,.slice none 0 0),(1,iV p1),(2,iV p2),(3,(fV 134)),(8,iV K)] (fun a6 aC aD=>?_) (fun aE=>?_))
   ·obtain⟨aF,aG,aH⟩:=bs aB;refine zg 3 rfl (Bg aG rfl rfl rfl ?_);refine zg 2 rfl ?_;obtain rfl:=oi aH;exact av aF (W.Ab aC) aD rfl O
   ·refine JL.block (Cs aA (fun aa=> []) (fun aa=> [(0,.slice none 0 0),(1,iV p1),(2,iV p2),(3,(fV 134)),(8,iV K),(9,iV K)]) Aq Y ?_);rintro aa ab aI aJ aK ⟨a7,ae⟩ a8;have ag:=ae;unfold O7 at ag;refine zg 2 rfl (Ep 17 fun ht=>?_);refine Bp ht rfl [0,1,2,3] rfl ?_;obtain⟨aL,ah,aM⟩:=bs ag;refine FL 0 #[true,true,true,true,true,true,true,true,true,true,true,true,true,true,true,true,true] (fun L s=>∃(ai:LH),Jm ab H ai [] [(0,.slice none 0 0),(1,iV p1),(2,iV p2),(3,(fV 134)),(8,iV K),(9,iV K),(34,.bool aL)] L s) ?_ ?_
    ·rintro _ _ ⟨ai,rfl,rfl,aN,aO⟩;refine AO.fin (by decide+kernel) (BL aM (fun aP aQ=>?_) (fun aP aR=>?_))
     ·refine zg 3 rfl (Ep 16 fun ht=>?_);refine Bp ht rfl [0,1,2,3] rfl ?_;obtain⟨a9,aS,aT⟩:=bs aQ;refine BC 4 ht rfl rfl (fun ρ h s' hs=>CY (h _ _ rfl) (h _ _ rfl) aS) (Bp ht rfl [5,6] rfl ?_);obtain⟨ba,aU,aV⟩:=bs aT;refine BC 7 ht rfl rfl (fun ρ h s' hs=>CY (h _ _ rfl) (h _ _ rfl) aU) ?_;cases aV
     ·refine JL.exit rfl ?_;obtain rfl:=oi aR;obtain rfl:=aK _ ae;exact aE (aI.Ab aN) aO rfl
    ·intro aW;refine FY (q:=p1<K) (i:=21) rfl (fun U=>?_) (fun U=>?_)
     ·have aX:=ip ah U;refine Bp ht rfl [4,5,6] rfl ?_;cases aX
     ·have aY:=im ah U;refine Bp ht rfl [4,5,6,7,8,9,10,11,12,13,14,15,16] rfl ?_;obtain rfl:=oi aY;refine DD ?_ (aW _ _ ⟨ab,rfl,rfl,Aq,aJ⟩);exact⟨rfl,rfl,rfl,rfl,rfl,rfl,rfl,trivial⟩
  ·refine JL.exit rfl ?_;obtain rfl:=oi az;obtain rfl:=au _ O;exact ar W Y rfl
def O4(fuel:Nat)(p1:Int)(p2:Int)(p3:Int)(O:Unit):Option (Bi Unit ((Unit)⊕(Unit))):= (Av (p2 - p1)).bind fun K=> if K≤12 then((Nr fuel p1 p2).bind fun U=> some (.done (Sum.inl ()))) else(if p3=0 then(none) else(none))
def NB(fuel:Nat)(p1:Int)(p2:Int)(p3:Int):Option Unit:= Option.bind (iter (O4 fuel p1 p2 p3) fuel ()) fun K=> Sum.elim (fun r=>some r) (fun O=> none) K
theorem Uh{p1:Int}{p2:Int}{p3:Int}{fuel:Nat}{r:Unit}(K:NB fuel p1 p2 p3=some r):AP J 162 [nS,iV p1,iV p2,iV p3,(fV 134)] E [] (fun w E' B'=>w= .tuple #[]∧B'= []):=by
 refine A9 func162 fun Q ay cs H W Y=>?_;unfold NB at K;obtain⟨az,Z,aa⟩:=bs K;refine zg 8 rfl (Bs (fun L s=>False) ?_ ?_)
 ·intro _ _ ab;exact ab.elim
 ·intro aA;refine JL.block (Cs Z (fun O=> []) (fun O=> [(0,.slice none 0 0),(1,iV p1),(2,iV p2),(3,iV p3),(4,(fV 134)),(10,.bool true),(11,.bool true)]) Aq W ?_);rintro O aB ae ag ah ⟨aC,U⟩ aD;have V:=U;unfold O4 at V;obtain⟨aE,ai,aj⟩:=bs V;refine zg 5 rfl (BW ai rfl rfl rfl ?_);refine zg 8 rfl (AS aj (fun ak al=>?_) (fun ak am=>?_))
  ·obtain⟨aF,an,ao⟩:=bs al;refine zg 6 rfl (BK (Up an) rfl rfl Mi ag fun aG ap aq=>?_);refine JL.done ?_;obtain rfl:=oi ao;obtain rfl:=ah _ U;have ar:=elim_inl aa;obtain rfl:=oi ar;exact AN func162 rfl rfl (Y (ae.Ab ap) rfl ⟨rfl,rfl⟩ aq)
  ·refine zg 7 rfl (AS am (fun au av=>?_) (fun au aw=>?_))
   ·refine zg 6 rfl ?_;cases av
   ·refine zg 5 rfl (Az (v:= .bool false) rfl (fun ρ h=>Yl.not (c:=true) (h _ _ rfl)) ?_);refine zg 9 rfl ?_;cases aw
def QN(fuel:Nat):Option Unit:= (f163 fuel (CN ((0:Nat):Int))).bind fun K=> (NB fuel 0 ((0:Nat):Int) K).bind fun O=> some ()
theorem Uj{fuel:Nat}{r:Unit}(K:QN fuel=some r):AP J 133 [nS,(fV 134)] E [] (fun w E' B'=>w= .tuple #[]∧B'= []):=by
 refine A9 func133 fun Q ah cs H O U=>?_;unfold QN at K;refine zg 3 rfl (Bx underlying130 rfl rfl rfl ?_);refine zg 6 rfl (Az (v:= .int .u64 ((CN ((0:Nat):Int):Nat):Int)) rfl (fun ρ h=>Yl.CN underlying3 underlying156 (h _ _ rfl)) ?_);obtain⟨ai,V,W⟩:=bs K;refine BK (Qx V) rfl rfl (AX func163 rfl) O fun aj Y Z=>?_;obtain⟨ak,aa,ab⟩:=bs W;refine zg 1 rfl (BK (Uh aa) rfl rfl Km Z fun al ae ag=>?_);refine JL.done ?_;obtain rfl:=oi ab;exact JL.fin (v:= .tuple #[]) rfl rfl (BR.list func133 rfl (vs:= []) trivial) (U (Y.Ab ae) rfl ⟨rfl,rfl⟩ ag)
end Pal
namespace Pal
open Go Go.Conc Go.Proofs Go.Sort
theorem Sd:∀(ys K:List PT),K.Perm ys→ys.Pairwise (fun p q=>p.1<q.1)→K.Pairwise (fun p q=>p.1≤q.1)→K=ys:=by
 intro ys
 induction ys with
 | nil=>intro K h _ _;exact h.eq_nil
 | cons y ys Y=>
  intro K h O U;cases K with
  | nil=>exact absurd h.symm.eq_nil (by simp)
  | cons z K=>
   rw [List.pairwise_cons] at O U;have V:z∈y::ys:=h.mem_iff.1 (by simp);have W:y∈z::K:=h.mem_iff.2 (by simp);have e:z=y:=by
    rcases List.mem_cons.1 V with e | V
    ·exact e
    ·rcases List.mem_cons.1 W with e | W
     ·exact e.symm
     ·have:=O.1 z V;have:=U.1 y W;omega
   subst e;rw [Y K ((List.perm_cons z).1 h) O.2 U.2]
theorem UA{F:Nat}{xs ys:List PT}(ag:3000<F)(ao:xs.length≤13)(W:KO xs)(ah:ys.Perm xs)(hs:ys.Pairwise (fun p q=>p.1<q.1)):f133 F xs=some ys:=by
 have fin:∀(d:Array PT) (K:List PT),PermIn 0 xs.toArray.size xs.toArray d→SortedIn AH 0 xs.toArray.size d→K.toArray=d→K=ys:=by
  rintro d K Y ai rfl;have Z:K.Perm xs:=by
   have aa:=Y.2.2;have O:=Y.1;simp only [List.size_toArray] at O aa;have aj:(K.toArray.extract 0 xs.length).toList=K:=by simp [← O]
   have ak:(xs.toArray.extract 0 xs.length).toList=xs:=by simp
   rwa [aj,ak] at aa
  refine Sd ys K (Z.trans ah.symm) hs ?_;rw [List.pairwise_iff_getElem];intro i j hi ab al;have h:=ai i j (Nat.zero_le _) al (by simpa using (Z.length_eq▸ab));rw [F4 hi,F4 ab] at h;simpa [AH] using h
 have h:A7 (f133 F xs) (fun K=>K=ys):=by
  unfold f133;rcases Nat.lt_or_ge xs.length 13 with ae | ae
  ·obtain⟨l,O⟩:=Us F xs.length ae;refine Bl O (AU (R9 (F:=F) (n:=xs.length) (l:=l) (by omega) rfl (by omega) W) ?_);rintro K ⟨k1,am,an⟩;obtain⟨V,g2⟩:=insertionSort_holds K9 xs.toArray 0 xs.length (Nat.zero_le _) (by simp);exact Au (fin _ K (by simpa using V) (by simpa using g2) k1)
  ·have U:xs.length=13:=by omega
   refine Bl (b:=4) (by rw [U];exact SZ F) ?_;rw [U];refine AU (TQ (F:=F) (xs:=xs) ag U W) ?_;rintro K ⟨k1,am,an⟩;obtain⟨V,g2⟩:=pdq_sorts AH K9 xs.toArray 0 13 4 true true (Nat.zero_le _) (by simp [U]) (.inl rfl);have e:xs.toArray.size=13:=by simpa using U
   exact Au (fin _ K (by rw [e];exact V) (by rw [e];exact g2) k1)
 obtain⟨K,O,rfl⟩:=h;exact O
theorem U1{J:Judge Tryz.prog}{E:LH}{a:Option Addr}{c:Nat}{g:Seg}{xs ys:List PT}(U:xs.length≤13)(V:KO xs)(O:ys.Perm xs)(hs:ys.Pairwise (fun p q=>p.1<q.1))(W:OL 133 (rP rI (rP rI (rL (rP rI (rP (rL rI) (rN .u16)))))) E a c g xs):
  AP J 133 [.slice a xs.length c,.func (.func 134) #[] #[]] E g (fun w E' B'=>w= .tuple #[]∧OL 133 (rP rI (rP rI (rL (rP rI (rP (rL rI) (rN .u16)))))) E' a c B' ys):=by
 rcases W.cases with⟨rfl,rfl,rfl,rfl⟩ | ⟨bk,f,rfl,rfl,hW⟩
 ·obtain rfl:ys= []:=O.eq_nil;refine(Uj (fuel:=10) (r:=()) rfl).Ag ?_;rintro w E' B' hle ⟨K,rfl⟩;exact⟨K,OL.nil⟩
 ·refine(Vw hW (fuel:=4000) (UA (by omega) U V O hs)).Ag ?_;rintro w E' B' hle ⟨Z,K,rfl,Y⟩;exact⟨K,Y.1⟩
end Pal
namespace Pal
open Go Go.Conc Go.Proofs
open Go.Proofs.Tryz
open Go.Conc.Lib Go.ConcR.Gen
def En(qs:Nat→Int×List (BS)):List (Be):=((List.range 13).filter (fun j=>decide (0<(qs j).2.length))).map (partOf qs)
theorem Ui
  {E:LH} {k1 al:Nat} {am an ao:Ap} {ap aq ar:Nat} {au:Lv_} {U:BJ} {lk:AY} (aa:At E k1 al (([sV am U.1 ap,sV an U.2.1 aq]:Lv_)++au)) (aA:An (rL rI) E am ap U.1) (aB:An (rL rI) E an aq U.2.1) (aC:(rA 13 (rN .u16)).r E au U.2.2) (aD:An BE E ao ar lk) {fuel:Nat} {qs:Nat→Int×List (BS)} (aE:∀j,j<13→Gb fuel U lk ((j:Nat):Int)=some (qs j)):
  AP (Dv Tryz.prog) 102 [pV k1 al,.slice ao lk.length ar] E [] (fun w E' B'=>∃a c,w= .slice a (En qs).length c∧B'= []∧An Cc E' a c (En qs)):=by
 refine Nn func102 rfl rfl fun Q be cs H aF aG=>zg 2 rfl (CB aF fun aH bf aI ab aJ=>?_);refine CB aJ fun aK bg av aL aM=>?_;refine Dj (S':= []) (by simp) aM fun aN=>zg 4 rfl (JS.makeChan rfl rfl rfl underlying162 (CX type133) aN fun ch aO=>?_);refine Cr aO (DW type162) fun rc aP=>?_;refine JS.store (v:= .chan (some ch)) (off:=0) 1 rfl rfl rfl aP rfl rfl (Bm type162) (by simp [Value.cells,CG]) rfl (Nat.le_of_ble_eq_true rfl) fun aQ=>C9 1 aQ rfl fun V ae ag aR=>zg 3 rfl (Cr aR (DW type171) fun wg aS=>?_);refine Dj (S':= [[(ch,.chan 0 #[] false 0 0 false)],[(wg,.cells #[.int .u64 0,.int .u32 0] 171 (0,0))]]) (by simp [Value.cells]) aS fun Z=>zg 7 rfl (Iz ?_);refine HP [(2,pV aH 0),(3,pV aK 0),(5,pV rc 0),(6,pV wg 0),(11,iV ((0:Nat):Int))] rfl ?_;have aT:=aI.Ab av;have W:=aT.Ab ae;have ah:=Nd.iff.1 Z;intro T aU;let F:Fam:=⟨wg,ch,171,13,fun j=>decide (0<(qs j).2.length),fun kk v E=>kk<13∧∃a c,v= .agg #[iV ((kk:Nat):Int),iV (qs kk).1,.slice a (qs kk).2.length c]∧An CV E a c (qs kk).2,fun g s=>(Dv Tryz.prog).ok Q g s⟩;refine TK F (Nat.le_of_ble_eq_true rfl) (show 13<2147483647 by omega) ?_ ?_ (L8 (j:=1) Z rfl) (L8 (j:=0) Z rfl) ?_ (fun g s h=>h)
 ·rintro kk v bh bi ai ⟨Y,a,c,aV,aa⟩;exact⟨Y,a,c,aV,aa.Ag ai⟩
 ·intro e;have:=ah.1;simp at this;exact this e.symm
 have aW:=RY Z;show Way Tryz.prog true (Stop Tryz.prog F (.ER 0)) _ (⟨(Al V H [[(ch,.chan 0 #[] false 0 0 false)],[(wg,.cells #[.int .u64 0,.int .u32 0] 171 (0,0))]]).E,HG (Al V H [[(ch,.chan 0 #[] false 0 0 false)],[(wg,.cells #[.int .u64 0,.int .u32 0] 171 (0,0))]]).H wg ch,false⟩:St);rw [show(Al V H [[(ch,.chan 0 #[] false 0 0 false)],[(wg,.cells #[.int .u64 0,.int .u32 0] 171 (0,0))]]).E=V from rfl,aW];have aX:As V H []:=trivial;refine SS (F:=F) rfl (aa.Ag W) (aA.Ag W) (aB.Ag W) (Rp.Ag _ W aC) (aD.Ag W) (ab.Ag (av.Ab ae)) (aL.Ag ae) ag aE (fun j _=>rfl) (fun j aY E' a c aZ=>⟨aY,a,c,rfl,aZ⟩) (fun aw aj bj=>?_) 13 0 rfl (by decide) V Aq aX T aU;refine zg 9 rfl ?_;refine Az (v:= .func (.func 131) #[] ([.pointer (some F.sA),pV rc 0]:Lv_).toArray) rfl (fun ρ h=>H6 (by simp) (by simp [h (.tmp 6) _ rfl,h (.tmp 5) _ rfl])) ?_;have ay:=SV (F:=F) (show 13<2147483648 by omega) (ag.Ag aj);refine JL.Gg (fi:= #[]) rfl rfl rfl rfl rfl rfl rfl (by first | exact ay | (simp only [List.append_toArray,List.nil_append,Array.append_empty,Array.empty_append];exact ay)) ?_
 refine zg 8 rfl (Az (v:= .chan (some ch)) rfl (fun ρ h=>Yl.load Ki (h _ _ rfl) (At.QR (j:=0) (ag.Ag aj) rfl)) ?_);refine zg 2 rfl (Iz ?_);refine HP [(8,.slice none 0 0),(18,.chan (some ch))] rfl ?_;have a0:As aw H [[]]:=trivial;refine SG (F:=F) (Q:=Q) rfl (fun g s h=>h) (qs:=qs) (fun kk v E' h=>h.2) (fun K bl a c g a1 ah az a2 a3 a4=>?_) 13 [] [] aw none 0 [] rfl List.nodup_nil (by simp) (by decide) Aq OL.nil a0;have ak:(En qs).Perm (K.map (partOf qs)):=by
  unfold En;refine List.Perm.map _ ?_;refine(List.perm_ext_iff_of_nodup (List.nodup_range.filter _) ah).2 fun x=>?_;constructor
  ·intro O;simp at O;exact a2 x O.1 (by simpa [F] using O.2)
  ·intro O;have Y:=az x O;simp;exact⟨Y.1,by simpa [F] using Y.2⟩
 have a5:(En qs).Pairwise (fun p q=>p.1<q.1):=by
  unfold En;rw [List.pairwise_map];refine List.Pairwise.filter _ (List.Pairwise.imp ?_ List.pairwise_lt_range);intro a b ai;exact Int.ofNat_lt.2 ai
 have hlen:(K.map (partOf qs)).length≤13:=by
  rw [← ak.length_eq];unfold En;rw [List.length_map];exact Nat.le_trans (List.length_filter_le _ _) (by simp)
 have a6:KO (K.map (partOf qs)):=by
  intro x O;obtain⟨j,ab,rfl⟩:=List.mem_map.1 O;have Y:=(az j ab).1;simp only [partOf];omega
 have a7:(K.map (partOf qs)).length=(En qs).length:=ak.length_eq.symm;refine zg 3 rfl ?_;refine MR (vs:= [.slice a (K.map (partOf qs)).length c,.func (.func 134) #[] #[]]) 0 (U1 hlen a6 ak a5 a3) rfl rfl rfl (AX func133 rfl) rfl a4 rfl ?_;rintro _ bm g' a8 ⟨rfl,a9⟩ ba;refine zg 6 rfl ?_;refine Cb 0 a9 ba rfl fun bn bb bc bd=>?_;refine JL.ret (v:= .slice a (K.map (partOf qs)).length c) rfl rfl (BR.list func102 rfl (vs:= [.slice a (K.map (partOf qs)).length c]) ⟨rfl,trivial⟩) ?_;exact aG _ _ _ [] ((((W.Ab aj).Ab a1).Ab a8).Ab bb) (by simp) ⟨a,c,by rw [a7],rfl,bc⟩ bd
end Pal
namespace Pal
open Go Go.Conc Go.Proofs
open Go.Proofs.Tryz
open Go.Conc.Lib Go.ConcR.Gen
def IV(fuel:Nat)(K:BJ)(lk:AY):Option (List (Be)):=
 if(List.range 13).all (fun j=>(Gb fuel K lk ((j:Nat):Int)).isSome)=true then some (En fun j=>(Gb fuel K lk ((j:Nat):Int)).getD (0,[])) else none
theorem OX
  {E:LH} {k1 U:Nat} {V W Y:Ap} {Z aa ab:Nat} {ae:Lv_} {K:BJ} {lk:AY} (aj:At E k1 U (([sV V K.1 Z,sV W K.2.1 aa]:Lv_)++ae)) (ak:An (rL rI) E V Z K.1) (al:An (rL rI) E W aa K.2.1) (am:(rA 13 (rN .u16)).r E ae K.2.2) (an:An BE E Y ab lk) {fuel:Nat} {r:List (Be)} (O:IV fuel K lk=some r):
  AP (Dv Tryz.prog) 102 [pV k1 U,.slice Y lk.length ab] E [] (fun w E' B'=>∃(ag:Ap) (ah:Nat),w= .slice ag r.length ah∧B'= []∧An Cc E' ag ah r):=by
 unfold IV at O;split at O
 ·rename_i ai;cases O;refine(Ui aj ak al am an (fuel:=fuel) (qs:=fun j=>(Gb fuel K lk ((j:Nat):Int)).getD (0,[])) fun j ao=>?_).Ag ?_
  ·rw [List.all_eq_true] at ai;obtain⟨q,ap⟩:=Option.isSome_iff_exists.1 (ai j (List.mem_range.2 ao));rw [ap];rfl
  ·rintro w E' B' _ ⟨a,c,aq,ar,au⟩;exact⟨a,c,aq,ar,au⟩
 ·cases O
end Pal
namespace Pal
open Go Go.Conc Go.Proofs
open Go.Proofs.Tryz
def Qd(fuel:Nat)(O:Be)(K:Int×(List BS)×Int):Option (Bi (Int×(List BS)×Int) (Int×(List BS))):= if K.2.2<(O.2.2.length:Int) then((ix O.2.2 K.2.2).bind fun V=> (HS fuel K.1 K.2.1 V O.2.1).bind fun U=> (Av (K.2.2+1)).bind fun W=> some (.more (U.1,U.2,W))) else(some (.done (K.1,K.2.1)))
def Qk(fuel:Nat)(O:(List Be))(K:Int×(List BS)×Int):Option (Bi (Int×(List BS)×Int) (Int×(List BS))):= if K.2.2<(O.length:Int) then((ix O K.2.2).bind fun V=> Option.bind (iter (Qd fuel V) fuel (K.1,K.2.1,0)) fun U=> (Av (K.2.2+1)).bind fun W=> some (.more (U.1,U.2,W))) else(some (.done (K.1,K.2.1)))
def f93(fuel:Nat)(p0:BJ)(p1:AY):Option ((Int×(List BS))):= (IV fuel p0 p1).bind fun K=> Option.bind (iter (Qk fuel K) fuel (0,[],0)) fun O=> some O
theorem LX{E:LH}{k1:Nat}{aG:Nat}{aH:Ap}{aI:Nat}{aJ:Ap}{aK:Nat}{aL:Lv_}{aM:Ap}{aN:Nat}{p0:BJ}{p1:AY}(a2:At E k1 aG (([sV aH p0.1 aI,sV aJ p0.2.1 aK]:Lv_)++aL))(a3:An (rL rI) E aH aI p0.1)(a4:An (rL rI) E aJ aK p0.2.1)(a5:(rA 13 (rN .u16)).r E aL p0.2.2)(a6:An BE E aM aN p1){fuel:Nat}{r:(Int×(List BS))}(aO:f93 fuel p0 p1=some r):AP (Dv Tryz.prog) 93 [pV k1 aG,sV aM p1 aN] E [] (fun w E' B'=>∃(aP:Ap) (aQ:Nat),w= .agg #[iV r.1,sV aP r.2 aQ]∧B'= []∧An CV E' aP aQ r.2):=by
 refine A9 func93 fun Q co cs H a7 a8=>?_;unfold f93 at aO;refine zg 2 rfl (Cr a7 FH fun O a9=>?_);refine zg 3 rfl (Cr a9 FH fun U ba=>?_);obtain⟨Z,bb,bc⟩:=bs aO;refine zg 6 rfl (BH (OX a2 a3 a4 a5 a6 bb) rfl rfl (AX func102 rfl) ba ?_);rintro _ av _ bd ⟨aw,ay,rfl,rfl,be⟩ bf;refine Bx underlying130 rfl rfl rfl ?_;obtain⟨K,bg,bh⟩:=bs bc;refine zg 2 rfl (Bs (fun L s=>∃(az:LH) (V:Ap) (W:Nat) (aA:Seg),Jn av H az [bX O #[iV 0,nS] 97,bX U #[iV K.1,sV V K.2 W] 97,aA] [(4,pV O 0),(5,pV U 0)] L s (OL 104 CV az V W aA K.2)) ?_ ?_)
 ·rintro _ _ ⟨az,V,W,aA,rfl,rfl,bi,aR,bj⟩;refine zg 2 rfl (Az rfl (fun ρ h=>EK (vs:= [iV K.1,sV V K.2 W]) Ht CW (h _ _ rfl) (EG (off:=0) 1 aR rfl rfl)) ?_);refine BF 0 aR CW fun bl=>?_;refine JL.done (Cb 2 bj bl rfl fun cp bm bn bo=>?_);refine JS.drop 1 bo rfl fun aS=>?_;obtain rfl:=oi bh;refine JL.ret (v:= .agg #[iV K.1,sV V K.2 W]) rfl rfl (BR.list func93 rfl (vs:= [.agg #[iV K.1,sV V K.2 W]]) ⟨⟨_,rfl,Ld.many (vs:= [iV K.1,sV V K.2 W]) Ht CW (EG (off:=0) 0 aS rfl rfl)⟩,trivial⟩) (HH 0 aS rfl fun bp=>?_);exact a8 ((bd.Ab bi).Ab bm) rfl ⟨V,W,rfl,rfl,bn⟩ bp
 ·intro bq;refine JL.block (CP bg (fun L s Y=>∃(ai:LH) (aa:Ap) (ab:Nat) (ae:Seg),Jn av H ai [bX O #[iV 0,nS] 97,bX U #[iV Y.1,sV aa Y.2.1 ab] 97,ae] [(4,pV O 0),(5,pV U 0),(12,sV aw Z ay),(13,iV (Z.length:Int)),(14,iV Y.2.2)] L s (OL 104 CV ai aa ab ae Y.2.1)) ⟨av,none,0,[],rfl,rfl,Aq,bf,OL.nil⟩ ?_);rintro _ _ Y ⟨ai,aa,ab,ae,rfl,rfl,aB,aT,aU⟩ br ⟨cq,aC⟩ bu;have aV:=aC;unfold Qk at aV;refine zg 5 rfl (AS aV (fun bv bw=>?_) (fun bv bx=>?_))
  ·obtain⟨aW,bz,bA⟩:=bs bw;refine zg 5 rfl (Cf (be.Ag aB) bz underlying130 AK ?_);rintro cr ct _ ⟨_,_,rfl,rfl,⟨_,_,rfl,rfl,⟨bB,bC,rfl,bD⟩⟩⟩ bE;refine Cl bE B6 AK rfl rfl (Cr aT Hu fun bF bG=>?_);refine BF 3 bG AK fun bH=>?_;refine C9 3 bH rfl fun aD aE aX bI=>zg 3 rfl (Bu underlying133 CW rfl rfl rfl ?_);refine JL.fl 2 aX underlying97 C7 El ?_;refine Bx underlying95 rfl rfl rfl ?_;obtain⟨ag,bJ,bK⟩:=bs bA;refine zg 2 rfl (Bs (fun L s=>∃(aj:LH) (ak:Ap) (al:Nat) (am:Seg),Jn aD H aj [bX O #[iV 0,nS] 97,bX U #[iV ag.1,sV ak ag.2 al] 97,am] [(4,pV O 0),(5,pV U 0),(12,sV aw Z ay),(13,iV (Z.length:Int)),(14,iV Y.2.2)] L s (OL 104 CV aj ak al am ag.2)) ?_ ?_)
   ·rintro _ _ ⟨aj,ak,al,am,rfl,rfl,bL,bM,bN⟩;obtain⟨bO,bP,bQ⟩:=bs bK;refine zg 2 rfl (Bg bP rfl rfl rfl ?_);refine zg 2 rfl ?_;obtain rfl:=oi bQ;exact AB (bu _ _ (ag.1,ag.2,bO) ⟨aj,ak,al,am,rfl,rfl,((aB.Ab aE).Ab bL),bM,bN⟩ aC) rfl
   ·intro bR;refine JL.block (CP bJ (fun L s ah=>∃(an:LH) (ao:Ap) (ap:Nat) (aq:Seg),Jn aD H an [bX O #[iV 0,nS] 97,bX U #[iV ah.1,sV ao ah.2.1 ap] 97,aq] [(4,pV O 0),(5,pV U 0),(7,pV bF 0),(12,sV aw Z ay),(13,iV (Z.length:Int)),(14,iV Y.2.2),(20,sV bB aW.2.2 bC),(21,iV (aW.2.2.length:Int)),(22,iV ah.2.2)] L s (OL 104 CV an ao ap aq ah.2.1)) ⟨aD,aa,ab,ae,rfl,rfl,Aq,bI,(aU.Ag aE)⟩ ?_);rintro _ _ ah ⟨an,ao,ap,aq,rfl,rfl,ar,aY,aZ⟩ bS ⟨cu,aF⟩ bT;have a0:=aF;unfold Qd at a0;refine zg 5 rfl (AS a0 (fun bU bV=>?_) (fun bU bW=>?_))
    ·obtain⟨bY,bZ,b0⟩:=bs bV;refine zg 5 rfl (Cf (bD.Ag (aE.Ab ar)) bZ underlying95 B9 ?_);rintro cv cw _ ⟨_,_,rfl,rfl,⟨_,_,rfl,⟨cy,cz,rfl,b1⟩,rfl⟩⟩ b2;refine Cl b2 Ft B9 rfl rfl (Cr aY Gm fun cA b3=>?_);refine BF 3 b3 B9 fun b4=>?_;refine C9 3 b4 rfl fun cB au b5 b6=>zg 2 rfl (Cl b5 Ft B9 rfl rfl ?_);refine Bu underlying133 CW rfl rfl rfl (JL.fl 1 (aX.Ag (ar.Ab au)) underlying97 A3 Bw ?_);obtain⟨a1,b7,b8⟩:=bs b0;refine Jp 1 2 rfl rfl b6 fun b9=>BP 1 (UY (age:=0) (aZ.Ag au) (tr:=bY) (b1.Ag au) b7) rfl rfl (AX func122 rfl) b9 rfl ?_;rintro _ ca _ cb ⟨cc,cd,ce,rfl,rfl,cf⟩ cg;refine EM 1 rfl cg fun ci=>?_;obtain⟨ck,cm,cn⟩:=bs b8;refine zg 3 rfl (Bg cm rfl rfl rfl ?_);refine zg 2 rfl ?_;obtain rfl:=oi cn;exact AB (bT _ _ (a1.1,a1.2,ck) ⟨ca,cc,cd,ce,rfl,rfl,((ar.Ab au).Ab cb),ci,cf⟩ aF) rfl
    ·refine JL.exit rfl ?_;obtain rfl:=oi bW;obtain rfl:=bS _ aF;exact AB (bR _ _ ⟨an,ao,ap,aq,rfl,rfl,ar,aY,aZ⟩) rfl
  ·refine JL.exit rfl ?_;obtain rfl:=oi bx;obtain rfl:=br _ aC;exact AB (bq _ _ ⟨ai,aa,ab,ae,rfl,rfl,aB,aT,aU⟩) rfl
def f78(fuel:Nat)(p0:BI)(p1:AY)(p2:Int)(p3:Bool):Option ((Option BJ)×(Int×(List BS))×Int):= (f69 fuel p0 p1).bind fun O=> if O≠0 then(some (none,(0,[]),O)) else((Av ((p1.length:Int) - 1)).bind fun V=> (f101 fuel p2 (-1) V).bind fun W=> if W=true then(some (none,(0,[]),3)) else((f92 fuel p0).bind fun Y=> (Y).bind fun U=> (f93 fuel U p1).bind fun K=> Option.bind (if(K.2.length:Int)=0 then(some (!p3)) else(some false)) fun Z=> if Z=true then(some (none,K,11)) else(some (some U,K,0))))
theorem L3{E:LH}{am:Ap}{c2:Nat}{an:Ap}{ao:Nat}{ap:Ap}{aq:Nat}{p0:BI}{p1:AY}{p2:Int}{p3:Bool}(ar:An (rL rI) E am c2 p0.1)(au:An (rL rI) E an ao p0.2)(av:An BE E ap aq p1){fuel:Nat}{r:(Option BJ)×(Int×(List BS))×Int}(aw:f78 fuel p0 p1 p2 p3=some r):AP (Dv Tryz.prog) 78 [.agg #[sV am p0.1 c2,sV an p0.2 ao],sV ap p1 aq,iV p2,.bool p3] E [] (fun w E' B'=>∃(ay:Value) (az:Ap) (aA:Nat),w= .tuple #[ay,.agg #[iV r.2.1.1,sV az r.2.1.2 aA],iV r.2.2]∧B'= []∧I6 (rP (rL (rL rI)) (rP (rL (rL rI)) (rA 13 (rN .u16)))) E' ay r.1∧An CV E' az aA r.2.1.2):=by
 refine A9 func78 fun Q bH cs H aX ae=>?_;unfold f78 at aw;refine zg 2 rfl (CB aX fun bI bJ O aB aY=>?_);refine zg 1 rfl (Cr aY FH fun aC aZ=>?_);refine zg 5 rfl (Cl aB Cx Ca rfl rfl ?_);obtain⟨aD,a0,a1⟩:=bs aw;refine zg 1 rfl (BK (JP (ar.Ag O) (au.Ag O) (av.Ag O) a0) rfl rfl Jd aZ fun bK V aE=>?_);refine zg 7 rfl (AS a1 (fun a2 a3=>?_) (fun a2 a4=>?_))
 ·refine zg 2 rfl (Az (v:= .agg #[iV 0,nS]) rfl (fun ρ h=>CO [(0,1),(1,1)] h FH underlying97 ⟨rfl,Bm type3,rfl,Bm type95,trivial⟩ rfl rfl) ?_);refine zg 2 rfl (BF 2 aE CW fun aF=>?_);refine zg 2 rfl ?_;obtain rfl:=oi a3;refine JL.ret (v:= .tuple #[.pointer none,.agg #[iV 0,nS],iV aD]) rfl rfl (BR.list func78 rfl (vs:= [.pointer none,.agg #[iV 0,nS],iV aD]) ⟨rfl,⟨_,rfl,Ld.many (vs:= [iV 0,nS]) Ht CW (EG (off:=0) 2 aF rfl rfl)⟩,rfl,trivial⟩) (HH 2 aF rfl fun a5=>?_);exact ae (O.Ab V) rfl ⟨.pointer none,none,0,rfl,rfl,rfl,An.nil⟩ a5
 ·refine zg 6 rfl (Bx underlying25 rfl rfl rfl ?_);obtain⟨bL,a6,a7⟩:=bs a4;refine BW a6 rfl rfl rfl ?_;obtain⟨bM,a8,a9⟩:=bs a7;refine BK (Ih a8) rfl rfl H2 aE fun bN aa aG=>JL.done (BL a9 (fun ba bb=>?_) (fun ba bc=>?_))
  ·refine zg 2 rfl (Az (v:= .agg #[iV 0,nS]) rfl (fun ρ h=>CO [(0,1),(1,1)] h FH underlying97 ⟨rfl,Bm type3,rfl,Bm type95,trivial⟩ rfl rfl) ?_);refine zg 1 rfl (BF 2 aG CW fun aH=>?_);refine zg 2 rfl ?_;obtain rfl:=oi bb;refine JL.ret (v:= .tuple #[.pointer none,.agg #[iV 0,nS],iV 3]) rfl rfl (BR.list func78 rfl (vs:= [.pointer none,.agg #[iV 0,nS],iV 3]) ⟨rfl,⟨_,rfl,Ld.many (vs:= [iV 0,nS]) Ht CW (EG (off:=0) 2 aH rfl rfl)⟩,rfl,trivial⟩) (HH 2 aH rfl fun bd=>?_);exact ae ((O.Ab V).Ab aa) rfl ⟨.pointer none,none,0,rfl,rfl,rfl,An.nil⟩ bd
  ·refine zg 3 rfl (Cl (aB.Ag (V.Ab aa)) Cx Ca rfl rfl ?_);obtain⟨bO,be,bf⟩:=bs bc;refine BH (L4 (ar.Ag ((O.Ab V).Ab aa)) (au.Ag ((O.Ab V).Ab aa)) be) rfl rfl Kq aG ?_;rintro bP bQ _ ai ⟨_,rfl,rfl,bg⟩ bh;obtain⟨aj,bi,bj⟩:=bs bf;have aI:=bg;refine zg 6 rfl ?_;rw [bi] at aI;obtain⟨ag,ah,_,rfl,aJ,⟨_,_,rfl,⟨bl,bm,rfl,aK⟩,⟨_,aL,rfl,⟨aM,aN,rfl,aO⟩,aP⟩⟩⟩:=aI;obtain⟨K,bn,bo⟩:=bs bj;refine BH (LX aJ aK aO aP (av.Ag (((O.Ab V).Ab aa).Ab ai)) bn) rfl rfl Ks bh ?_;rintro _ bR _ ab ⟨W,Y,rfl,rfl,aQ⟩ bp;refine Cr bp FH fun bq br=>?_;refine BF 7 br CW fun bu=>?_;refine C9 7 bu rfl fun ak Z al aR=>zg 4 rfl (JL.fl 1 al underlying97 C7 El ?_);refine Bx underlying95 rfl rfl rfl ?_;obtain⟨bv,bw,bx⟩:=bs bo;refine zg 2 rfl (Fx [] (fun L s=>∃(aS:LH),Jm ak H aS [bX aC #[iV 0,nS] 97] [(9,pV aC 0),(12,pV ag ah),(13,pV bq 0),(39,.bool bv)] L s) ?_ ?_)
   ·rintro _ _ ⟨aS,rfl,rfl,U,aT⟩;refine JL.done (BL bx (fun bz bA=>?_) (fun bz bB=>?_))
    ·refine JL.seq (Ep 2 fun ht=>?_);refine Ii 0 ht (al.Ag U) Ht CW rfl rfl rfl (Ct 1 ht rfl rfl ?_);refine Cp [2,3] (BF 0 aT CW fun aU=>?_);refine zg 2 rfl ?_;obtain rfl:=oi bA;refine JL.ret (v:= .tuple #[.pointer none,.agg #[iV K.1,sV W K.2 Y],iV 11]) rfl rfl (BR.list func78 rfl (vs:= [.pointer none,.agg #[iV K.1,sV W K.2 Y],iV 11]) ⟨rfl,⟨_,rfl,Ld.many (vs:= [iV K.1,sV W K.2 Y]) Ht CW (EG (off:=0) 0 aU rfl rfl)⟩,rfl,trivial⟩) (HH 0 aU rfl fun bC=>?_);exact ae ((((((O.Ab V).Ab aa).Ab ai).Ab ab).Ab Z).Ab U) rfl ⟨.pointer none,W,Y,rfl,rfl,rfl,(aQ.Ag (Z.Ab U))⟩ bC
    ·refine zg 2 rfl (Ep 3 fun ht=>?_);refine Ct 0 ht rfl rfl (Ii 1 ht (al.Ag U) Ht CW rfl rfl rfl ?_);refine Ct 2 ht rfl rfl (Cp [3,4] ?_);refine BF 0 aT CW fun aV=>?_;refine zg 2 rfl ?_;obtain rfl:=oi bB;refine JL.ret (v:= .tuple #[pV ag ah,.agg #[iV K.1,sV W K.2 Y],iV 0]) rfl rfl (BR.list func78 rfl (vs:= [pV ag ah,.agg #[iV K.1,sV W K.2 Y],iV 0]) ⟨rfl,⟨_,rfl,Ld.many (vs:= [iV K.1,sV W K.2 Y]) Ht CW (EG (off:=0) 0 aV rfl rfl)⟩,rfl,trivial⟩) (HH 0 aV rfl fun bD=>?_);exact ae ((((((O.Ab V).Ab aa).Ab ai).Ab ab).Ab Z).Ab U) rfl ⟨pV ag ah,W,Y,rfl,rfl,⟨_,_,_,rfl,(aJ.Ag ((ab.Ab Z).Ab U)),⟨[sV bl aj.1 bm],(([sV aM aj.2.1 aN]:Lv_)++aL),rfl,⟨_,_,rfl,(aK.Ag ((ab.Ab Z).Ab U))⟩,⟨[sV aM aj.2.1 aN],aL,rfl,⟨_,_,rfl,(aO.Ag ((ab.Ab Z).Ab U))⟩,(Rp.Ag _ ((ab.Ab Z).Ab U) aP)⟩⟩⟩,(aQ.Ag (Z.Ab U))⟩ bD
   ·intro aW;refine Er 36 bw (fun bE bF=>?_) (fun bE bG=>?_)
    ·refine zg 1 rfl (Az (v:= .bool (!p3)) rfl (fun ρ h=>Yl.not (h _ _ rfl)) ?_);refine zg 1 rfl ?_;obtain rfl:=oi bF;exact AB (aW _ _ ⟨ak,rfl,rfl,Aq,aR⟩) rfl
    ·refine zg 3 rfl ?_;obtain rfl:=oi bG;exact AB (aW _ _ ⟨ak,rfl,rfl,Aq,aR⟩) rfl
def f28(fuel:Nat)(p0:BI)(p1:AY):Option (Int×Int):= (f78 fuel p0 p1 (-1) true).bind fun K=> some ((K.2.1.2.length:Int),K.2.2)
theorem Wr{E:LH}{O:Ap}{c2:Nat}{U:Ap}{V:Nat}{W:Ap}{Y:Nat}{p0:BI}{p1:AY}(aa:An (rL rI) E O c2 p0.1)(ab:An (rL rI) E U V p0.2)(ae:An BE E W Y p1){fuel:Nat}{r:Int×Int}(Z:f28 fuel p0 p1=some r):AP (Dv Tryz.prog) 28 [.agg #[sV O p0.1 c2,sV U p0.2 V],sV W p1 Y] E [] (fun w E' B'=>w= .tuple #[iV r.1,iV r.2]∧B'= []):=by
 refine A9 func28 fun Q av cs H ag ah=>?_;unfold f28 at Z;refine zg 2 rfl (CB ag fun aw ay K ai aj=>?_);refine zg 5 rfl (Cl ai Cx Ca rfl rfl ?_);obtain⟨az,ak,al⟩:=bs Z;refine zg 1 rfl (BH (L3 (aa.Ag K) (ab.Ag K) (ae.Ag K) ak) rfl rfl Kr aj ?_);rintro _ aA _ am ⟨aB,aC,aD,rfl,rfl,aE,aF⟩ an;refine zg 4 rfl (Cr an FH fun aG ao=>?_);refine zg 1 rfl (BF 3 ao CW fun ap=>?_);refine C9 3 ap rfl fun aH aq ar au=>zg 4 rfl (JL.fl 1 ar underlying97 C7 El ?_);refine Bx underlying95 rfl rfl rfl (zg 4 rfl ?_);obtain rfl:=oi al;exact AN func28 rfl rfl (ah ((K.Ab am).Ab aq) rfl ⟨rfl,rfl⟩ au)
def f30(fuel:Nat)(p0:BI)(p1:AY):Option (Int×(List Int)×Int):= (f78 fuel p0 p1 (-1) false).bind fun K=> if K.2.2≠0 then(some (0,[],K.2.2)) else((ix K.2.1.2 (0)).bind fun O=> (ix K.2.1.2 (0)).bind fun U=> some (O.1,U.2.1,0))
theorem Wm{E:LH}{U:Ap}{c2:Nat}{V:Ap}{W:Nat}{Y:Ap}{Z:Nat}{p0:BI}{p1:AY}(al:An (rL rI) E U c2 p0.1)(am:An (rL rI) E V W p0.2)(an:An BE E Y Z p1){fuel:Nat}{r:Int×(List Int)×Int}(aa:f30 fuel p0 p1=some r):AP (Dv Tryz.prog) 30 [.agg #[sV U p0.1 c2,sV V p0.2 W],sV Y p1 Z] E [] (fun w E' B'=>∃(ab:Ap) (ae:Nat),w= .tuple #[iV r.1,sV ab r.2.1 ae,iV r.2.2]∧B'= []∧An rI E' ab ae r.2.1):=by
 refine A9 func30 fun Q aL cs H ao ag=>?_;unfold f30 at aa;refine zg 2 rfl (CB ao fun aM aN K ap aq=>?_);refine zg 6 rfl (Cl ap Cx Ca rfl rfl ?_);obtain⟨aO,ar,au⟩:=bs aa;refine zg 1 rfl (BH (L3 (al.Ag K) (am.Ag K) (an.Ag K) ar) rfl rfl Kr aq ?_);rintro _ aP _ ah ⟨aQ,aR,aS,rfl,rfl,aT,ai⟩ av;refine zg 4 rfl (Cr av FH fun aU aw=>?_);refine zg 1 rfl (BF 3 aw CW fun ay=>?_);refine C9 3 ay rfl fun aV O aj ak=>zg 8 rfl (AS au (fun az aA=>?_) (fun az aB=>?_))
 ·refine zg 7 rfl ?_;obtain rfl:=oi aA;exact AN func30 rfl rfl (ag ((K.Ab ah).Ab O) rfl ⟨none,0,rfl,rfl,An.nil⟩ ak)
 ·refine zg 2 rfl (Ep 11 fun ht=>?_);refine Ce 0 ht underlying97 C7 rfl rfl rfl rfl (DR 1 ht 1 aj El rfl rfl rfl rfl ?_);obtain⟨aW,aC,aD⟩:=bs aB;refine Hk 2 (ai.Ag O) aC ht underlying95 B9 ?_;rintro aX aY _ ⟨_,_,rfl,rfl,⟨_,_,rfl,⟨aZ,a0,rfl,a1⟩,rfl⟩⟩ aE;refine Ce 3 ht underlying104 A3 rfl rfl rfl rfl (DR 4 ht 0 aE Bw rfl rfl rfl rfl ?_);refine Ce 5 ht underlying97 C7 rfl rfl rfl rfl (DR 6 ht 1 aj El rfl rfl rfl rfl ?_);obtain⟨a2,aF,aG⟩:=bs aD;refine Hk 7 (ai.Ag O) aF ht underlying95 B9 ?_;rintro a3 a4 _ ⟨_,_,rfl,rfl,⟨_,_,rfl,⟨aH,aI,rfl,aJ⟩,rfl⟩⟩ aK;refine Ce 8 ht underlying104 B7 rfl rfl rfl rfl (DR 9 ht 1 aK DC rfl rfl rfl rfl ?_);refine Ct 10 ht rfl rfl (Cp [11,12] ?_);refine zg 3 rfl ?_;obtain rfl:=oi aG;exact AN func30 rfl rfl (ag ((K.Ab ah).Ab O) rfl ⟨aH,aI,rfl,rfl,aJ⟩ ak)
def Ls(fuel:Nat)(p2:Int)(O:(List Be))(K:(List Int)×Int):Option (Bi ((List Int)×Int) ((List Int))):= if K.2<(O.length:Int) then((ix O K.2).bind fun U=> Option.bind (if U.2.1≤p2 then((room K.1 U.1).bind fun V=> some V) else(some K.1)) fun W=> (Av (K.2+1)).bind fun Y=> some (.more (W,Y))) else(some (.done K.1))
def f43(fuel:Nat)(p0:BI)(p1:AY)(p2:Int):Option ((List Int)×Int):= (f69 fuel p0 p1).bind fun K=> if K≠0 then(some ([],K)) else((f101 fuel p2 0 4).bind fun U=> if U=true then(some ([],1)) else((f92 fuel p0).bind fun V=> (V).bind fun W=> (IV fuel W p1).bind fun Y=> Option.bind (iter (Ls fuel p2 Y) fuel ([],0)) fun O=> if(O.length:Int)=0 then(some ([],11)) else(some (O,0))))
theorem LW{E:LH}{az:Ap}{c2:Nat}{aA:Ap}{aB:Nat}{aC:Ap}{aD:Nat}{p0:BI}{p1:AY}{p2:Int}(aE:An (rL rI) E az c2 p0.1)(aF:An (rL rI) E aA aB p0.2)(aG:An BE E aC aD p1){fuel:Nat}{r:(List Int)×Int}(aH:f43 fuel p0 p1 p2=some r):AP (Dv Tryz.prog) 43 [.agg #[sV az p0.1 c2,sV aA p0.2 aB],sV aC p1 aD,iV p2] E [] (fun w E' B'=>∃(aI:Ap) (aJ:Nat),w= .tuple #[sV aI r.1 aJ,iV r.2]∧B'= []∧An rI E' aI aJ r.1):=by
 refine A9 func43 fun Q b8 cs H aZ aa=>?_;unfold f43 at aH;refine zg 2 rfl (CB aZ fun b9 ca K aK a0=>?_);refine zg 6 rfl (Cl aK Cx Ca rfl rfl ?_);obtain⟨cb,a1,a2⟩:=bs aH;refine zg 1 rfl (BK (JP (aE.Ag K) (aF.Ag K) (aG.Ag K) a1) rfl rfl Jd a0 fun cc O aL=>?_);refine zg 7 rfl (AS a2 (fun a3 a4=>?_) (fun a3 a5=>?_))
 ·refine zg 6 rfl ?_;obtain rfl:=oi a4;exact AN func43 rfl rfl (aa (K.Ab O) rfl ⟨none,0,rfl,rfl,An.nil⟩ aL)
 ·obtain⟨cd,a6,a7⟩:=bs a5;refine zg 5 rfl (BK (Ih a6) rfl rfl H2 aL fun ce U aM=>?_);refine JL.done (BL a7 (fun a8 a9=>?_) (fun a8 ba=>?_))
  ·refine zg 5 rfl ?_;obtain rfl:=oi a9;exact AN func43 rfl rfl (aa ((K.Ab O).Ab U) rfl ⟨none,0,rfl,rfl,An.nil⟩ aM)
  ·refine zg 8 rfl (Cl (aK.Ag (O.Ab U)) Cx Ca rfl rfl ?_);obtain⟨cf,bb,bc⟩:=bs ba;refine BH (L4 (aE.Ag ((K.Ab O).Ab U)) (aF.Ag ((K.Ab O).Ab U)) bb) rfl rfl Kq aM ?_;rintro cg ci _ am ⟨_,rfl,rfl,bd⟩ be;obtain⟨ck,bf,bg⟩:=bs bc;have aN:=bd;refine zg 1 rfl ?_;rw [bf] at aN;obtain⟨cm,cn,_,rfl,bh,⟨_,_,rfl,⟨co,cp,rfl,bi⟩,⟨_,cq,rfl,⟨cr,ct,rfl,bj⟩,bl⟩⟩⟩:=aN;obtain⟨ab,bm,bn⟩:=bs bg;refine BH (OX bh bi bj bl (aG.Ag (((K.Ab O).Ab U).Ab am)) bm) rfl rfl (AX func102 rfl) be ?_;rintro _ an _ aO ⟨aP,aQ,rfl,rfl,bo⟩ bp;refine Bx underlying130 rfl rfl rfl ?_;obtain⟨aR,bq,br⟩:=bs bn;refine zg 2 rfl (Bs (fun L s=>∃(ao:LH) (ae:Ap) (ag:Nat) (ap:Seg),Jn an H ao [ap] [(9,sV ae aR ag)] L s (OL 3 rI ao ae ag ap aR)) ?_ ?_)
   ·rintro _ _ ⟨ao,ae,ag,ap,rfl,rfl,aS,aT,bu⟩;refine zg 4 rfl (Bx underlying28 rfl rfl rfl ?_);refine zg 2 rfl (AS br (fun bv bw=>?_) (fun bv bx=>?_))
    ·refine zg 5 rfl (JS.drop 0 aT rfl fun bz=>?_);obtain rfl:=oi bw;exact AN func43 rfl rfl (aa (((((K.Ab O).Ab U).Ab am).Ab aO).Ab aS) rfl ⟨none,0,rfl,rfl,An.nil⟩ bz)
    ·refine zg 7 rfl (Cb 0 bu aT rfl fun cu bA bB bC=>?_);obtain rfl:=oi bx;exact AN func43 rfl rfl (aa ((((((K.Ab O).Ab U).Ab am).Ab aO).Ab aS).Ab bA) rfl ⟨ae,ag,rfl,rfl,bB⟩ bC)
   ·intro bD;refine JL.block (CP bq (fun L s Y=>∃(ah:LH) (V:Ap) (W:Nat) (Z:Seg),Jn an H ah [Z] [(2,iV p2),(9,sV V Y.1 W),(23,sV aP ab aQ),(24,iV (ab.length:Int)),(25,iV Y.2)] L s (OL 3 rI ah V W Z Y.1)) ⟨an,none,0,[],rfl,rfl,Aq,bp,OL.nil⟩ ?_);rintro _ _ Y ⟨ah,V,W,Z,rfl,rfl,aq,aU,ar⟩ bE ⟨cv,au⟩ bF;have aV:=au;unfold Ls at aV;refine zg 5 rfl (AS aV (fun bG bH=>?_) (fun bG bI=>?_))
    ·obtain⟨bJ,bK,bL⟩:=bs bH;refine zg 5 rfl (Cf (bo.Ag aq) bK underlying130 AK ?_);rintro cw cy _ ⟨_,_,rfl,rfl,⟨_,_,rfl,rfl,⟨cz,cA,rfl,cB⟩⟩⟩ bM;refine Cl bM B6 AK rfl rfl (Cr aU Hu fun cC bN=>?_);refine BF 1 bN AK fun bO=>?_;refine C9 1 bO rfl fun av aw aW aX=>zg 3 rfl (Bu underlying133 CW rfl rfl rfl ?_);refine JL.fl 1 aW underlying97 A3 Bw ?_;obtain⟨ay,bP,bQ⟩:=bs bL;refine zg 3 rfl (Bs (fun L s=>∃(ai:LH) (aj:Ap) (ak:Nat) (al:Seg),Jn av H ai [al] [(2,iV p2),(9,sV aj ay ak),(23,sV aP ab aQ),(24,iV (ab.length:Int)),(25,iV Y.2)] L s (OL 3 rI ai aj ak al ay)) ?_ ?_)
     ·rintro _ _ ⟨ai,aj,ak,al,rfl,rfl,bR,bS,bT⟩;obtain⟨bU,bV,bW⟩:=bs bQ;refine zg 2 rfl (Bg bV rfl rfl rfl ?_);refine zg 2 rfl ?_;obtain rfl:=oi bW;exact AB (bF _ _ (ay,bU) ⟨ai,aj,ak,al,rfl,rfl,((aq.Ab aw).Ab bR),bS,bT⟩ au) rfl
     ·intro aY;refine AS bP (fun bY bZ=>?_) (fun bY b0=>?_)
      ·refine zg 2 rfl (JL.fl 0 aW underlying133 A3 Bw ?_);obtain⟨cD,b1,b2⟩:=bs bZ;refine JS.app (pp:=rI) (v:=iV bJ.1) (a:=V) (c:=W) 0 b1 rfl rfl rfl rfl (fun _=>rfl) rfl (fun _=>rfl) rfl rfl rfl underlying28 underlying28 underlying28 A3 (CX type3) Cn rfl (by decide) (by decide) (by decide) (by decide) (ar.Ag aw) rfl aX rfl fun cE b3 b4 b5 b6 b7=>zg 2 rfl ?_;obtain rfl:=oi b2;exact AB (aY _ _ ⟨av,b3,b4,b5,rfl,rfl,Aq,b7,b6⟩) rfl
      ·refine JL.skip ?_;obtain rfl:=oi b0;exact AB (aY _ _ ⟨av,V,W,Z,rfl,rfl,Aq,aX,(ar.Ag aw)⟩) rfl
    ·refine JL.exit rfl ?_;obtain rfl:=oi bI;obtain rfl:=bE _ au;exact AB (bD _ _ ⟨ah,V,W,Z,rfl,rfl,aq,aU,ar⟩) rfl
end Pal
namespace Pal
open Go Go.Conc Go.Proofs
open Go.Proofs.Tryz
variable {J:Judge Tryz.prog}{E:LH}
def LS(fuel:Nat)(p0:AY):Option ((AY)):= (Ds ([]:AY) p0).bind fun K=> some K
theorem Uo{ad:Addr}{c2:Nat}{p0:AY}(V:An BE E (some ad) c2 p0){fuel:Nat}{r:(AY)}(K:LS fuel p0=some r):AP J 123 [.slice (some ad) p0.length c2] E [] (fun w E' B'=>∃(O:Ap) (U:Nat) (g0:Seg),w= sV O r U∧B'=g0∧OL 27 BE E' O U g0 r):=by
 refine A9 func123 fun Q al cs H W Y=>?_;unfold LS at K;refine zg 8 rfl (Az (v:= .bool false) rfl (fun ρ h=>KD (a:=(some ad)) underlying25 (h _ _ rfl) (h _ _ rfl)) ?_);refine zg 5 rfl (MT (pp:=BE) rfl rfl rfl underlying25 CK W fun am g2 Z aa=>?_);obtain⟨an,ab,ae⟩:=bs K;refine zg 1 rfl (MW (pp:=BE) 1 ab rfl rfl rfl rfl rfl rfl rfl underlying25 underlying25 CK (CX type27) FG rfl (by decide) (by decide) Z V aa rfl fun ag ah ai aj ak=>?_);refine zg 2 rfl ?_;obtain rfl:=oi ae;exact AN func123 rfl rfl (Y Aq rfl ⟨ag,ah,ai,rfl,(by first | rfl | simp | (simp [Value.cells])),aj⟩ ak)
def QT(fuel:Nat)(p0:AY):Option ((AY)):= some ([])
theorem Ut{c2:Nat}{p0:AY}(Y:An BE E none c2 p0){fuel:Nat}{r:(AY)}(K:QT fuel p0=some r):AP J 123 [sV none p0 c2] E [] (fun w E' B'=>∃(O:Ap) (U:Nat) (g0:Seg),w= sV O r U∧B'=g0∧OL 27 BE E' O U g0 r):=by
 refine A9 func123 fun Q Z cs H V W=>?_;unfold QT at K;refine zg 8 rfl (Az (v:= .bool true) rfl (fun ρ h=>KD (a:=none) underlying25 (h _ _ rfl) (h _ _ rfl)) ?_);refine zg 6 rfl ?_;obtain rfl:=oi K;exact AN func123 rfl rfl (W Aq rfl ⟨none,0,[],rfl,rfl,OL.nil⟩ V)
def f123(fuel:Nat)(p0:AY):Option AY:=LS fuel p0
theorem VU{O:Ap}{c2:Nat}{p0:AY}(U:An BE E O c2 p0){fuel:Nat}{r:AY}(K:f123 fuel p0=some r):AP J 123 [.slice O p0.length c2] E [] (fun w E' B'=>∃(V:Ap) (W:Nat) (g0:Seg),w= .slice V r.length W∧B'=g0∧OL 27 BE E' V W g0 r):=by
 cases O with
 | some ad=>exact Uo U K
 | none=>
  have Y:p0= []:=by
   rcases U.2 with h | ⟨_,_,h,_⟩
   ·exact h.1
   ·cases h
  subst Y;have Z:r= []:=by
   have aa:LS fuel []=some []:=rfl;unfold f123 at K;rw [aa] at K;exact(Option.some.inj K).symm
  subst Z;exact Ut (fuel:=fuel) U rfl
end Pal
namespace Pal
open Go Go.Conc Go.Proofs
open Go.Proofs.Tryz
variable {J:Judge Tryz.prog}{E:LH}
def f125(fuel:Nat)(p0:Int×Int)(p1:Int×Int):Option Int:= (Av (p0.1 - p1.1)).bind fun K=> some K
theorem Vv{p0:Int×Int}{p1:Int×Int}{fuel:Nat}{r:Int}(K:f125 fuel p0 p1=some r):AP J 125 [.agg #[iV p0.1,iV p0.2],.agg #[iV p1.1,iV p1.2]] E [] (fun w E' B'=>w=iV r∧B'= []):=by
 refine A9 func125 fun Q ah cs H U V=>?_;unfold f125 at K;refine zg 2 rfl (CB U fun ai aj W Y Z=>?_);refine CB Z fun ak al O aa ab=>?_;refine zg 4 rfl (JL.fl 0 (Y.Ag O) underlying27 A3 Bw ?_);refine JL.fl 0 aa underlying27 A3 Bw ?_;obtain⟨am,ae,ag⟩:=bs K;refine BW ae rfl rfl rfl (zg 2 rfl ?_);obtain rfl:=oi ag;exact AN func125 rfl rfl (V (W.Ab O) rfl ⟨rfl,rfl⟩ ab)
def Pw(fuel:Nat)(p1:Int)(K:Int×(AY)):Option (Bi (Int×(AY)) ((AY))):= Option.bind (if p1<K.1 then((ix K.2 K.1).bind fun V=> (Av (K.1 - 1)).bind fun W=> (ix K.2 W).bind fun Y=> (f125 fuel V Y).bind fun Z=> some (decide (Z<0))) else(some false)) fun aa=> if aa=true then((Av (K.1 - 1)).bind fun O=> (Av (K.1 - 1)).bind fun ab=> (ix K.2 ab).bind fun U=> (ix K.2 K.1).bind fun ae=> (ix (K.2.set (Int.toNat K.1) U) O).bind fun ah=> (Av (K.1 - 1)).bind fun ag=> some (.more (ag,((K.2.set (Int.toNat K.1) U).set (Int.toNat O) ae)))) else(some (.done K.2))
def Pm(fuel:Nat)(p1:Int)(p2:Int)(K:Int×(AY)):Option (Bi (Int×(AY)) ((AY))):= if K.1<p2 then(Option.bind (iter (Pw fuel p1) fuel K) fun O=> (Av (K.1+1)).bind fun U=> some (.more (U,O))) else(some (.done K.2))
def f168(fuel:Nat)(p0:AY)(p1:Int)(p2:Int):Option ((AY)):= (Av (p1+1)).bind fun K=> Option.bind (iter (Pm fuel p1 p2) fuel (K,p0)) fun O=> some O
theorem QF{K:Nat}{U:Nat}{V:Nat}{ap:Ay}{p0:AY}{p1:Int}{p2:Int}(hW:WL 27 BE E K U V ap p0){fuel:Nat}{r:(AY)}(ay:f168 fuel p0 p1 p2=some r):AP J 168 [.slice (Bc K) V U,iV p1,iV p2,(fV 125)] E [(K,.cells ap 27 (0,0))] (fun w E' B'=>∃(az:Ay),w= .tuple #[]∧B'= [(K,.cells az 27 (0,0))]∧WL 27 BE E' K U V az r):=by
 refine A9 func168 fun Q bP cs H aO aP=>?_;unfold f168 at ay;obtain⟨bQ,aQ,aR⟩:=bs ay;refine zg 3 rfl (Bg aQ rfl rfl rfl ?_);obtain⟨aS,aT,aU⟩:=bs aR;refine zg 2 rfl (Bs (fun L s=>∃(aq:LH) (f17:Ay),Jn E H aq [bX K f17 27] [] L s (WL 27 BE aq K U V f17 aS)) ?_ ?_)
 ·rintro _ _ ⟨aq,f17,rfl,rfl,aV,aW,aX⟩;obtain rfl:=oi aU;exact JL.fin (v:= .tuple #[]) rfl rfl (BR.list func168 rfl (vs:= []) trivial) (aP aV rfl ⟨f17,rfl,(by first | rfl | simp | (simp [Value.cells])),aX⟩ aW)
 ·intro aY;refine JL.block (CP aT (fun L s ab=>∃(aa:LH) (f25:Ay),Jn E H aa [bX K f25 27] [(0,.slice (Bc K) V U),(1,iV p1),(2,iV p2),(3,(fV 125)),(8,iV ab.1)] L s (WL 27 BE aa K U V f25 ab.2)) ⟨E,ap,rfl,rfl,Aq,aO,hW⟩ ?_);rintro _ _ ab ⟨aa,f25,rfl,rfl,aA,aB,aC⟩ aZ ⟨bR,ar⟩ a0;have aD:=ar;unfold Pm at aD;refine zg 7 rfl (AS aD (fun a1 a2=>?_) (fun a1 a3=>?_))
  ·obtain⟨aE,a4,a5⟩:=bs a2;refine zg 8 rfl (Bs (fun L s=>∃(aj:LH) (f48:Ay),Jn aa H aj [bX K f48 27] [(0,.slice (Bc K) V U),(1,iV p1),(2,iV p2),(3,(fV 125)),(8,iV ab.1)] L s (WL 27 BE aj K U V f48 aE)) ?_ ?_)
   ·rintro _ _ ⟨aj,f48,rfl,rfl,a6,a7,a8⟩;obtain⟨a9,ba,bb⟩:=bs a5;refine zg 3 rfl (Bg ba rfl rfl rfl ?_);refine zg 2 rfl ?_;obtain rfl:=oi bb;exact AB (a0 _ _ (a9,aE) ⟨aj,f48,rfl,rfl,(aA.Ab a6),a7,a8⟩ ar) rfl
   ·intro bc;refine JL.block (CP a4 (fun L s W=>∃(ag:LH) (f58:Ay),Jn aa H ag [bX K f58 27] [(0,.slice (Bc K) V U),(1,iV p1),(2,iV p2),(3,(fV 125)),(8,iV ab.1),(9,iV W.1)] L s (WL 27 BE ag K U V f58 W.2)) ⟨aa,f25,rfl,rfl,Aq,aB,aC⟩ ?_);rintro _ _ W ⟨ag,f58,rfl,rfl,aF,ah,O⟩ bd ⟨bS,au⟩ be;have aG:=au;unfold Pw at aG;refine zg 2 rfl (CZ 17 [K] ⟨⟨0,_,rfl⟩,trivial⟩ ah fun ht=>?_);refine Bp ht rfl [0,1,2,3] rfl ?_;obtain⟨bf,aH,bg⟩:=bs aG;refine FL 0 #[true,true,true,true,true,true,true,true,true,true,true,true,true,true,true,true,true] (fun L s=>∃(ak:LH),Jm ag H ak [bX K f58 27] [(0,.slice (Bc K) V U),(1,iV p1),(2,iV p2),(3,(fV 125)),(8,iV ab.1),(9,iV W.1),(34,.bool bf)] L s) ?_ ?_
    ·rintro _ _ ⟨ak,rfl,rfl,ae,al⟩;refine AO.fin (by decide+kernel) (BL bg (fun bh bi=>?_) (fun bh bj=>?_))
     ·refine zg 3 rfl (Gq [15,17] [K] mixed rfl ?_);refine Bd 0 rfl rfl (Bd 1 rfl rfl ?_);refine Bd 2 rfl rfl (Bd 3 rfl rfl ?_);obtain⟨aI,bl,bm⟩:=bs bi;refine Gc 4 true rfl rfl (fun ρ h s' hs=>CY (h _ _ rfl) (h _ _ rfl) bl) (Bd 5 rfl rfl ?_);refine Bd 6 rfl rfl ?_;obtain⟨bT,bn,bo⟩:=bs bm;refine Gc 7 true rfl rfl (fun ρ h s' hs=>CY (h _ _ rfl) (h _ _ rfl) bn) ?_;obtain⟨Y,aJ,bp⟩:=bs bo;obtain⟨_,⟨_,_,rfl,rfl,rfl⟩,bq⟩:=WL.at (O.Ag ae) aJ;refine Cd 8 O.2 aJ underlying25 CK ?_;refine DK 9 [iV Y.1,iV Y.2] 0 al bq H0 CK ?_;refine Bd 10 rfl rfl (Bd 11 rfl rfl ?_);obtain⟨Z,am,br⟩:=bs bp;obtain⟨_,⟨_,_,rfl,rfl,rfl⟩,bu⟩:=WL.at (O.Ag ae) am;refine Cd 12 O.2 am underlying25 CK ?_;refine DK 13 [iV Z.1,iV Z.2] 0 al bu H0 CK ?_;refine Cd 14 O.2 am underlying25 CK ?_;have ai:=WL.put (x':=Y) (ws':= [iV Y.1,iV Y.2]) (O.Ag ae) O.2 am ⟨_,_,rfl,rfl,rfl⟩;refine DJ 15 0 al CK ai.2 fun bv=>?_;obtain⟨bU,av,bw⟩:=bs br;obtain⟨_,⟨_,_,rfl,rfl,rfl⟩,bV⟩:=WL.at ai.1 av;refine Cd 16 (ai.1).2 av underlying25 CK ?_;have aK:=WL.put (x':=Z) (ws':= [iV Z.1,iV Z.2]) ai.1 (ai.1).2 av ⟨_,_,rfl,rfl,rfl⟩;refine DJ 17 0 bv CK aK.2 fun bx=>?_;refine JB.fin (by decide+kernel) ?_;obtain⟨bz,bA,bB⟩:=bs bw;refine zg 3 rfl (BW bA rfl rfl rfl ?_);refine zg 2 rfl ?_;obtain rfl:=oi bB;exact AB (be _ _ (bz,((W.2.set (Int.toNat W.1) Y).set (Int.toNat aI) Z)) ⟨ak,(Ba (Ba f58 (Int.toNat (W.1)*2) [iV Y.1,iV Y.2]) (Int.toNat (aI)*2) [iV Z.1,iV Z.2]),rfl,rfl,(aF.Ab ae),bx,aK.1⟩ au) rfl
     ·refine JL.exit rfl ?_;obtain rfl:=oi bj;obtain rfl:=bd _ au;exact AB (bc _ _ ⟨ak,f58,rfl,rfl,(aF.Ab ae),al,(O.Ag ae)⟩) rfl
    ·intro aL;refine FY (q:=p1<W.1) (i:=21) rfl (fun aw=>?_) (fun aw=>?_)
     ·have bC:=ip aH aw;refine Bp ht rfl [4,5,6] rfl ?_;obtain⟨an,aM,bD⟩:=bs bC;obtain⟨_,⟨_,_,rfl,rfl,rfl⟩,bE⟩:=WL.at O aM;refine FB 7 ht (O).2 aM underlying25 CK ?_;refine Dw 8 ht [iV an.1,iV an.2] 0 ah bE H0 CK ?_;refine Bp ht rfl [9,10] rfl ?_;obtain⟨bW,bF,bG⟩:=bs bD;refine BC 11 ht rfl rfl (fun ρ h s' hs=>CY (h _ _ rfl) (h _ _ rfl) bF) ?_;obtain⟨ao,aN,bH⟩:=bs bG;obtain⟨_,⟨_,_,rfl,rfl,rfl⟩,bI⟩:=WL.at O aN;refine FB 12 ht (O).2 aN underlying25 CK ?_;refine Dw 13 ht [iV ao.1,iV ao.2] 0 ah bI H0 CK ?_;obtain⟨bY,bJ,bK⟩:=bs bH;refine Hb (i:=14) ⟨⟨0,_,rfl⟩,trivial⟩ (vs:= [.agg #[iV an.1,iV an.2],.agg #[iV ao.1,iV ao.2]]) (Vv bJ) (by decide+kernel) rfl rfl rfl rfl (AX func125 rfl) rfl ah ?_;rintro _ bL _ bM ⟨rfl,rfl⟩ bN;refine Bp ht rfl [15,16] rfl ?_;obtain rfl:=oi bK;refine DD ?_ (aL _ _ ⟨bL,rfl,rfl,bM,bN⟩);exact⟨rfl,rfl,rfl,rfl,rfl,rfl,rfl,trivial⟩
     ·have bO:=im aH aw;refine Bp ht rfl [4,5,6,7,8,9,10,11,12,13,14,15,16] rfl ?_;obtain rfl:=oi bO;refine DD ?_ (aL _ _ ⟨ag,rfl,rfl,Aq,ah⟩);exact⟨rfl,rfl,rfl,rfl,rfl,rfl,rfl,trivial⟩
  ·refine JL.exit rfl ?_;obtain rfl:=oi a3;obtain rfl:=aZ _ ar;exact AB (aY _ _ ⟨aa,f25,rfl,rfl,aA,aB,aC⟩) rfl
def P1(fuel:Nat)(p1:Int)(K:Int×Int×(AY)):Option (Bi (Int×Int×(AY)) (Int×(AY))):= if K.2.1≤p1 then((f168 fuel K.2.2 K.1 K.2.1).bind fun O=> (Av (K.2.1+20)).bind fun U=> some (.more (K.2.1,U,O))) else(some (.done (K.1,K.2.2)))
def Pz(fuel:Nat)(p1:Int)(K:Int)(O:Int)(U:Unit):Option (Bi Unit Unit):= if O≤p1 then((Av (0+K)).bind fun V=> none) else(some (.done ()))
def Ps(fuel:Nat)(p1:Int)(K:Int):Option (Bi Int Unit):= if K<p1 then((Av (2*K)).bind fun O=> Option.bind (iter (Pz fuel p1 K O) fuel ()) fun W=> (Av (0+K)).bind fun U=> Option.bind (if U<p1 then(none) else(some ())) fun Y=> (Av (K*2)).bind fun V=> some (.more V)) else(some (.done ()))
def f138(fuel:Nat)(p0:AY)(p1:Int):Option ((AY)):= Option.bind (iter (P1 fuel p1) fuel (0,20,p0)) fun K=> (f168 fuel K.2 K.1 p1).bind fun O=> Option.bind (iter (Ps fuel p1) fuel 20) fun U=> some O
theorem VI{K:Nat}{O:Nat}{U:Nat}{Z:Ay}{p0:AY}{p1:Int}(hW:WL 27 BE E K O U Z p0){fuel:Nat}{r:(AY)}(ag:f138 fuel p0 p1=some r):AP J 138 [.slice (Bc K) U O,iV p1,(fV 125)] E [(K,.cells Z 27 (0,0))] (fun w E' B'=>∃(ah:Ay),w= .tuple #[]∧B'= [(K,.cells ah 27 (0,0))]∧WL 27 BE E' K O U ah r):=by
 refine A9 func138 fun Q bF cs H aw ay=>?_;unfold f138 at ag;obtain⟨ai,az,aA⟩:=bs ag;refine zg 11 rfl (Bs (fun L s=>∃(aa:LH) (f15:Ay),Jn E H aa [bX K f15 27] [(0,.slice (Bc K) U O),(1,iV p1),(2,(fV 125)),(6,iV 20),(7,iV ai.1)] L s (WL 27 BE aa K O U f15 ai.2)) ?_ ?_)
 ·rintro _ _ ⟨aa,f15,rfl,rfl,aB,aC,aD⟩;obtain⟨bG,aE,aF⟩:=bs aA;refine zg 6 rfl (BP 0 (QF aD aE) rfl rfl Kl aC rfl ?_);rintro _ bH _ aG ⟨f23,rfl,rfl,aH⟩ aI;obtain⟨bI,aJ,aK⟩:=bs aF;refine JL.done (Cq [bX K f23 27] [] (fun bJ aj aL=>?_) (fun aM=>?_))
  ·obtain rfl:=oi aK;exact JL.fin (v:= .tuple #[]) rfl rfl (BR.list func138 rfl (vs:= []) trivial) (ay ((aB.Ab aG).Ab aj) rfl ⟨f23,rfl,(by first | rfl | simp | (simp [Value.cells])),(aH.Ag aj)⟩ aL)
  ·refine JL.block (Cs aJ (fun V=> [bX K f23 27]) (fun V=> [(0,.slice (Bc K) U O),(1,iV p1),(2,(fV 125)),(6,iV V)]) Aq aI ?_);rintro V bK ak al aN ⟨bL,ab⟩ aO;have am:=ab;unfold Ps at am;refine zg 7 rfl (AS am (fun aP aQ=>?_) (fun aP aR=>?_))
   ·obtain⟨aS,aT,aU⟩:=bs aQ;refine zg 5 rfl (Az rfl (fun ρ h=>Ie (h _ _ rfl) (h _ _ rfl) aT) ?_);obtain⟨bM,aV,aW⟩:=bs aU;refine zg 4 rfl (Cq [bX K f23 27] [(0,.slice (Bc K) U O),(1,iV p1),(2,(fV 125)),(6,iV V),(7,iV 0)] (fun bN aX aY=>?_) (fun aZ=>?_))
    ·obtain⟨bO,a0,a1⟩:=bs aW;refine zg 5 rfl (Bg a0 rfl rfl rfl ?_);obtain⟨bP,a2,a3⟩:=bs a1;refine zg 8 rfl (Cq [bX K f23 27] [(0,.slice (Bc K) U O),(1,iV p1),(2,(fV 125)),(6,iV V)] (fun bQ a4 a5=>?_) (fun a6=>?_))
     ·obtain⟨a7,a8,a9⟩:=bs a3;refine zg 2 rfl (Az rfl (fun ρ h=>Ie (h _ _ rfl) (h _ _ rfl) a8) ?_);refine zg 3 rfl ?_;obtain rfl:=oi a9;exact aO a7 ((ak.Ab aX).Ab a4) a5 rfl ab
     ·refine AS a2 (fun ba bb=>?_) (fun ba bc=>?_)
      ·refine zg 6 rfl ?_;cases bb
      ·refine JL.skip ?_;obtain rfl:=oi bc;exact a6 Aq aY rfl
    ·refine JL.block (Cs aV (fun an=> [bX K f23 27]) (fun an=> [(0,.slice (Bc K) U O),(1,iV p1),(2,(fV 125)),(6,iV V),(7,iV 0),(8,iV aS)]) Aq al ?_);rintro an bR bd be bf ⟨bS,ao⟩ bT;have ap:=ao;unfold Pz at ap;refine zg 7 rfl (AS ap (fun bg bh=>?_) (fun bg bi=>?_))
     ·obtain⟨bU,bj,bl⟩:=bs bh;refine zg 8 rfl (Bg bj rfl rfl rfl ?_);refine zg 2 rfl ?_;cases bl
     ·refine JL.exit rfl ?_;obtain rfl:=oi bi;obtain rfl:=bf _ ao;exact aZ bd be rfl
   ·refine JL.exit rfl ?_;obtain rfl:=oi aR;obtain rfl:=aN _ ab;exact aM ak al rfl
 ·intro bm;refine JL.block (CP az (fun L s W=>∃(Y:LH) (f104:Ay),Jn E H Y [bX K f104 27] [(0,.slice (Bc K) U O),(1,iV p1),(2,(fV 125)),(6,iV 20),(7,iV W.1),(8,iV W.2.1)] L s (WL 27 BE Y K O U f104 W.2.2)) ⟨E,Z,rfl,rfl,Aq,aw,hW⟩ ?_);rintro _ _ W ⟨Y,f104,rfl,rfl,aq,ar,au⟩ bn ⟨bV,ae⟩ bo;have av:=ae;unfold P1 at av;refine zg 7 rfl (AS av (fun bp bq=>?_) (fun bp br=>?_))
  ·obtain⟨bu,bv,bw⟩:=bs bq;refine zg 8 rfl (BP 0 (QF au bv) rfl rfl Kl ar rfl ?_);rintro _ bx _ bz ⟨f119,rfl,rfl,bA⟩ bB;obtain⟨bC,bD,bE⟩:=bs bw;refine zg 9 rfl (Bg bD rfl rfl rfl ?_);refine zg 3 rfl ?_;obtain rfl:=oi bE;exact AB (bo _ _ (W.2.1,bC,bu) ⟨bx,f119,rfl,rfl,(aq.Ab bz),bB,bA⟩ ae) rfl
  ·refine JL.exit rfl ?_;obtain rfl:=oi br;obtain rfl:=bn _ ae;exact AB (bm _ _ ⟨Y,f104,rfl,rfl,aq,ar,au⟩) rfl
def f124(fuel:Nat)(p0:AY):Option ((AY)):= (f138 fuel p0 (p0.length:Int)).bind fun K=> some K
theorem Va{K:Nat}{O:Nat}{U:Nat}{V:Ay}{p0:AY}(hW:WL 27 BE E K O U V p0){fuel:Nat}{r:(AY)}(W:f124 fuel p0=some r):AP J 124 [.slice (Bc K) U O,(fV 125)] E [(K,.cells V 27 (0,0))] (fun w E' B'=>∃(Y:Ay),w= .tuple #[]∧B'= [(K,.cells Y 27 (0,0))]∧WL 27 BE E' K O U Y r):=by
 refine A9 func124 fun Q aj cs H Z aa=>?_;unfold f124 at W;refine zg 3 rfl (Az (v:=iV (p0.length:Int)) rfl (fun ρ h=>Py (hW).2 rfl underlying25 (h _ _ rfl)) ?_);obtain⟨ak,ab,ae⟩:=bs W;refine zg 1 rfl (BP 0 (VI hW ab) rfl rfl (AX func138 rfl) Z rfl ?_);rintro _ al _ ag ⟨f7,rfl,rfl,ah⟩ ai;refine JL.done ?_;obtain rfl:=oi ae;exact JL.fin (v:= .tuple #[]) rfl rfl (BR.list func124 rfl (vs:= []) trivial) (aa ag rfl ⟨f7,rfl,(by first | rfl | simp | (simp [Value.cells])),ah⟩ ai)
def Pj(fuel:Nat)(p1:Int)(K:Int)(U:Unit):Option (Bi Unit Unit):= Option.bind (if p1<K then(none) else(some false)) fun O=> if O=true then((Av (K - 1)).bind fun V=> (Av (K - 1)).bind fun W=> none) else(some (.done ()))
def Pa(fuel:Nat)(p1:Int)(p2:Int)(K:Int):Option (Bi Int Unit):= if K<p2 then(Option.bind (iter (Pj fuel p1 K) fuel ()) fun U=> (Av (K+1)).bind fun O=> some (.more O)) else(some (.done ()))
def LQ(fuel:Nat)(p1:Int)(p2:Int):Option Unit:= (Av (p1+1)).bind fun K=> Option.bind (iter (Pa fuel p1 p2) fuel K) fun O=> some ()
theorem Pn{p1:Int}{p2:Int}{fuel:Nat}{r:Unit}(V:LQ fuel p1 p2=some r):AP J 168 [nS,iV p1,iV p2,(fV 125)] E [] (fun w E' B'=>w= .tuple #[]∧B'= []):=by
 refine A9 func168 fun Q aZ cs H aj ak=>?_;unfold LQ at V;obtain⟨a0,al,am⟩:=bs V;refine zg 3 rfl (Bg al rfl rfl rfl ?_);obtain⟨a1,an,ao⟩:=bs am;refine zg 2 rfl (Cq [] [] (fun a2 ap aq=>?_) (fun ar=>?_))
 ·obtain rfl:=oi ao;exact JL.fin (v:= .tuple #[]) rfl rfl (BR.list func168 rfl (vs:= []) trivial) (ak ap rfl ⟨rfl,rfl⟩ aq)
 ·refine JL.block (Cs an (fun K=> []) (fun K=> [(0,.slice none 0 0),(1,iV p1),(2,iV p2),(3,(fV 125)),(8,iV K)]) Aq aj ?_);rintro K a3 W Y au ⟨a4,O⟩ av;have Z:=O;unfold Pa at Z;refine zg 7 rfl (AS Z (fun aw ay=>?_) (fun aw az=>?_))
  ·obtain⟨a5,aA,aB⟩:=bs ay;refine zg 8 rfl (Cq [] [(0,.slice none 0 0),(1,iV p1),(2,iV p2),(3,(fV 125)),(8,iV K)] (fun a6 aC aD=>?_) (fun aE=>?_))
   ·obtain⟨aF,aG,aH⟩:=bs aB;refine zg 3 rfl (Bg aG rfl rfl rfl ?_);refine zg 2 rfl ?_;obtain rfl:=oi aH;exact av aF (W.Ab aC) aD rfl O
   ·refine JL.block (Cs aA (fun aa=> []) (fun aa=> [(0,.slice none 0 0),(1,iV p1),(2,iV p2),(3,(fV 125)),(8,iV K),(9,iV K)]) Aq Y ?_);rintro aa ab aI aJ aK ⟨a7,ae⟩ a8;have ag:=ae;unfold Pj at ag;refine zg 2 rfl (Ep 17 fun ht=>?_);refine Bp ht rfl [0,1,2,3] rfl ?_;obtain⟨aL,ah,aM⟩:=bs ag;refine FL 0 #[true,true,true,true,true,true,true,true,true,true,true,true,true,true,true,true,true] (fun L s=>∃(ai:LH),Jm ab H ai [] [(0,.slice none 0 0),(1,iV p1),(2,iV p2),(3,(fV 125)),(8,iV K),(9,iV K),(34,.bool aL)] L s) ?_ ?_
    ·rintro _ _ ⟨ai,rfl,rfl,aN,aO⟩;refine AO.fin (by decide+kernel) (BL aM (fun aP aQ=>?_) (fun aP aR=>?_))
     ·refine zg 3 rfl (Ep 16 fun ht=>?_);refine Bp ht rfl [0,1,2,3] rfl ?_;obtain⟨a9,aS,aT⟩:=bs aQ;refine BC 4 ht rfl rfl (fun ρ h s' hs=>CY (h _ _ rfl) (h _ _ rfl) aS) (Bp ht rfl [5,6] rfl ?_);obtain⟨ba,aU,aV⟩:=bs aT;refine BC 7 ht rfl rfl (fun ρ h s' hs=>CY (h _ _ rfl) (h _ _ rfl) aU) ?_;cases aV
     ·refine JL.exit rfl ?_;obtain rfl:=oi aR;obtain rfl:=aK _ ae;exact aE (aI.Ab aN) aO rfl
    ·intro aW;refine FY (q:=p1<K) (i:=21) rfl (fun U=>?_) (fun U=>?_)
     ·have aX:=ip ah U;refine Bp ht rfl [4,5,6] rfl ?_;cases aX
     ·have aY:=im ah U;refine Bp ht rfl [4,5,6,7,8,9,10,11,12,13,14,15,16] rfl ?_;obtain rfl:=oi aY;refine DD ?_ (aW _ _ ⟨ab,rfl,rfl,Aq,aJ⟩);exact⟨rfl,rfl,rfl,rfl,rfl,rfl,rfl,trivial⟩
  ·refine JL.exit rfl ?_;obtain rfl:=oi az;obtain rfl:=au _ O;exact ar W Y rfl
def OY(fuel:Nat)(p1:Int)(K:Int×Int):Option (Bi (Int×Int) Int):= if K.2≤p1 then((LQ fuel K.1 K.2).bind fun U=> (Av (K.2+20)).bind fun O=> some (.more (K.2,O))) else(some (.done K.1))
def OT(fuel:Nat)(p1:Int)(K:Int)(O:Int)(U:Unit):Option (Bi Unit Unit):= if O≤p1 then((Av (0+K)).bind fun V=> none) else(some (.done ()))
def Pc(fuel:Nat)(p1:Int)(K:Int):Option (Bi Int Unit):= if K<p1 then((Av (2*K)).bind fun O=> Option.bind (iter (OT fuel p1 K O) fuel ()) fun W=> (Av (0+K)).bind fun U=> Option.bind (if U<p1 then(none) else(some ())) fun Y=> (Av (K*2)).bind fun V=> some (.more V)) else(some (.done ()))
def Np(fuel:Nat)(p1:Int):Option Unit:= Option.bind (iter (OY fuel p1) fuel (0,20)) fun K=> (LQ fuel K p1).bind fun O=> Option.bind (iter (Pc fuel p1) fuel 20) fun U=> some ()
theorem Un{p1:Int}{fuel:Nat}{r:Unit}(W:Np fuel p1=some r):AP J 138 [nS,iV p1,(fV 125)] E [] (fun w E' B'=>w= .tuple #[]∧B'= []):=by
 refine A9 func138 fun Q bp cs H ak al=>?_;unfold Np at W;obtain⟨am,an,ao⟩:=bs W;refine zg 11 rfl (Cq [] [(0,.slice none 0 0),(1,iV p1),(2,(fV 125)),(6,iV 20),(7,iV am)] (fun bq ap aq=>?_) (fun ar=>?_))
 ·obtain⟨br,au,av⟩:=bs ao;refine zg 6 rfl (BK (Pn au) rfl rfl Kl aq fun bu aw ay=>?_);obtain⟨bv,az,aA⟩:=bs av;refine JL.done (Cq [] [] (fun bw aB aC=>?_) (fun aD=>?_))
  ·obtain rfl:=oi aA;exact JL.fin (v:= .tuple #[]) rfl rfl (BR.list func138 rfl (vs:= []) trivial) (al ((ap.Ab aw).Ab aB) rfl ⟨rfl,rfl⟩ aC)
  ·refine JL.block (Cs az (fun K=> []) (fun K=> [(0,.slice none 0 0),(1,iV p1),(2,(fV 125)),(6,iV K)]) Aq ay ?_);rintro K bx Y Z aE ⟨bz,U⟩ aF;have aa:=U;unfold Pc at aa;refine zg 7 rfl (AS aa (fun aG aH=>?_) (fun aG aI=>?_))
   ·obtain⟨aJ,aK,aL⟩:=bs aH;refine zg 5 rfl (Az rfl (fun ρ h=>Ie (h _ _ rfl) (h _ _ rfl) aK) ?_);obtain⟨bA,aM,aN⟩:=bs aL;refine zg 4 rfl (Cq [] [(0,.slice none 0 0),(1,iV p1),(2,(fV 125)),(6,iV K),(7,iV 0)] (fun bB aO aP=>?_) (fun aQ=>?_))
    ·obtain⟨bC,aR,aS⟩:=bs aN;refine zg 5 rfl (Bg aR rfl rfl rfl ?_);obtain⟨bD,aT,aU⟩:=bs aS;refine zg 8 rfl (Cq [] [(0,.slice none 0 0),(1,iV p1),(2,(fV 125)),(6,iV K)] (fun bE aV aW=>?_) (fun aX=>?_))
     ·obtain⟨aY,aZ,a0⟩:=bs aU;refine zg 2 rfl (Az rfl (fun ρ h=>Ie (h _ _ rfl) (h _ _ rfl) aZ) ?_);refine zg 3 rfl ?_;obtain rfl:=oi a0;exact aF aY ((Y.Ab aO).Ab aV) aW rfl U
     ·refine AS aT (fun a1 a2=>?_) (fun a1 a3=>?_)
      ·refine zg 6 rfl ?_;cases a2
      ·refine JL.skip ?_;obtain rfl:=oi a3;exact aX Aq aP rfl
    ·refine JL.block (Cs aM (fun ab=> []) (fun ab=> [(0,.slice none 0 0),(1,iV p1),(2,(fV 125)),(6,iV K),(7,iV 0),(8,iV aJ)]) Aq Z ?_);rintro ab bF a4 a5 a6 ⟨bG,ae⟩ bH;have ag:=ae;unfold OT at ag;refine zg 7 rfl (AS ag (fun a7 a8=>?_) (fun a7 a9=>?_))
     ·obtain⟨bI,ba,bb⟩:=bs a8;refine zg 8 rfl (Bg ba rfl rfl rfl ?_);refine zg 2 rfl ?_;cases bb
     ·refine JL.exit rfl ?_;obtain rfl:=oi a9;obtain rfl:=a6 _ ae;exact aQ a4 a5 rfl
   ·refine JL.exit rfl ?_;obtain rfl:=oi aI;obtain rfl:=aE _ U;exact aD Y Z rfl
 ·refine JL.block (Cs an (fun O=> []) (fun O=> [(0,.slice none 0 0),(1,iV p1),(2,(fV 125)),(6,iV 20),(7,iV O.1),(8,iV O.2)]) Aq ak ?_);rintro O bJ ah ai bc ⟨bK,V⟩ bd;have aj:=V;unfold OY at aj;refine zg 7 rfl (AS aj (fun be bf=>?_) (fun be bg=>?_))
  ·obtain⟨bL,bh,bi⟩:=bs bf;refine zg 8 rfl (BK (Pn bh) rfl rfl Kl ai fun bM bj bl=>?_);obtain⟨bm,bn,bo⟩:=bs bi;refine zg 9 rfl (Bg bn rfl rfl rfl ?_);refine zg 3 rfl ?_;obtain rfl:=oi bo;exact bd (O.2,bm) (ah.Ab bj) bl rfl V
  ·refine JL.exit rfl ?_;obtain rfl:=oi bg;obtain rfl:=bc _ V;exact ar ah ai rfl
def QL(fuel:Nat):Option Unit:= (Np fuel ((0:Nat):Int)).bind fun K=> some ()
theorem Uc{fuel:Nat}{r:Unit}(K:QL fuel=some r):AP J 124 [nS,(fV 125)] E [] (fun w E' B'=>w= .tuple #[]∧B'= []):=by
 refine A9 func124 fun Q aa cs H O U=>?_;unfold QL at K;refine zg 3 rfl (Bx underlying25 rfl rfl rfl ?_);obtain⟨ab,V,W⟩:=bs K;refine zg 1 rfl (BK (Un V) rfl rfl (AX func138 rfl) O fun ae Y Z=>?_);refine JL.done ?_;obtain rfl:=oi W;exact JL.fin (v:= .tuple #[]) rfl rfl (BR.list func124 rfl (vs:= []) trivial) (U Y rfl ⟨rfl,rfl⟩ Z)
theorem T9{J:Judge Tryz.prog}{E:LH}{a:Ap}{c:Nat}{g:Seg}{p0:AY}(V:OL 27 BE E a c g p0){fuel:Nat}{r:AY}(K:f124 fuel p0=some r):
  AP J 124 [.slice a p0.length c,.func (.func 125) #[] #[]] E g (fun w E' B'=>w= .tuple #[]∧OL 27 BE E' a c B' r∧r.length=p0.length):=by
 rcases V.cases with⟨rfl,rfl,rfl,rfl⟩ | ⟨bk,f,rfl,rfl,hW⟩
 ·have W:r= []:=by
   cases fuel with
   | zero=>exact absurd K (by simp [f124,f138,iter])
   | succ fuel=>
    cases fuel with
    | zero=>exact(Option.some.inj (K.symm.trans (by rfl:f124 1 []=some []))).trans rfl
    | succ fuel=>exact(Option.some.inj (K.symm.trans (by rfl:f124 (fuel+2) []=some []))).trans rfl
  subst W;refine(Uc (fuel:=10) (r:=()) rfl).Ag ?_;rintro w E' B' hle ⟨O,rfl⟩;exact⟨O,OL.nil,rfl⟩
 ·refine(Va hW K).Ag ?_;rintro w E' B' hle ⟨Y,O,rfl,U⟩;exact⟨O,U.1,U.2⟩
end Pal
namespace Pal
open Go Go.Conc Go.Proofs
open Go.Proofs.Tryz
def f94(fuel:Nat)(p0:AY)(p1:AY):Option ((AY)):= (Ds p0 p1).bind fun K=> (f123 fuel K).bind fun O=> (f124 fuel O).bind fun U=> some U
theorem We{E:LH}{K:Ap}{c2:Nat}{O:Ap}{U:Nat}{p0:AY}{p1:AY}(Y:An BE E K c2 p0)(ak:An BE E O U p1){fuel:Nat}{r:(AY)}(ab:f94 fuel p0 p1=some r):AP (Dv Tryz.prog) 94 [sV K p0 c2,sV O p1 U] E [] (fun w E' B'=>∃(ae:Ap) (ag:Nat),w= sV ae r ag∧B'= []∧An BE E' ae ag r):=by
 refine A9 func94 fun Q aI cs H al am=>?_;unfold f94 at ab;refine zg 8 rfl (Bx underlying25 rfl rfl rfl ?_);refine zg 1 rfl (Bx underlying25 rfl rfl rfl ?_);refine Az (v:= .slice K p0.length p0.length) rfl (fun ρ h=>R0 (An.spot Y) (And.left Y) underlying25 CK (h _ _ rfl) (h _ _ rfl) (h _ _ rfl)) ?_;obtain⟨ah,an,ao⟩:=bs ab;refine zg 1 rfl (RZ (pp:=BE) an rfl rfl rfl rfl rfl rfl rfl underlying25 underlying25 CK (CX type27) FG rfl (by decide) (by decide) Y ak al fun aJ ai aj ap aq ar=>?_);obtain⟨aK,au,av⟩:=bs ao;refine zg 5 rfl (BH (VU aq au) rfl rfl (AX func123 rfl) ar ?_);rintro _ aL _ aw ⟨V,W,aM,rfl,rfl,ay⟩ az;obtain⟨Z,aA,aB⟩:=bs av;refine zg 5 rfl (BP 2 (T9 ay aA) rfl rfl (AX func124 rfl) az rfl ?_);rintro _ aN aO aC ⟨rfl,aD,aa⟩ aE;refine Hf (L':= [(17,.tuple #[]),(0,.slice K p0.length c2),(1,.slice O p1.length U),(4,.slice none 0 0),(6,.slice K p0.length c2),(7,.slice K p0.length c2),(8,iV (p0.length:Int)),(9,.slice K p0.length c2),(10,iV (p0.length:Int)),(11,.slice K p0.length p0.length),(12,.slice O p1.length U),(13,.slice ai ah.length aj),(5,.slice V Z.length W),(14,.slice ai ah.length aj),(15,.slice V Z.length W),(16,.slice V Z.length W)]) ⟨rfl,rfl,rfl,rfl,rfl,rfl,rfl,rfl,rfl,rfl,rfl,rfl,by rw [aa];rfl,rfl,by rw [aa];rfl,by rw [aa];rfl,trivial⟩ ?_;refine zg 6 rfl (Cb 2 aD aE rfl fun aP aF aG aH=>?_);obtain rfl:=oi aB;exact AN func94 rfl rfl (am (((ap.Ab aw).Ab aC).Ab aF) rfl ⟨V,W,rfl,rfl,aG⟩ aH)
def f37(fuel:Nat)(p0:BI)(p1:AY)(p2:AY):Option (Bool×Int):= (f69 fuel p0 p1).bind fun O=> if O≠0 then(some (false,O)) else((f69 fuel p0 p2).bind fun U=> if U≠0 then(some (false,U)) else((f92 fuel p0).bind fun Z=> (Z).bind fun K=> (f93 fuel K p1).bind fun V=> (f93 fuel K p2).bind fun W=> Option.bind (if(V.2.length:Int)=0 then(some true) else(some (decide ((W.2.length:Int)=0)))) fun aa=> if aa=true then(some (false,0)) else((f94 fuel p1 p2).bind fun ab=> (f93 fuel K ab).bind fun Y=> Option.bind (if 0<(Y.2.length:Int) then((Av (V.1+W.1)).bind fun ae=> some (decide (Y.1≤ae))) else(some false)) fun ag=> some (ag,0))))
theorem Wd{E:LH}{aA:Ap}{c2:Nat}{aB:Ap}{aC:Nat}{ah:Ap}{ai:Nat}{aj:Ap}{ak:Nat}{p0:BI}{p1:AY}{p2:AY}(al:An (rL rI) E aA c2 p0.1)(am:An (rL rI) E aB aC p0.2)(an:An BE E ah ai p1)(ao:An BE E aj ak p2){fuel:Nat}{r:Bool×Int}(aD:f37 fuel p0 p1 p2=some r):AP (Dv Tryz.prog) 37 [.agg #[sV aA p0.1 c2,sV aB p0.2 aC],sV ah p1 ai,sV aj p2 ak] E [] (fun w E' B'=>w= .tuple #[.bool r.1,iV r.2]∧B'= []):=by
 refine A9 func37 fun Q bY cs H aR ag=>?_;unfold f37 at aD;refine zg 2 rfl (CB aR fun bZ b0 K ap aS=>?_);refine zg 6 rfl (Cl ap Cx Ca rfl rfl ?_);obtain⟨b1,aT,aU⟩:=bs aD;refine zg 1 rfl (BK (JP (al.Ag K) (am.Ag K) (an.Ag K) aT) rfl rfl Jd aS fun b2 O aE=>?_);refine zg 7 rfl (AS aU (fun aV aW=>?_) (fun aV aX=>?_))
 ·refine zg 6 rfl ?_;obtain rfl:=oi aW;exact AN func37 rfl rfl (ag (K.Ab O) rfl ⟨rfl,rfl⟩ aE)
 ·refine zg 4 rfl (Cl (ap.Ag O) Cx Ca rfl rfl ?_);obtain⟨b3,aY,aZ⟩:=bs aX;refine zg 1 rfl (BK (JP (al.Ag (K.Ab O)) (am.Ag (K.Ab O)) (ao.Ag (K.Ab O)) aY) rfl rfl Jd aE fun b4 V a0=>?_);refine Cg (S':= [[],[],[],[]]) rfl a0 fun aF=>zg 7 rfl (AS aZ (fun a1 a2=>?_) (fun a1 a3=>?_))
  ·refine zg 6 rfl ?_;obtain rfl:=oi a2;exact AN func37 rfl rfl (ag ((K.Ab O).Ab V) rfl ⟨rfl,rfl⟩ aF)
  ·refine zg 3 rfl (Cl (ap.Ag (O.Ab V)) Cx Ca rfl rfl ?_);obtain⟨b5,a4,a5⟩:=bs a3;refine BH (L4 (al.Ag ((K.Ab O).Ab V)) (am.Ag ((K.Ab O).Ab V)) a4) rfl rfl Kq aF ?_;rintro b6 b7 _ ae ⟨_,rfl,rfl,a6⟩ a7;obtain⟨b8,a8,a9⟩:=bs a5;have aG:=a6;refine zg 6 rfl ?_;rw [a8] at aG;obtain⟨ba,bb,_,rfl,aq,⟨_,_,rfl,⟨b9,ca,rfl,ar⟩,⟨_,cb,rfl,⟨cc,cd,rfl,au⟩,av⟩⟩⟩:=aG;obtain⟨ce,bc,bd⟩:=bs a9;refine BH (LX aq ar au av (an.Ag (((K.Ab O).Ab V).Ab ae)) bc) rfl rfl Ks a7 ?_;rintro _ cf _ U ⟨cg,ci,rfl,rfl,ck⟩ be;obtain⟨cm,bf,bg⟩:=bs bd;refine zg 2 rfl (BH (LX (aq.Ag U) (ar.Ag U) (au.Ag U) (Rp.Ag _ U av) (ao.Ag ((((K.Ab O).Ab V).Ab ae).Ab U)) bf) rfl rfl Ks be ?_);rintro _ cn _ Z ⟨co,cp,rfl,rfl,cq⟩ bh;refine Cg (S':= [[],[],[],[],[],[],[]]) rfl bh fun bi=>Cr bi FH fun bj bl=>?_;refine Cr bl FH fun aH bm=>?_;refine BF 7 bm CW fun bn=>?_;refine C9 7 bn rfl fun cr aa aI bo=>Cg (S':= [[],[],[],[],[],[],[],[],[(aH,.cells #[iV 0,nS] 97 (0,0))]]) rfl bo fun bp=>BF 8 bp CW fun bq=>?_;refine C9 8 bq rfl fun aw W aJ aK=>zg 4 rfl (JL.fl 1 (aI.Ag W) underlying97 C7 El ?_);refine Bx underlying95 rfl rfl rfl ?_;obtain⟨br,bu,bv⟩:=bs bg;refine zg 2 rfl (Fx [] (fun L s=>∃(aL:LH),Jm aw H aL [] [(1,sV ah p1 ai),(2,sV aj p2 ak),(10,pV ba bb),(11,pV bj 0),(12,pV aH 0),(43,.bool br)] L s) ?_ ?_)
   ·rintro _ _ ⟨aL,rfl,rfl,Y,aM⟩;refine JL.done (BL bv (fun bw bx=>?_) (fun bw bz=>?_))
    ·refine zg 5 rfl ?_;obtain rfl:=oi bx;exact AN func37 rfl rfl (ag ((((((((K.Ab O).Ab V).Ab ae).Ab U).Ab Z).Ab aa).Ab W).Ab Y) rfl ⟨rfl,rfl⟩ aM)
    ·obtain⟨ct,bA,bB⟩:=bs bz;refine zg 6 rfl (BH (We (an.Ag ((((((((K.Ab O).Ab V).Ab ae).Ab U).Ab Z).Ab aa).Ab W).Ab Y)) (ao.Ag ((((((((K.Ab O).Ab V).Ab ae).Ab U).Ab Z).Ab aa).Ab W).Ab Y)) bA) rfl rfl (AX func94 rfl) aM ?_);rintro _ cu _ ab ⟨cv,cw,rfl,rfl,bC⟩ bD;obtain⟨cy,bE,bF⟩:=bs bB;refine BH (LX (aq.Ag (((((U.Ab Z).Ab aa).Ab W).Ab Y).Ab ab)) (ar.Ag (((((U.Ab Z).Ab aa).Ab W).Ab Y).Ab ab)) (au.Ag (((((U.Ab Z).Ab aa).Ab W).Ab Y).Ab ab)) (Rp.Ag _ (((((U.Ab Z).Ab aa).Ab W).Ab Y).Ab ab) av) bC bE) rfl rfl Ks bD ?_;rintro _ cz _ ay ⟨cA,cB,rfl,rfl,cC⟩ bG;refine Cg (S':= [[],[]]) rfl bG fun bH=>Cr bH FH fun cD bI=>?_;refine BF 2 bI CW fun bJ=>?_;refine C9 2 bJ rfl fun cE az aN aO=>zg 3 rfl (JL.fl 1 aN underlying97 C7 El ?_);refine Bx underlying95 rfl rfl rfl ?_;obtain⟨bK,bL,bM⟩:=bs bF;refine zg 2 rfl (C3 14 2 [] [(62,.bool bK)] (fun cF bN bO=>?_) (fun aP=>?_))
     ·refine zg 3 rfl ?_;obtain rfl:=oi bM;exact AN func37 rfl rfl (ag ((((((((((((K.Ab O).Ab V).Ab ae).Ab U).Ab Z).Ab aa).Ab W).Ab Y).Ab ab).Ab ay).Ab az).Ab bN) rfl ⟨rfl,rfl⟩ bO)
     ·refine Er 53 bL (fun bP bQ=>?_) (fun bP bR=>?_)
      ·refine JL.fl 0 aN underlying97 A3 Bw ?_;refine JL.fl 0 (aI.Ag ((((W.Ab Y).Ab ab).Ab ay).Ab az)) underlying97 A3 Bw ?_;refine JL.fl 0 (aJ.Ag (((Y.Ab ab).Ab ay).Ab az)) underlying97 A3 Bw ?_;obtain⟨cG,bS,bT⟩:=bs bQ;refine Bg bS rfl rfl rfl (zg 2 rfl ?_);obtain rfl:=oi bT;exact aP Aq aO rfl
      ·refine zg 9 rfl ?_;obtain rfl:=oi bR;exact aP Aq aO rfl
   ·intro aQ;refine Er 38 bu (fun bU bV=>?_) (fun bU bW=>?_)
    ·refine zg 5 rfl ?_;obtain rfl:=oi bV;exact AB (aQ _ _ ⟨aw,rfl,rfl,Aq,aK⟩) rfl
    ·refine JL.fl 1 aJ underlying97 C7 El ?_;refine Bx underlying95 rfl rfl rfl (zg 2 rfl ?_);obtain rfl:=oi bW;exact AB (aQ _ _ ⟨aw,rfl,rfl,Aq,aK⟩) rfl
end Pal
namespace Pal
open Go Go.Conc Go.Proofs
open Go.Proofs.Tryz
def LY:List Nat:= [0,1,1,2,1,2,2,3,1,2,2,3,2,3,3,4,1,2,2,3,2,3,3,4,2,3,3,4,3,4,4,5,1,2,2,3,2,3,3,4,2,3,3,4,3,4,4,5,2,3,3,4,3,4,4,5,3,4,4,5,4,5,5,6,1,2,2,3,2,3,3,4,2,3,3,4,3,4,4,5,2,3,3,4,3,4,4,5,3,4,4,5,4,5,5,6,2,3,3,4,3,4,4,5,3,4,4,5,4,5,5,6,3,4,4,5,4,5,5,6,4,5,5,6,5,6,6,7,1,2,2,3,2,3,3,4,2,3,3,4,3,4,4,5,2,3,3,4,3,4,4,5,3,4,4,5,4,5,5,6,2,3,3,4,3,4,4,5,3,4,4,5,4,5,5,6,3,4,4,5,4,5,5,6,4,5,5,6,5,6,6,7,2,3,3,4,3,4,4,5,3,4,4,5,4,5,5,6,3,4,4,5,4,5,5,6,4,5,5,6,5,6,6,7,3,4,4,5,4,5,5,6,4,5,5,6,5,6,6,7,4,5,5,6,5,6,6,7,5,6,6,7,6,7,7,8]
def f86(fuel:Nat)(p0:Nat):Option Int:= (J3 LY ((((p0>>>8):Nat):Int))).bind fun K=> (I0 p0 (255)).bind fun O=> (J3 LY ((((O):Nat):Int))).bind fun U=> (Av ((((K+U) % 256):Nat):Int)).bind fun V=> some V
theorem Wl{E:LH}{p0:Nat}{fuel:Nat}{r:Int}(K:f86 fuel p0=some r):AP (Dv Tryz.prog) 86 [uV p0] E [] (fun w E' B'=>w=iV r∧B'= []):=by
 refine A9 func86 fun Q al cs H V W=>?_;unfold f86 at K;refine zg 5 rfl (Ep 6 fun ht=>?_);refine Ct 0 ht rfl rfl (BC (v:= .int .u16 ((p0>>>8:Nat):Int)) 1 ht rfl rfl (fun ρ h s' hs=>To 8 (h _ _ rfl) (h _ _ rfl) (by decide)) ?_);obtain⟨O,Y,Z⟩:=bs K;refine BC (v:= .int .u8 ((O:Nat):Int)) 2 ht rfl rfl (fun ρ h s' hs=>MF (l:=LY) (by decide+kernel) underlying9 (h _ _ rfl) (h _ _ rfl) Y) (Ct 3 ht rfl rfl ?_);obtain⟨aa,ab,ae⟩:=bs Z;refine BC (v:= uV aa) 4 ht rfl rfl (fun ρ h s' hs=>MK (h _ _ rfl) (h _ _ rfl) ab) ?_;obtain⟨U,ag,ah⟩:=bs ae;refine BC (v:= .int .u8 ((U:Nat):Int)) 5 ht rfl rfl (fun ρ h s' hs=>MF (l:=LY) (by decide+kernel) underlying9 (h _ _ rfl) (h _ _ rfl) ag) (Cp [6,7,8] ?_);refine Az (v:= .int .u8 (((O+U) % 256:Nat):Int)) rfl (fun ρ h=>S6 (h _ _ rfl) (h _ _ rfl)) ?_;obtain⟨ai,aj,ak⟩:=bs ah;refine Az (v:=iV ai) rfl (fun ρ h=>PN underlying5 underlying3 (h _ _ rfl) aj) (zg 2 rfl ?_);obtain rfl:=oi ak;exact AN func86 rfl rfl (W Aq rfl ⟨rfl,rfl⟩ V)
end Pal
namespace Pal
open Go Go.Conc Go.Proofs
open Go.Proofs.Tryz
def f85(fuel:Nat)(p0:Nat):Option Int:= (f86 fuel p0).bind fun K=> some K
theorem QX{E:LH}{p0:Nat}{fuel:Nat}{r:Int}(K:f85 fuel p0=some r):AP (Dv Tryz.prog) 85 [uV p0] E [] (fun w E' B'=>w=iV r∧B'= []):=by
 refine A9 func85 fun Q aa cs H O U=>?_;unfold f85 at K;obtain⟨ab,V,W⟩:=bs K;refine zg 7 rfl (BK (Wl V) rfl rfl (AX func86 rfl) O fun ae Y Z=>?_);refine zg 2 rfl ?_;obtain rfl:=oi W;exact AN func85 rfl rfl (U Y rfl ⟨rfl,rfl⟩ Z)
end Pal
namespace Pal
open Go Go.Conc Go.Proofs
open Go.Proofs.Tryz
def Qy(fuel:Nat)(V:BS)(U:(List Int))(K:(List Nat)×Int):Option (Bi ((List Nat)×Int) ((List Nat))):= if K.2<(U.length:Int) then((ix U K.2).bind fun O=> (ix K.1 O).bind fun W=> (f90 fuel W V.1).bind fun Y=> (ix K.1 O).bind fun aa=> (Av (K.2+1)).bind fun Z=> some (.more ((K.1.set (Int.toNat O) Y),Z))) else(some (.done K.1))
def Qp(fuel:Nat)(O:(Option BJ)×(Int×(List BS))×Int)(V:BJ)(W:Int×Int×Int)(K:(List Nat)×Int):Option (Bi ((List Nat)×Int) ((List Nat))):= if K.2<(O.2.1.2.length:Int) then((ix O.2.1.2 K.2).bind fun U=> (f88 fuel V U W.2.2).bind fun Y=> (f89 fuel Y).bind fun Z=> Option.bind (iter (Qy fuel U Z) fuel (K.1,0)) fun aa=> (Av (K.2+1)).bind fun ab=> some (.more (aa,ab))) else(some (.done K.1))
def Qq(fuel:Nat)(O:(List Nat))(K:Int×Int):Option (Bi (Int×Int) Int):= if K.2<8 then((ix O K.2).bind fun U=> (f85 fuel U).bind fun V=> (Av (K.2+1)).bind fun W=> some (.more (max K.1 V,W))) else(some (.done K.1))
def Qf(fuel:Nat)(V:(Option BJ)×(Int×(List BS))×Int)(W:BJ)(K:Int×Int×Int):Option (Bi (Int×Int×Int) (Int×Int)):= if K.2.2<7 then(Option.bind (iter (Qp fuel V W K) fuel ((List.replicate 8 (0:Nat)),0)) fun Y=> Option.bind (iter (Qq fuel Y) fuel (0,0)) fun O=> Option.bind (if O<K.2.1 then(some (K.2.2,O)) else(some (K.1,K.2.1))) fun U=> (Av (K.2.2+1)).bind fun Z=> some (.more (U.1,U.2,Z))) else(some (.done (K.1,K.2.1)))
def f35(fuel:Nat)(p0:BI)(p1:AY):Option (Int×Int×Int):= (f78 fuel p0 p1 (-1) false).bind fun K=> if K.2.2≠0 then(some (0,0,K.2.2)) else((f87 fuel K.2.1.2).bind fun U=> (f85 fuel U).bind fun V=> (K.1).bind fun W=> Option.bind (iter (Qf fuel K W) fuel ((-1),V,0)) fun O=> if O.1<0 then(some (0,0,11)) else(some (O.1,O.2,0)))
theorem Wq{E:LH}{aT:Ap}{c2:Nat}{aU:Ap}{aV:Nat}{aW:Ap}{aX:Nat}{p0:BI}{p1:AY}(bu:An (rL rI) E aT c2 p0.1)(bv:An (rL rI) E aU aV p0.2)(bw:An BE E aW aX p1){fuel:Nat}{r:Int×Int×Int}(aY:f35 fuel p0 p1=some r):AP (Dv Tryz.prog) 35 [.agg #[sV aT p0.1 c2,sV aU p0.2 aV],sV aW p1 aX] E [] (fun w E' B'=>w= .tuple #[iV r.1,iV r.2.1,iV r.2.2]∧B'= []):=by
 refine A9 func35 fun Q dK cs H bx aF=>?_;unfold f35 at aY;refine zg 2 rfl (CB bx fun dL dM ae bz bA=>?_);refine zg 6 rfl (Cl bz Cx Ca rfl rfl ?_);obtain⟨ag,bB,bC⟩:=bs aY;refine zg 1 rfl (BH (L3 (bu.Ag ae) (bv.Ag ae) (bw.Ag ae) bB) rfl rfl Kr bA ?_);rintro _ dN _ aG ⟨dO,aH,aI,rfl,rfl,bD,aZ⟩ bE;refine zg 4 rfl (Cr bE FH fun U bF=>?_);refine zg 1 rfl (BF 3 bF CW fun bG=>?_);refine C9 3 bG rfl fun dP ah a0 a1=>zg 8 rfl (AS bC (fun bH bI=>?_) (fun bH bJ=>?_))
 ·refine zg 7 rfl ?_;obtain rfl:=oi bI;exact AN func35 rfl rfl (aF ((ae.Ab aG).Ab ah) rfl ⟨rfl,rfl⟩ a1)
 ·refine zg 8 rfl (JL.fl 1 a0 underlying97 C7 El ?_);obtain⟨bK,bL,bM⟩:=bs bJ;refine BK (VY (aZ.Ag ah) bL) rfl rfl (AX func87 rfl) a1 fun dQ am bN=>?_;obtain⟨dR,bO,bP⟩:=bs bM;refine Jq (vs:= [uV bK]) (QX bO) rfl rfl rfl rfl (AX func85 rfl) rfl bN ?_;rintro _ dS _ an ⟨rfl,rfl⟩ bQ;obtain⟨dT,bR,bS⟩:=bs bP;have a2:=(bD.Ag ((ah.Ab am).Ab an));refine zg 11 rfl ?_;rw [bR] at a2;obtain⟨V,W,_,rfl,bT,⟨_,_,rfl,⟨dU,dV,rfl,bU⟩,⟨_,dW,rfl,⟨dX,dY,rfl,bV⟩,bW⟩⟩⟩:=a2;obtain⟨a3,bY,bZ⟩:=bs bS;refine Cq [] [(4,iV a3.1),(10,iV a3.2)] (fun dZ a4 a5=>?_) (fun b0=>?_)
  ·refine zg 6 rfl (AS bZ (fun b1 b2=>?_) (fun b1 b3=>?_))
   ·refine zg 6 rfl ?_;obtain rfl:=oi b2;exact AN func35 rfl rfl (aF (((((ae.Ab aG).Ab ah).Ab am).Ab an).Ab a4) rfl ⟨rfl,rfl⟩ a5)
   ·refine zg 9 rfl ?_;obtain rfl:=oi b3;exact AN func35 rfl rfl (aF (((((ae.Ab aG).Ab ah).Ab am).Ab an).Ab a4) rfl ⟨rfl,rfl⟩ a5)
  ·refine JL.block (Cs bY (fun K=> []) (fun K=> [(4,iV K.1),(7,pV V W),(8,pV U 0),(9,(fV 85)),(10,iV K.2.1),(35,iV K.2.2)]) Aq bQ ?_);rintro K av Y a6 b4 ⟨ea,aJ⟩ b5;have a7:=aJ;unfold Qf at a7;refine zg 5 rfl (AS a7 (fun b6 b7=>?_) (fun b6 b8=>?_))
   ·refine zg 10 rfl (Cr a6 (DW type114) fun O b9=>?_);refine zg 4 rfl (JL.fl 1 (a0.Ag ((am.Ab an).Ab Y)) underlying97 C7 El ?_);refine Bx underlying95 rfl rfl rfl ?_;obtain⟨ca,cb,cc⟩:=bs b7;refine zg 2 rfl (Bs (fun L s=>∃(aK:LH) (ao:Lv_),Jn av H aK [bX O (([]:Lv_)++ao).toArray 114] [(4,iV K.1),(7,pV V W),(8,pV U 0),(9,(fV 85)),(10,iV K.2.1),(11,iV K.2.2),(12,pV O 0),(35,iV K.2.2)] L s ((rA 8 (rN .u16)).r aK ao ca)) ?_ ?_)
    ·rintro _ _ ⟨aK,ao,rfl,rfl,cd,a8,a9⟩;refine zg 7 rfl (Az (v:= .agg ao.toArray) rfl (fun ρ h=>Jl (kk:=8) (pp:=(rN .u16)) a9 (DO underlying114) (Bm type114) (h _ _ rfl) (KN (l:= []) 0 a8 rfl)) ?_);obtain⟨ce,cf,cg⟩:=bs cc;refine zg 2 rfl (Cq [] [(4,iV K.1),(7,pV V W),(8,pV U 0),(9,(fV 85)),(10,iV K.2.1),(11,iV K.2.2),(17,iV ce),(35,iV K.2.2)] (fun eb ci ba=>?_) (fun ck=>?_))
     ·obtain⟨aw,cm,cn⟩:=bs cg;refine zg 6 rfl (Cq [] [(4,iV aw.1),(7,pV V W),(8,pV U 0),(9,(fV 85)),(10,iV aw.2),(35,iV K.2.2)] (fun ec co cp=>?_) (fun bb=>?_))
      ·obtain⟨cq,cr,ct⟩:=bs cn;refine zg 2 rfl (Bg cr rfl rfl rfl ?_);refine zg 2 rfl ?_;obtain rfl:=oi ct;exact b5 (aw.1,aw.2,cq) (((Y.Ab cd).Ab ci).Ab co) cp rfl aJ
      ·refine AS cm (fun cu cv=>?_) (fun cu cw=>?_)
       ·refine zg 6 rfl ?_;obtain rfl:=oi cv;exact bb Aq ba rfl
       ·refine JL.skip ?_;obtain rfl:=oi cw;exact bb Aq ba rfl
     ·refine JL.block (JS.drop 0 a8 rfl fun cy=>?_);refine Cs cf (fun ai=> []) (fun ai=> [(4,iV K.1),(7,pV V W),(8,pV U 0),(9,(fV 85)),(10,iV K.2.1),(11,iV K.2.2),(17,iV ai.1),(35,iV K.2.2),(65,.agg ao.toArray),(66,iV ai.2)]) Aq cy ?_;rintro ai ed aL bc cz ⟨ee,aM⟩ cA;have bd:=aM;unfold Qq at bd;refine zg 5 rfl (AS bd (fun cB cC=>?_) (fun cB cD=>?_))
      ·obtain⟨cE,cF,cG⟩:=bs cC;refine zg 5 rfl (UU (Rp.Ag _ aL a9) cF rfl rfl rfl rfl rfl underlying114 DN Gj ?_ (fun _=>rfl));rintro _ rfl;obtain⟨be,cH,cI⟩:=bs cG;refine zg 6 rfl (Jq (vs:= [uV cE]) (QX cH) rfl rfl rfl rfl (AX func85 rfl) rfl bc ?_);rintro _ ef _ cJ ⟨rfl,rfl⟩ cK;refine Az (v:=iV (max ai.1 be)) rfl (fun ρ h=>Yl.max2 (h _ _ rfl) (h _ _ rfl)) ?_;obtain⟨cM,cN,cO⟩:=bs cI;refine zg 4 rfl (Bg cN rfl rfl rfl ?_);refine zg 2 rfl ?_;obtain rfl:=oi cO;exact cA (max ai.1 be,cM) (aL.Ab cJ) cK rfl aM
      ·refine JL.exit rfl ?_;obtain rfl:=oi cD;obtain rfl:=cz _ aM;exact ck aL bc rfl
    ·intro cP;refine JL.block (CP cb (fun L s ap=>∃(ay:LH) (aq:Lv_),Jn av H ay [bX O (([]:Lv_)++aq).toArray 114] [(4,iV K.1),(7,pV V W),(8,pV U 0),(9,(fV 85)),(10,iV K.2.1),(11,iV K.2.2),(12,pV O 0),(35,iV K.2.2),(39,sV aH ag.2.1.2 aI),(40,iV (ag.2.1.2.length:Int)),(41,iV ap.2)] L s ((rA 8 (rN .u16)).r ay aq ap.1)) ⟨av,(List.replicate 8 (uV 0):Lv_),rfl,rfl,Aq,b9,(IU (E:=av) (pp:=(rN .u16)) rfl)⟩ ?_);rintro _ _ ap ⟨ay,aq,rfl,rfl,Z,bf,bg⟩ cQ ⟨eg,aN⟩ cR;have bh:=aN;unfold Qp at bh;refine zg 5 rfl (AS bh (fun cT cV=>?_) (fun cT cW=>?_))
     ·obtain⟨cX,cY,cZ⟩:=bs cV;refine zg 5 rfl (Cf (aZ.Ag ((((ah.Ab am).Ab an).Ab Y).Ab Z)) cY underlying95 B9 ?_);rintro eh ei _ ⟨_,_,rfl,rfl,⟨_,_,rfl,⟨ej,ek,rfl,c0⟩,rfl⟩⟩ c1;refine Cl c1 Ft B9 rfl rfl (Cr bf Gm fun c3 c4=>?_);refine BF 1 c4 B9 fun c5=>?_;refine C9 1 c5 rfl fun el aa bi c6=>zg 4 rfl (Cl bi Ft B9 rfl rfl ?_);obtain⟨em,c7,c8⟩:=bs cZ;refine zg 1 rfl (BK (VX (bT.Ag ((Y.Ab Z).Ab aa)) (bU.Ag ((Y.Ab Z).Ab aa)) (bV.Ag ((Y.Ab Z).Ab aa)) (Rp.Ag _ ((Y.Ab Z).Ab aa) bW) (c0.Ag aa) c7) rfl rfl (AX func88 rfl) c6 fun en aO c9=>?_);obtain⟨bj,da,db⟩:=bs c8;refine BH (Ij da) rfl rfl H3 c9 ?_;rintro _ aP _ aQ ⟨dc,dd,rfl,rfl,de⟩ df;refine Bx underlying28 rfl rfl rfl ?_;obtain⟨bl,dg,dh⟩:=bs db;refine zg 2 rfl (Bs (fun L s=>∃(az:LH) (aA:Lv_),Jn aP H az [bX O (([]:Lv_)++aA).toArray 114] [(4,iV K.1),(7,pV V W),(8,pV U 0),(9,(fV 85)),(10,iV K.2.1),(11,iV K.2.2),(12,pV O 0),(35,iV K.2.2),(39,sV aH ag.2.1.2 aI),(40,iV (ag.2.1.2.length:Int)),(41,iV ap.2)] L s ((rA 8 (rN .u16)).r az aA bl)) ?_ ?_)
      ·rintro _ _ ⟨az,aA,rfl,rfl,di,dj,dk⟩;obtain⟨dl,dm,dn⟩:=bs dh;refine zg 2 rfl (Bg dm rfl rfl rfl ?_);refine zg 2 rfl ?_;obtain rfl:=oi dn;exact AB (cR _ _ (bl,dl) ⟨az,aA,rfl,rfl,((((Z.Ab aa).Ab aO).Ab aQ).Ab di),dj,dk⟩ aN) rfl
      ·intro dp;refine JL.block (CP dg (fun L s ar=>∃(aB:LH) (aj:Lv_),Jn aP H aB [bX O (([]:Lv_)++aj).toArray 114] [(4,iV K.1),(7,pV V W),(8,pV U 0),(9,(fV 85)),(10,iV K.2.1),(11,iV K.2.2),(12,pV O 0),(14,pV c3 0),(35,iV K.2.2),(39,sV aH ag.2.1.2 aI),(40,iV (ag.2.1.2.length:Int)),(41,iV ap.2),(49,sV dc bj dd),(50,iV (bj.length:Int)),(51,iV ar.2)] L s ((rA 8 (rN .u16)).r aB aj ar.1)) ⟨aP,aq,rfl,rfl,Aq,df,(Rp.Ag _ ((aa.Ab aO).Ab aQ) bg)⟩ ?_);rintro _ _ ar ⟨aB,aj,rfl,rfl,aC,au,ak⟩ dq ⟨eo,aR⟩ dr;have bm:=aR;unfold Qy at bm;refine zg 5 rfl (AS bm (fun dt du=>?_) (fun dt dv=>?_))
       ·obtain⟨al,dw,dx⟩:=bs du;refine zg 5 rfl (Cf (de.Ag aC) dw underlying28 A3 ?_);rintro ep eq _ rfl dy;refine BV 0 dy Bw rfl rfl rfl (zg 2 rfl ?_);refine CZ 7 [O] ⟨⟨0,_,rfl⟩,trivial⟩ au fun ht=>Bp ht rfl [0,1] rfl ?_;obtain⟨bn,bo,dz⟩:=bs dx;obtain⟨_,rfl,_,_,dA⟩:=HE (kk:=8) (pp:=(rN .u16)) ak bo;refine BC (v:= .pointer (some ⟨O,0+Int.toNat (al)*1,none⟩)) 2 ht rfl rfl (fun ρ h s' hs=>IA (kk:=8) (pp:=(rN .u16)) ak bo underlying114 DN (h _ _ rfl) (h _ _ rfl)) (BC (v:= uV bn) 3 ht rfl rfl (fun ρ h s' hs=>Yl.load Gj (h _ _ rfl) (SB (l:= []) 0 au rfl (by simp [AV]) hs (dA 0 _ rfl))) ?_);refine Ce 4 ht underlying104 A3 rfl rfl rfl rfl (JG.lp 5 ht 0 (bi.Ag ((aO.Ab aQ).Ab aC)) au ⟨⟨0,_,rfl⟩,trivial⟩ Bw ?_);obtain⟨ab,dB,dC⟩:=bs dz;refine Pk (i:=6) ⟨⟨0,_,rfl⟩,trivial⟩ (vs:= [uV bn,iV cX.1]) (LN dB) (by decide+kernel) rfl rfl rfl Ko rfl au ?_;rintro _ bp _ aD ⟨rfl,rfl⟩ dD;refine Cp [7,8] ?_;obtain⟨er,aS,dE⟩:=bs dC;obtain⟨_,rfl,_,_,et⟩:=HE (kk:=8) (pp:=(rN .u16)) (Rp.Ag _ aD ak) aS;refine Az (v:= .pointer (some ⟨O,0+Int.toNat (al)*1,none⟩)) rfl (fun ρ h=>IA (kk:=8) (pp:=(rN .u16)) (Rp.Ag _ aD ak) aS underlying114 DN (h _ _ rfl) (h _ _ rfl)) ?_;have aE:=M4 (us:= [uV ab]) (y:=ab) (Rp.Ag _ aD ak) aS rfl;refine Jh (v:= uV ab) (l:= []) (ws:=aj) (us:= [uV ab]) (o:=Int.toNat (al)*1) 0 rfl rfl rfl dD rfl rfl rfl DN (by simp [Value.cells,CG]) rfl aE.2 fun bq=>?_;replace aE:=aE.1;generalize dF:G3 aj (Int.toNat (al)*1) [uV ab]=br at bq ⊢;have dG:(rA 8 (rN .u16)).r bp br (ar.1.set (Int.toNat al) ab):=by rw [← dF];exact aE
        obtain⟨dH,dI,dJ⟩:=bs dE;refine zg 3 rfl (Bg dI rfl rfl rfl ?_);refine zg 2 rfl ?_;obtain rfl:=oi dJ;exact AB (dr _ _ ((ar.1.set (Int.toNat al) ab),dH) ⟨bp,br,rfl,rfl,(aC.Ab aD),bq,dG⟩ aR) rfl
       ·refine JL.exit rfl ?_;obtain rfl:=oi dv;obtain rfl:=dq _ aR;exact AB (dp _ _ ⟨aB,aj,rfl,rfl,aC,au,ak⟩) rfl
     ·refine JL.exit rfl ?_;obtain rfl:=oi cW;obtain rfl:=cQ _ aN;exact AB (cP _ _ ⟨ay,aq,rfl,rfl,Z,bf,bg⟩) rfl
   ·refine JL.exit rfl ?_;obtain rfl:=oi b8;obtain rfl:=b4 _ aJ;exact b0 Y a6 rfl
end Pal
namespace Pal
open Go Go.Conc Go.Proofs
open Go.Proofs.Tryz
def Qg(fuel:Nat)(p2:Int)(O:(Option BJ)×(Int×(List BS))×Int)(K:Int×Int):Option (Bi (Int×Int) Int):= if K.2<(O.2.1.2.length:Int) then((ix O.2.1.2 K.2).bind fun U=> (f103 fuel U.2.2 p2).bind fun V=> Option.bind (if V=true then((Av (K.1+1)).bind fun W=> some W) else(some K.1)) fun Y=> (Av (K.2+1)).bind fun Z=> some (.more (Y,Z))) else(some (.done K.1))
def f49(fuel:Nat)(p0:BI)(p1:AY)(p2:Int):Option (Int×Int):= (f69 fuel p0 p1).bind fun U=> if U≠0 then(some (0,U)) else((Av ((p1.length:Int) - 1)).bind fun V=> (f101 fuel p2 0 V).bind fun W=> if W=true then(some (0,3)) else((f78 fuel p0 p1 p2 false).bind fun K=> if K.2.2≠0 then(some (0,K.2.2)) else(Option.bind (iter (Qg fuel p2 K) fuel (0,0)) fun O=> Option.bind (Option.bind (Option.bind (if 0<O then(some (decide (O<(K.2.1.2.length:Int)))) else(some false)) fun Y=> if Y=true then((Av (0+1)).bind fun Z=> (Av (Z+1)).bind fun aa=> some aa) else(if O=0 then((Av (0+1)).bind fun ab=> some ab) else(some 0))) fun ae=> (Av (ae+1)).bind fun ag=> some ag) fun ah=> some (ah,0))))
theorem Ws{E:LH}{aj:Ap}{c2:Nat}{ak:Ap}{al:Nat}{am:Ap}{an:Nat}{p0:BI}{p1:AY}{p2:Int}(ao:An (rL rI) E aj c2 p0.1)(ap:An (rL rI) E ak al p0.2)(aq:An BE E am an p1){fuel:Nat}{r:Int×Int}(ar:f49 fuel p0 p1 p2=some r):AP (Dv Tryz.prog) 49 [.agg #[sV aj p0.1 c2,sV ak p0.2 al],sV am p1 an,iV p2] E [] (fun w E' B'=>w= .tuple #[iV r.1,iV r.2]∧B'= []):=by
 refine A9 func49 fun Q ce cs H aM W=>?_;unfold f49 at ar;refine zg 2 rfl (CB aM fun cf cg K au aN=>?_);refine zg 6 rfl (Cl au Cx Ca rfl rfl ?_);obtain⟨ci,aO,aP⟩:=bs ar;refine zg 1 rfl (BK (JP (ao.Ag K) (ap.Ag K) (aq.Ag K) aO) rfl rfl Jd aN fun ck O av=>?_);refine zg 7 rfl (AS aP (fun aQ aR=>?_) (fun aQ aS=>?_))
 ·refine zg 6 rfl ?_;obtain rfl:=oi aR;exact AN func49 rfl rfl (W (K.Ab O) rfl ⟨rfl,rfl⟩ av)
 ·refine zg 6 rfl (Bx underlying25 rfl rfl rfl ?_);obtain⟨cm,aT,aU⟩:=bs aS;refine BW aT rfl rfl rfl ?_;obtain⟨cn,aV,aW⟩:=bs aU;refine BK (Ih aV) rfl rfl H2 av fun co U aw=>JL.done (BL aW (fun aX aY=>?_) (fun aX aZ=>?_))
  ·refine zg 5 rfl ?_;obtain rfl:=oi aY;exact AN func49 rfl rfl (W ((K.Ab O).Ab U) rfl ⟨rfl,rfl⟩ aw)
  ·refine zg 3 rfl (Cl (au.Ag (O.Ab U)) Cx Ca rfl rfl ?_);obtain⟨Y,a0,a1⟩:=bs aZ;refine zg 2 rfl (BH (L3 (ao.Ag ((K.Ab O).Ab U)) (ap.Ag ((K.Ab O).Ab U)) (aq.Ag ((K.Ab O).Ab U)) a0) rfl rfl Kr aw ?_);rintro _ cp _ ay ⟨cq,az,aA,rfl,rfl,cr,a2⟩ a3;refine zg 4 rfl (Cr a3 FH fun Z a4=>?_);refine zg 1 rfl (BF 5 a4 CW fun a5=>?_);refine C9 5 a5 rfl fun ct aa aB aC=>zg 8 rfl (AS a1 (fun a6 a7=>?_) (fun a6 a8=>?_))
   ·refine zg 6 rfl ?_;obtain rfl:=oi a7;exact AN func49 rfl rfl (W ((((K.Ab O).Ab U).Ab ay).Ab aa) rfl ⟨rfl,rfl⟩ aC)
   ·refine zg 8 rfl (JL.fl 1 aB underlying97 C7 El ?_);refine Bx underlying95 rfl rfl rfl ?_;obtain⟨aD,a9,ba⟩:=bs a8;refine zg 2 rfl (Cq [] [(10,pV Z 0),(12,iV aD)] (fun cu aE aF=>?_) (fun bb=>?_))
    ·obtain⟨bc,bd,be⟩:=bs ba;refine zg 5 rfl (Cq [] [(15,iV bc)] (fun cv bf bg=>?_) (fun bh=>?_))
     ·refine zg 6 rfl ?_;obtain rfl:=oi be;exact AN func49 rfl rfl (W ((((((K.Ab O).Ab U).Ab ay).Ab aa).Ab aE).Ab bf) rfl ⟨rfl,rfl⟩ bg)
     ·obtain⟨bi,bj,bl⟩:=bs bd;refine zg 2 rfl (Cq [] [(15,iV bi)] (fun cw bm bn=>?_) (fun ab=>?_))
      ·obtain⟨cy,bo,bp⟩:=bs bl;refine zg 3 rfl (Bg bo rfl rfl rfl ?_);refine zg 3 rfl ?_;obtain rfl:=oi bp;exact bh bm bn rfl
      ·obtain⟨bq,br,bu⟩:=bs bj;refine zg 12 rfl (C3 9 1 [] [(12,iV aD),(15,iV 0),(61,.bool bq)] (fun cz ae ag=>?_) (fun aG=>?_))
       ·refine zg 2 rfl (BL bu (fun bv bw=>?_) (fun bv bx=>?_))
        ·obtain⟨cA,bz,bA⟩:=bs bw;refine zg 3 rfl (Bg bz rfl rfl rfl ?_);obtain⟨cB,bB,bC⟩:=bs bA;refine zg 5 rfl (Bg bB rfl rfl rfl ?_);refine zg 3 rfl ?_;obtain rfl:=oi bC;exact ab ae ag rfl
        ·refine zg 7 rfl (AS bx (fun bD bE=>?_) (fun bD bF=>?_))
         ·obtain⟨cC,bG,bH⟩:=bs bE;refine zg 3 rfl (Bg bG rfl rfl rfl ?_);refine zg 3 rfl ?_;obtain rfl:=oi bH;exact ab ae ag rfl
         ·refine zg 2 rfl ?_;obtain rfl:=oi bF;exact ab ae ag rfl
       ·refine Er 55 br (fun bI bJ=>?_) (fun bI bK=>?_)
        ·refine zg 1 rfl (JL.fl 1 (aB.Ag aE) underlying97 C7 El ?_);refine Bx underlying95 rfl rfl rfl (zg 2 rfl ?_);obtain rfl:=oi bJ;exact aG Aq aF rfl
        ·refine zg 6 rfl ?_;obtain rfl:=oi bK;exact aG Aq aF rfl
    ·refine JL.block (Cs a9 (fun V=> []) (fun V=> [(2,iV p2),(10,pV Z 0),(12,iV V.1),(39,sV az Y.2.1.2 aA),(40,iV (Y.2.1.2.length:Int)),(41,iV V.2)]) Aq aC ?_);rintro V cD ah aH bL ⟨cE,ai⟩ bM;have aI:=ai;unfold Qg at aI;refine zg 5 rfl (AS aI (fun bN bO=>?_) (fun bN bP=>?_))
     ·obtain⟨cF,bQ,bR⟩:=bs bO;refine zg 5 rfl (Cf (a2.Ag (aa.Ab ah)) bQ underlying95 B9 ?_);rintro cG cH _ ⟨_,_,rfl,rfl,⟨_,_,rfl,⟨cI,cJ,rfl,cK⟩,rfl⟩⟩ bS;refine Cl bS Ft B9 rfl rfl (Cr aH Gm fun cM bT=>?_);refine BF 0 bT B9 fun bU=>?_;refine C9 0 bU rfl fun cN bV bW bY=>zg 3 rfl (JL.fl 2 bW underlying104 DN Gj ?_);obtain⟨cO,bZ,b0⟩:=bs bR;refine zg 1 rfl (BK (M5 bZ) rfl rfl Mg bY fun cP b1 aJ=>?_);obtain⟨aK,b2,b3⟩:=bs b0;refine JL.done (Cq [] [(2,iV p2),(10,pV Z 0),(12,iV aK),(39,sV az Y.2.1.2 aA),(40,iV (Y.2.1.2.length:Int)),(41,iV V.2)] (fun cQ b4 b5=>?_) (fun aL=>?_))
      ·obtain⟨b6,b7,b8⟩:=bs b3;refine zg 2 rfl (Bg b7 rfl rfl rfl ?_);refine zg 2 rfl ?_;obtain rfl:=oi b8;exact bM (aK,b6) (((ah.Ab bV).Ab b1).Ab b4) b5 rfl ai
      ·refine BL b2 (fun b9 ca=>?_) (fun b9 cb=>?_)
       ·obtain⟨cR,cc,cd⟩:=bs ca;refine zg 2 rfl (Bg cc rfl rfl rfl ?_);refine zg 2 rfl ?_;obtain rfl:=oi cd;exact aL Aq aJ rfl
       ·refine JL.skip ?_;obtain rfl:=oi cb;exact aL Aq aJ rfl
     ·refine JL.exit rfl ?_;obtain rfl:=oi bP;obtain rfl:=bL _ ai;exact bb ah aH rfl
end Pal
namespace Pal
open Go Go.Conc Go.Proofs
open Go.Proofs.Tryz
def f22(fuel:Nat):Option Bool:= (f71 fuel).bind fun ab=> (f51 fuel ab 4).bind fun U=> (f71 fuel).bind fun ae=> (f57 fuel ae 5).bind fun V=> (f71 fuel).bind fun ag=> (f72 fuel).bind fun ah=> (f43 fuel ag ah 2).bind fun W=> (f71 fuel).bind fun ai=> (f28 fuel ai ([])).bind fun Y=> (f71 fuel).bind fun aj=> (f73 fuel).bind fun ak=> (f49 fuel aj ak 1).bind fun Z=> (f71 fuel).bind fun al=> (f35 fuel al ([])).bind fun K=> (f71 fuel).bind fun am=> (f72 fuel).bind fun an=> (f72 fuel).bind fun ao=> (f37 fuel am an ao).bind fun aa=> (f71 fuel).bind fun ap=> (f73 fuel).bind fun aq=> (f30 fuel ap aq).bind fun O=> Option.bind (if U.2=0 then(some (decide (V.2=0))) else(some false)) fun ar=> Option.bind (if ar=true then(some (decide (W.2=0))) else(some false)) fun au=> Option.bind (if au=true then(some (decide (Y.2=0))) else(some false)) fun av=> Option.bind (if av=true then(some (decide (Z.2=0))) else(some false)) fun aw=> Option.bind (if aw=true then(some (decide (K.2.2=0))) else(some false)) fun ay=> Option.bind (if ay=true then(some (decide (aa.2=0))) else(some false)) fun az=> Option.bind (if az=true then(some (decide (O.2.2=0))) else(some false)) fun aA=> Option.bind (if aA=true then(some (decide (V.1=3))) else(some false)) fun aB=> Option.bind (if aB=true then(some (decide (Y.1=15))) else(some false)) fun aC=> Option.bind (if aC=true then(some (decide (Z.1=1))) else(some false)) fun aD=> Option.bind (if aD=true then(some (decide (K.1=0))) else(some false)) fun aE=> Option.bind (if aE=true then(some (decide (K.2.1=9))) else(some false)) fun aF=> Option.bind (if aF=true then(some aa.1) else(some false)) fun aG=> Option.bind (if aG=true then(some (decide (O.1=3))) else(some false)) fun aH=> Option.bind (if aH=true then((f32 fuel U.1 ([4,5]:List Int)).bind fun aI=> some aI) else(some false)) fun aJ=> Option.bind (if aJ=true then((f32 fuel W.1 ([2,3,4]:List Int)).bind fun aK=> some aK) else(some false)) fun aL=> Option.bind (if aL=true then((f32 fuel O.2.1 ([3,4]:List Int)).bind fun aM=> some aM) else(some false)) fun aN=> some aN
theorem Wp{E:LH}{fuel:Nat}{r:Bool}(aR:f22 fuel=some r):AP (Dv Tryz.prog) 22 [] E [] (fun w E' B'=>w= .bool r∧B'= []):=by
 refine A9 func22 fun Q fA cs H bC bD=>?_;unfold f22 at aR;obtain⟨fB,bE,bF⟩:=bs aR;refine zg 6 rfl (BH (HO bE) rfl rfl Hv bC ?_);rintro _ fC _ bG ⟨fD,fE,fF,fG,rfl,rfl,bH,bI⟩ bJ;obtain⟨ab,bK,bL⟩:=bs bF;refine BH (V9 bH bI bK) rfl rfl (AX func51 rfl) bJ ?_;rintro _ fH _ bM ⟨ae,ag,rfl,rfl,bN⟩ bO;obtain⟨fI,bP,bQ⟩:=bs bL;refine zg 8 rfl (BH (HO bP) rfl rfl Hv bO ?_);rintro _ fJ _ aS ⟨fK,fL,fM,fN,rfl,rfl,bR,bS⟩ bT;obtain⟨aj,bU,bV⟩:=bs bQ;refine BK (V2 bR bS bU) rfl rfl (AX func57 rfl) bT fun fO aT bW=>?_;obtain⟨fP,bY,bZ⟩:=bs bV;refine zg 8 rfl (BH (HO bY) rfl rfl Hv bW ?_);rintro _ fQ _ aU ⟨fR,fS,fT,fU,rfl,rfl,b0,b1⟩ b2;obtain⟨fW,b3,b4⟩:=bs bZ;refine BH (Ny b3) rfl rfl Mk b2 ?_;rintro _ fX _ ao ⟨fY,fZ,rfl,rfl,b5⟩ b6;obtain⟨V,b7,b8⟩:=bs b4;refine BH (LW (b0.Ag ao) (b1.Ag ao) b5 b7) rfl rfl Kp b6 ?_;rintro _ ga _ aV ⟨Z,aa,rfl,rfl,b9⟩ ca;obtain⟨gb,cb,cc⟩:=bs b8;refine zg 8 rfl (BH (HO cb) rfl rfl Hv ca ?_);rintro _ gc _ aG ⟨gd,ge,gf,gg,rfl,rfl,cd,ce⟩ cf;obtain⟨ai,cg,ci⟩:=bs cc;refine BK (Wr cd ce An.nil cg) rfl rfl (AX func28 rfl) cf fun gh aH ck=>?_;obtain⟨gi,cm,cn⟩:=bs ci;refine zg 8 rfl (BH (HO cm) rfl rfl Hv ck ?_);rintro _ gj _ aI ⟨gk,gl,gm,gn,rfl,rfl,co,cp⟩ cq;obtain⟨gp,cr,ct⟩:=bs cn;refine BH (QS cr) rfl rfl (AX func73 rfl) cq ?_;rintro _ gq _ al ⟨gr,gt,rfl,rfl,cu⟩ cv;obtain⟨ah,cw,cy⟩:=bs ct;refine BK (Ws (co.Ag al) (cp.Ag al) cu cw) rfl rfl (AX func49 rfl) cv fun gu aJ cz=>?_;obtain⟨gv,cA,cB⟩:=bs cy;refine zg 8 rfl (BH (HO cA) rfl rfl Hv cz ?_);rintro _ gw _ aK ⟨gx,gy,gz,gA,rfl,rfl,cC,cD⟩ cE;obtain⟨O,cF,cG⟩:=bs cB;refine BK (Wq cC cD An.nil cF) rfl rfl (AX func35 rfl) cE fun gB aL cH=>?_;obtain⟨gC,cI,cJ⟩:=bs cG;refine zg 10 rfl (BH (HO cI) rfl rfl Hv cH ?_);rintro _ gD _ aM ⟨gE,gF,gG,gH,rfl,rfl,cK,cM⟩ cN;obtain⟨gI,cO,cP⟩:=bs cJ;refine BH (Ny cO) rfl rfl Mk cN ?_;rintro _ gJ _ am ⟨gK,gL,rfl,rfl,cQ⟩ cR;obtain⟨gM,cT,cV⟩:=bs cP;refine BH (Ny cT) rfl rfl Mk cR ?_;rintro _ gN _ ak ⟨gO,gP,rfl,rfl,cW⟩ cX;obtain⟨U,cY,cZ⟩:=bs cV;refine BK (Wd (cK.Ag (am.Ab ak)) (cM.Ag (am.Ab ak)) (cQ.Ag ak) cW cY) rfl rfl (AX func37 rfl) cX fun gQ aN c0=>?_;obtain⟨gR,c1,c2⟩:=bs cZ;refine zg 8 rfl (BH (HO c1) rfl rfl Hv c0 ?_);rintro _ gS _ aO ⟨gT,gU,gV,gW,rfl,rfl,c3,c4⟩ c5;obtain⟨gX,c6,c7⟩:=bs c2;refine BH (QS c6) rfl rfl (AX func73 rfl) c5 ?_;rintro _ gY _ an ⟨gZ,g0,rfl,rfl,c8⟩ c9;obtain⟨K,da,db⟩:=bs c7;refine BH (Wm (c3.Ag an) (c4.Ag an) c8 da) rfl rfl (AX func30 rfl) c9 ?_;rintro _ g1 _ aP ⟨W,Y,rfl,rfl,dc⟩ aW;obtain⟨dd,de,df⟩:=bs db;refine zg 13 rfl (C3 6 67 [] [(1,sV ae ab.1 ag),(3,iV aj.1),(5,sV Z V.1 aa),(6,iV V.2),(7,iV ai.1),(8,iV ai.2),(9,iV ah.1),(10,iV ah.2),(11,iV O.1),(12,iV O.2.1),(13,iV O.2.2),(14,.bool U.1),(15,iV U.2),(16,iV K.1),(17,sV W K.2.1 Y),(18,iV K.2.2),(71,.bool dd)] (fun g3 ap aX=>?_) (fun aY=>?_))
 ·obtain⟨dg,dh,di⟩:=bs df;refine zg 1 rfl (C3 10 63 [] [(1,sV ae ab.1 ag),(3,iV aj.1),(5,sV Z V.1 aa),(7,iV ai.1),(8,iV ai.2),(9,iV ah.1),(10,iV ah.2),(11,iV O.1),(12,iV O.2.1),(13,iV O.2.2),(14,.bool U.1),(15,iV U.2),(16,iV K.1),(17,sV W K.2.1 Y),(18,iV K.2.2),(75,.bool dg)] (fun g4 aq aZ=>?_) (fun a0=>?_))
  ·obtain⟨dj,dk,dl⟩:=bs di;refine zg 1 rfl (C3 14 59 [] [(1,sV ae ab.1 ag),(3,iV aj.1),(5,sV Z V.1 aa),(7,iV ai.1),(9,iV ah.1),(10,iV ah.2),(11,iV O.1),(12,iV O.2.1),(13,iV O.2.2),(14,.bool U.1),(15,iV U.2),(16,iV K.1),(17,sV W K.2.1 Y),(18,iV K.2.2),(79,.bool dj)] (fun g5 ar a1=>?_) (fun a2=>?_))
   ·obtain⟨dm,dn,dp⟩:=bs dl;refine zg 1 rfl (C3 18 55 [] [(1,sV ae ab.1 ag),(3,iV aj.1),(5,sV Z V.1 aa),(7,iV ai.1),(9,iV ah.1),(11,iV O.1),(12,iV O.2.1),(13,iV O.2.2),(14,.bool U.1),(15,iV U.2),(16,iV K.1),(17,sV W K.2.1 Y),(18,iV K.2.2),(83,.bool dm)] (fun g6 au a3=>?_) (fun a4=>?_))
    ·obtain⟨dq,dr,dt⟩:=bs dp;refine zg 1 rfl (C3 22 51 [] [(1,sV ae ab.1 ag),(3,iV aj.1),(5,sV Z V.1 aa),(7,iV ai.1),(9,iV ah.1),(11,iV O.1),(12,iV O.2.1),(14,.bool U.1),(15,iV U.2),(16,iV K.1),(17,sV W K.2.1 Y),(18,iV K.2.2),(87,.bool dq)] (fun g7 av a5=>?_) (fun a6=>?_))
     ·obtain⟨du,dv,dw⟩:=bs dt;refine zg 1 rfl (C3 26 47 [] [(1,sV ae ab.1 ag),(3,iV aj.1),(5,sV Z V.1 aa),(7,iV ai.1),(9,iV ah.1),(11,iV O.1),(12,iV O.2.1),(14,.bool U.1),(16,iV K.1),(17,sV W K.2.1 Y),(18,iV K.2.2),(91,.bool du)] (fun g8 aw a7=>?_) (fun a8=>?_))
      ·obtain⟨dx,dy,dz⟩:=bs dw;refine zg 1 rfl (C3 30 43 [] [(1,sV ae ab.1 ag),(3,iV aj.1),(5,sV Z V.1 aa),(7,iV ai.1),(9,iV ah.1),(11,iV O.1),(12,iV O.2.1),(14,.bool U.1),(16,iV K.1),(17,sV W K.2.1 Y),(95,.bool dx)] (fun g9 ay a9=>?_) (fun ba=>?_))
       ·obtain⟨dA,dB,dC⟩:=bs dz;refine zg 1 rfl (C3 34 39 [] [(1,sV ae ab.1 ag),(5,sV Z V.1 aa),(7,iV ai.1),(9,iV ah.1),(11,iV O.1),(12,iV O.2.1),(14,.bool U.1),(16,iV K.1),(17,sV W K.2.1 Y),(99,.bool dA)] (fun ha az bb=>?_) (fun bc=>?_))
        ·obtain⟨dD,dE,dF⟩:=bs dC;refine zg 1 rfl (C3 38 35 [] [(1,sV ae ab.1 ag),(5,sV Z V.1 aa),(9,iV ah.1),(11,iV O.1),(12,iV O.2.1),(14,.bool U.1),(16,iV K.1),(17,sV W K.2.1 Y),(103,.bool dD)] (fun hb aA bd=>?_) (fun be=>?_))
         ·obtain⟨dG,dH,dI⟩:=bs dF;refine zg 1 rfl (C3 42 31 [] [(1,sV ae ab.1 ag),(5,sV Z V.1 aa),(11,iV O.1),(12,iV O.2.1),(14,.bool U.1),(16,iV K.1),(17,sV W K.2.1 Y),(107,.bool dG)] (fun hc aB bf=>?_) (fun bg=>?_))
          ·obtain⟨dJ,dK,dL⟩:=bs dI;refine zg 1 rfl (C3 46 27 [] [(1,sV ae ab.1 ag),(5,sV Z V.1 aa),(12,iV O.2.1),(14,.bool U.1),(16,iV K.1),(17,sV W K.2.1 Y),(111,.bool dJ)] (fun hd aC bh=>?_) (fun bi=>?_))
           ·obtain⟨dM,dN,dO⟩:=bs dL;refine zg 1 rfl (C3 50 23 [] [(1,sV ae ab.1 ag),(5,sV Z V.1 aa),(14,.bool U.1),(16,iV K.1),(17,sV W K.2.1 Y),(115,.bool dM)] (fun he aD bj=>?_) (fun bl=>?_))
            ·obtain⟨dP,dQ,dR⟩:=bs dO;refine zg 1 rfl (C3 53 20 [] [(1,sV ae ab.1 ag),(5,sV Z V.1 aa),(16,iV K.1),(17,sV W K.2.1 Y),(118,.bool dP)] (fun hf aE bm=>?_) (fun bn=>?_))
             ·obtain⟨dS,dT,dU⟩:=bs dR;refine zg 1 rfl (C3 57 16 [] [(1,sV ae ab.1 ag),(5,sV Z V.1 aa),(17,sV W K.2.1 Y),(122,.bool dS)] (fun hg aF bo=>?_) (fun bp=>?_))
              ·obtain⟨dV,dW,dX⟩:=bs dU;refine zg 1 rfl (C3 62 11 [] [(5,sV Z V.1 aa),(17,sV W K.2.1 Y),(127,.bool dV)] (fun hj aQ bq=>?_) (fun br=>?_))
               ·obtain⟨dY,dZ,ea⟩:=bs dX;refine zg 1 rfl (C3 67 6 [] [(17,sV W K.2.1 Y),(132,.bool dY)] (fun hk bu bv=>?_) (fun bw=>?_))
                ·obtain⟨eb,ec,ed⟩:=bs ea;refine zg 1 rfl (C3 72 1 [] [(137,.bool eb)] (fun hl ee ef=>?_) (fun bx=>?_))
                 ·refine zg 2 rfl ?_;obtain rfl:=oi ed;exact AN func22 rfl rfl (bD (((((((((((((((((((((((((((((((((((((bG.Ab bM).Ab aS).Ab aT).Ab aU).Ab ao).Ab aV).Ab aG).Ab aH).Ab aI).Ab al).Ab aJ).Ab aK).Ab aL).Ab aM).Ab am).Ab ak).Ab aN).Ab aO).Ab an).Ab aP).Ab ap).Ab aq).Ab ar).Ab au).Ab av).Ab aw).Ab ay).Ab az).Ab aA).Ab aB).Ab aC).Ab aD).Ab aE).Ab aF).Ab aQ).Ab bu).Ab ee) rfl ⟨rfl,rfl⟩ ef)
                 ·refine Dr 133 ec (fun eg eh=>?_) (fun eg ei=>?_)
                  ·refine zg 1 rfl (JS.lit (pp:=rI) [iV 3,iV 4] [3,4] rfl rfl rfl underlying28 A3 Cn (by decide) rfl rfl rfl ⟨rfl,rfl,trivial⟩ bv fun hm hn ej ek=>?_);refine Cb 0 ej ek rfl fun ho bz el em=>?_;obtain⟨hp,en,eo⟩:=bs eh;refine BK (NA (dc.Ag ((((((((((((((((ap.Ab aq).Ab ar).Ab au).Ab av).Ab aw).Ab ay).Ab az).Ab aA).Ab aB).Ab aC).Ab aD).Ab aE).Ab aF).Ab aQ).Ab bu).Ab bz)) el en) rfl rfl Ml em fun hq ep eq=>zg 1 rfl ?_;obtain rfl:=oi eo;exact bx (bz.Ab ep) eq rfl
                  ·refine zg 4 rfl ?_;obtain rfl:=oi ei;exact bx Aq bv rfl
                ·refine Dr 128 dZ (fun er et=>?_) (fun er eu=>?_)
                 ·refine zg 1 rfl (JS.lit (pp:=rI) [iV 2,iV 3,iV 4] [2,3,4] rfl rfl rfl underlying28 A3 Cn (by decide) rfl rfl rfl ⟨rfl,rfl,rfl,trivial⟩ bq fun hr hu ew ex=>?_);refine Cb 0 ew ex rfl fun hv bA ey ez=>?_;obtain⟨hw,eA,eB⟩:=bs et;refine BK (NA (b9.Ag (((((((((((((((((((((((((((((aG.Ab aH).Ab aI).Ab al).Ab aJ).Ab aK).Ab aL).Ab aM).Ab am).Ab ak).Ab aN).Ab aO).Ab an).Ab aP).Ab ap).Ab aq).Ab ar).Ab au).Ab av).Ab aw).Ab ay).Ab az).Ab aA).Ab aB).Ab aC).Ab aD).Ab aE).Ab aF).Ab aQ).Ab bA)) ey eA) rfl rfl Ml ez fun hx eC eD=>zg 1 rfl ?_;obtain rfl:=oi eB;exact bw (bA.Ab eC) eD rfl
                 ·refine zg 4 rfl ?_;obtain rfl:=oi eu;exact bw Aq bq rfl
               ·refine Dr 123 dW (fun eE eF=>?_) (fun eE eG=>?_)
                ·refine zg 1 rfl (JS.lit (pp:=rI) [iV 4,iV 5] [4,5] rfl rfl rfl underlying28 A3 Cn (by decide) rfl rfl rfl ⟨rfl,rfl,trivial⟩ bo fun hy hz eH eI=>?_);refine Cb 0 eH eI rfl fun hA bB eJ eK=>?_;obtain⟨hB,eL,eM⟩:=bs eF;refine BK (NA (bN.Ag (((((((((((((((((((((((((((((((((aS.Ab aT).Ab aU).Ab ao).Ab aV).Ab aG).Ab aH).Ab aI).Ab al).Ab aJ).Ab aK).Ab aL).Ab aM).Ab am).Ab ak).Ab aN).Ab aO).Ab an).Ab aP).Ab ap).Ab aq).Ab ar).Ab au).Ab av).Ab aw).Ab ay).Ab az).Ab aA).Ab aB).Ab aC).Ab aD).Ab aE).Ab aF).Ab bB)) eJ eL) rfl rfl Ml eK fun hC eN eO=>zg 1 rfl ?_;obtain rfl:=oi eM;exact br (bB.Ab eN) eO rfl
                ·refine zg 4 rfl ?_;obtain rfl:=oi eG;exact br Aq bo rfl
              ·refine Dr 119 dT (fun eP eQ=>?_) (fun eP eR=>?_)
               ·refine zg 3 rfl ?_;obtain rfl:=oi eQ;exact bp Aq bm rfl
               ·refine zg 3 rfl ?_;obtain rfl:=oi eR;exact bp Aq bm rfl
             ·refine Dr 116 dQ (fun eS eT=>?_) (fun eS eU=>?_)
              ·refine zg 2 rfl ?_;obtain rfl:=oi eT;exact bn Aq bj rfl
              ·refine zg 2 rfl ?_;obtain rfl:=oi eU;exact bn Aq bj rfl
            ·refine Dr 112 dN (fun eV eW=>?_) (fun eV eX=>?_)
             ·refine zg 3 rfl ?_;obtain rfl:=oi eW;exact bl Aq bh rfl
             ·refine zg 3 rfl ?_;obtain rfl:=oi eX;exact bl Aq bh rfl
           ·refine Dr 108 dK (fun eY eZ=>?_) (fun eY e0=>?_)
            ·refine zg 3 rfl ?_;obtain rfl:=oi eZ;exact bi Aq bf rfl
            ·refine zg 3 rfl ?_;obtain rfl:=oi e0;exact bi Aq bf rfl
          ·refine Dr 104 dH (fun e1 e2=>?_) (fun e1 e3=>?_)
           ·refine zg 3 rfl ?_;obtain rfl:=oi e2;exact bg Aq bd rfl
           ·refine zg 3 rfl ?_;obtain rfl:=oi e3;exact bg Aq bd rfl
         ·refine Dr 100 dE (fun e4 e5=>?_) (fun e4 e6=>?_)
          ·refine zg 3 rfl ?_;obtain rfl:=oi e5;exact be Aq bb rfl
          ·refine zg 3 rfl ?_;obtain rfl:=oi e6;exact be Aq bb rfl
        ·refine Dr 96 dB (fun e7 e8=>?_) (fun e7 e9=>?_)
         ·refine zg 3 rfl ?_;obtain rfl:=oi e8;exact bc Aq a9 rfl
         ·refine zg 3 rfl ?_;obtain rfl:=oi e9;exact bc Aq a9 rfl
       ·refine Dr 92 dy (fun fa fb=>?_) (fun fa fc=>?_)
        ·refine zg 3 rfl ?_;obtain rfl:=oi fb;exact ba Aq a7 rfl
        ·refine zg 3 rfl ?_;obtain rfl:=oi fc;exact ba Aq a7 rfl
      ·refine Dr 88 dv (fun fd fe=>?_) (fun fd ff=>?_)
       ·refine zg 3 rfl ?_;obtain rfl:=oi fe;exact a8 Aq a5 rfl
       ·refine zg 3 rfl ?_;obtain rfl:=oi ff;exact a8 Aq a5 rfl
     ·refine Dr 84 dr (fun fg fh=>?_) (fun fg fj=>?_)
      ·refine zg 3 rfl ?_;obtain rfl:=oi fh;exact a6 Aq a3 rfl
      ·refine zg 3 rfl ?_;obtain rfl:=oi fj;exact a6 Aq a3 rfl
    ·refine Dr 80 dn (fun fk fm=>?_) (fun fk fo=>?_)
     ·refine zg 3 rfl ?_;obtain rfl:=oi fm;exact a4 Aq a1 rfl
     ·refine zg 3 rfl ?_;obtain rfl:=oi fo;exact a4 Aq a1 rfl
   ·refine Dr 76 dk (fun fp fq=>?_) (fun fp fs=>?_)
    ·refine zg 3 rfl ?_;obtain rfl:=oi fq;exact a2 Aq aZ rfl
    ·refine zg 3 rfl ?_;obtain rfl:=oi fs;exact a2 Aq aZ rfl
  ·refine Dr 72 dh (fun fu fv=>?_) (fun fu fw=>?_)
   ·refine zg 3 rfl ?_;obtain rfl:=oi fv;exact a0 Aq aX rfl
   ·refine zg 3 rfl ?_;obtain rfl:=oi fw;exact a0 Aq aX rfl
 ·refine Er 68 de (fun fx fy=>?_) (fun fx fz=>?_)
  ·refine zg 3 rfl ?_;obtain rfl:=oi fy;exact aY Aq aW rfl
  ·refine zg 3 rfl ?_;obtain rfl:=oi fz;exact aY Aq aW rfl
end Pal
namespace Pal
open Go Go.Conc Go.Proofs
open Go.Proofs.Tryz
variable {J:Judge Tryz.prog}{E:LH}
def LF(fuel:Nat)(V:Int×(B4))(W:(List (List Int))×(List (List Int))×(List Int)×Int×Nat×Int)(K:(List Int)×Int×Nat×(List Int)×Int):Option (Bi ((List Int)×Int×Nat×(List Int)×Int) ((List Int)×B4)):= Option.bind (if 0<K.2.2.2.2 then(some (decide (1<V.1))) else(some false)) fun Z=> if Z=true then((Av (W.2.2.2.2.2 - 1)).bind fun aa=> (f41 fuel (K.1,K.2.1,K.2.2.1) (max (0) aa)).bind fun Y=> (f97 fuel Y.2 6).bind fun O=> Option.bind (if O.1=true then((Av (V.1 - 1)).bind fun ab=> (f41 fuel O.2 ab).bind fun ae=> some ae) else(some (Y.1,O.2.1,O.2.2.1,O.2.2.2))) fun U=> Option.bind (if U.1≠W.2.2.2.2.2 then((f98 fuel K.2.2.2.1 U.1).bind fun ag=> some ag) else(some K.2.2.2.1)) fun ah=> (Av (K.2.2.2.2 - 1)).bind fun ai=> some (.more (U.2.1,U.2.2.1,U.2.2.2,ah,ai))) else(some (.done (K.2.2.2.1,K.1,K.2.1,K.2.2.1)))
def Lw(fuel:Nat)(O:Int×(B4))(K:(List (List Int))×(List (List Int))×(List Int)×Int×Nat×Int):Option (Bi ((List (List Int))×(List (List Int))×(List Int)×Int×Nat×Int) ((List Int)×Int×Nat×BI)):= if K.2.2.2.2.2<O.1 then((Av (O.1 - 1)).bind fun ab=> (Av (K.2.2.2.2.2+1)).bind fun ae=> (f97 fuel (K.2.2.1,K.2.2.2.1,K.2.2.2.2.1) 3).bind fun U=> Option.bind (if U.1=true then((Av (O.1 - 1)).bind fun ai=> (f96 fuel U.2 K.2.2.2.2.2 ai).bind fun W=> (f98 fuel ([min ab ae]:List Int) W.1).bind fun aj=> some (aj,W.2.1,W.2.2.1,W.2.2.2)) else(some (([min ab ae]:List Int),U.2.1,U.2.2.1,U.2.2.2))) fun ag=> (f97 fuel ag.2 8).bind fun V=> Option.bind (if V.1=true then((Av (O.1 - 1)).bind fun ak=> (f41 fuel V.2 ak).bind fun Y=> some (([Y.1]:List Int),Y.2.1,Y.2.2.1,Y.2.2.2)) else(some (ag.1,V.2.1,V.2.2.1,V.2.2.2))) fun ah=> (f99 fuel ah.2 ([0,1,1,2]:List Int)).bind fun Z=> Option.bind (iter (LF fuel O K) fuel (Z.2.1,Z.2.2.1,Z.2.2.2,[],Z.1)) fun aa=> (Ds K.1 ([ah.1]:List (List Int))).bind fun al=> (Ds K.2.1 ([aa.1]:List (List Int))).bind fun am=> (Av (K.2.2.2.2.2+1)).bind fun an=> some (.more (al,am,aa.2.1,aa.2.2.1,aa.2.2.2,an))) else(some (.done (K.2.2.1,K.2.2.2.1,K.2.2.2.2.1,K.1,K.2.1)))
def f39(fuel:Nat)(p0:B4)(p1:Int):Option ((BI)×(B4)):= (f96 fuel p0 1 p1).bind fun K=> Option.bind (iter (Lw fuel K) fuel ([],[],K.2.1,K.2.2.1,K.2.2.2,0)) fun O=> some (O.2.2.2,(O.1,O.2.1,O.2.2.1))
theorem VZ{bk:Nat}{bJ:Ap}{c2:Nat}{p0:B4}{p1:Int}(cR:An rI E bJ c2 p0.1){fuel:Nat}{r:(BI)×(B4)}(bK:f39 fuel p0 p1=some r):AP J 39 [pV bk 0,iV p1] E [(bk,.cells #[sV bJ p0.1 c2,iV p0.2.1,.int .u64 ((p0.2.2:Nat):Int)] 92 (0,0))] (fun w E' B'=>∃(bL:Ap) (bM:Nat) (bN:Ap) (bO:Nat) (bP:Ap) (bQ:Nat),w= .agg #[sV bL r.1.1 bM,sV bN r.1.2 bO]∧B'= [(bk,.cells #[sV bP r.2.1 bQ,iV r.2.2.1,.int .u64 ((r.2.2.2:Nat):Int)] 92 (0,0))]∧An (rL rI) E' bL bM r.1.1∧An (rL rI) E' bN bO r.1.2∧An rI E' bP bQ r.2.1):=by
 refine A9 func39 fun Q hb cs H cT cV=>?_;unfold f39 at bK;refine zg 2 rfl (Cr cT Dh fun U cW=>?_);refine zg 3 rfl (Cr cW Dh fun O cX=>?_);obtain⟨al,cY,cZ⟩:=bs bK;refine zg 5 rfl (BP 0 (Nu cR cY) rfl rfl Mj cX rfl ?_);rintro _ a9 _ c0 ⟨bR,bS,rfl,rfl,c1⟩ c3;refine Cg (S':= [[(bk,.cells #[sV bR al.2.1 bS,iV al.2.2.1,.int .u64 ((al.2.2.2:Nat):Int)] 92 (0,0))],[(U,.cells #[nS,nS] 24 (0,0))],[(O,.cells #[nS,nS] 24 (0,0))]]) rfl c3 fun c4=>?_;obtain⟨W,c5,c6⟩:=bs cZ;refine zg 7 rfl (Bs (fun L s=>∃(aO:LH) (aP:Ap) (aQ:Nat) (ap:Ap) (aq:Nat) (ba:Seg) (ar:Ap) (au:Nat) (bb:Seg),Jn a9 H aO [bX bk #[sV aP W.1 aQ,iV W.2.1,.int .u64 ((W.2.2.1:Nat):Int)] 92,bX U #[nS,nS] 24,bX O #[sV ap W.2.2.2.1 aq,sV ar W.2.2.2.2 au] 24,ba,bb] [(4,pV U 0),(5,pV O 0)] L s (An rI aO aP aQ W.1∧OL 28 (rL rI) aO ap aq ba W.2.2.2.1∧OL 28 (rL rI) aO ar au bb W.2.2.2.2)) ?_ ?_)
 ·rintro _ _ ⟨aO,aP,aQ,ap,aq,ba,ar,au,bb,rfl,rfl,c7,bT,c8,c9,da⟩;refine zg 2 rfl (Az rfl (fun ρ h=>EK (vs:= [sV ap W.2.2.2.1 aq,sV ar W.2.2.2.2 au]) Cx Ca (h _ _ rfl) (EG (off:=0) 2 bT rfl rfl)) ?_);refine BF 1 bT Ca fun db=>?_;refine JL.done (Cb 3 c9 db rfl fun hc bc dc dd=>?_);refine Cb 4 (da.Ag bc) dd rfl fun hd bd de df=>Cg (S':= [[(bk,.cells #[sV aP W.1 aQ,iV W.2.1,.int .u64 ((W.2.2.1:Nat):Int)] 92 (0,0))],[(U,.cells #[sV ap W.2.2.2.1 aq,sV ar W.2.2.2.2 au] 24 (0,0))],[(O,.cells #[sV ap W.2.2.2.1 aq,sV ar W.2.2.2.2 au] 24 (0,0))],[],[]]) rfl df fun dg=>JS.drop 2 dg rfl fun bU=>?_;obtain rfl:=oi c6;refine JL.ret (v:= .agg #[sV ap W.2.2.2.1 aq,sV ar W.2.2.2.2 au]) rfl rfl (BR.list func39 rfl (vs:= [.agg #[sV ap W.2.2.2.1 aq,sV ar W.2.2.2.2 au]]) ⟨⟨_,rfl,Ld.many (vs:= [sV ap W.2.2.2.1 aq,sV ar W.2.2.2.2 au]) Cx Ca (EG (off:=0) 1 bU rfl rfl)⟩,trivial⟩) (HH 1 bU rfl fun dh=>?_);exact cV (((c0.Ab c7).Ab bc).Ab bd) rfl ⟨ap,aq,ar,au,aP,aQ,rfl,rfl,(dc.Ag bd),de,(c8.Ag (bc.Ab bd))⟩ dh
 ·intro di;refine JL.block (CP c5 (fun L s K=>∃(aI:LH) (Y:Ap) (Z:Nat) (ae:Seg) (aa:Ap) (ab:Nat) (ag:Seg) (aX:Ap) (aY:Nat),Jn a9 H aI [bX bk #[sV aX K.2.2.1 aY,iV K.2.2.2.1,.int .u64 ((K.2.2.2.2.1:Nat):Int)] 92,bX U #[nS,nS] 24,bX O #[sV Y K.1 Z,sV aa K.2.1 ab] 24,ae,ag] [(0,pV bk 0),(4,pV U 0),(5,pV O 0),(6,iV al.1),(7,iV K.2.2.2.2.2)] L s (OL 28 (rL rI) aI Y Z ae K.1∧OL 28 (rL rI) aI aa ab ag K.2.1∧An rI aI aX aY K.2.2.1)) ⟨a9,none,0,[],none,0,[],bR,bS,rfl,rfl,Aq,c4,OL.nil,OL.nil,c1⟩ ?_);rintro _ _ K ⟨aI,Y,Z,ae,aa,ab,ag,aX,aY,rfl,rfl,aZ,bV,a0,a1,bW⟩ dj ⟨he,aR⟩ be;have bY:=aR;unfold Lw at bY;refine zg 7 rfl (AS bY (fun dk dl=>?_) (fun dk dm=>?_))
  ·obtain⟨bf,dn,dp⟩:=bs dl;refine zg 6 rfl (BW dn rfl rfl rfl ?_);obtain⟨bg,dq,dr⟩:=bs dp;refine zg 1 rfl (Bg dq rfl rfl rfl ?_);refine Az (v:=iV (min bf bg)) rfl (fun ρ h=>Yl.min2 (h _ _ rfl) (h _ _ rfl)) (JS.lit (pp:=rI) [iV (min bf bg)] [min bf bg] rfl rfl rfl underlying28 A3 Cn (by decide) rfl rfl rfl ⟨rfl,trivial⟩ bV fun dt du bZ dv=>?_);obtain⟨bh,dw,dx⟩:=bs dr;refine zg 6 rfl (BP 0 (JR bW dw) rfl rfl Jc dv rfl ?_);rintro _ dy _ am ⟨b0,b1,rfl,rfl,b2⟩ b3;obtain⟨aJ,dz,dA⟩:=bs dx;refine JL.done (Bs (fun L s=>∃(a2:LH) (a3:Ap) (a4:Nat) (bi:Ap) (bj:Nat),Jn dy H a2 [bX bk #[sV bi aJ.2.1 bj,iV aJ.2.2.1,.int .u64 ((aJ.2.2.2:Nat):Int)] 92,bX U #[nS,nS] 24,bX O #[sV Y K.1 Z,sV aa K.2.1 ab] 24,ae,ag] [(0,pV bk 0),(4,pV U 0),(5,pV O 0),(6,iV al.1),(7,iV K.2.2.2.2.2),(8,sV a3 aJ.1 a4)] L s (An rI a2 a3 a4 aJ.1∧An rI a2 bi bj aJ.2.1)) ?_ ?_)
   ·rintro _ _ ⟨a2,a3,a4,bi,bj,rfl,rfl,az,dB,dC,dD⟩;obtain⟨bl,dE,dF⟩:=bs dA;refine zg 4 rfl (BP 0 (JR dD dE) rfl rfl Jc dB rfl ?_);rintro _ b4 _ av ⟨b5,b6,rfl,rfl,b7⟩ dG;refine Cg (S':= [[(bk,.cells #[sV b5 bl.2.1 b6,iV bl.2.2.1,.int .u64 ((bl.2.2.2:Nat):Int)] 92 (0,0))],[(U,.cells #[nS,nS] 24 (0,0))],[(O,.cells #[sV Y K.1 Z,sV aa K.2.1 ab] 24 (0,0))],ae,ag]) rfl dG fun b8=>?_;obtain⟨ai,dH,dI⟩:=bs dF;refine JL.done (Bs (fun L s=>∃(a5:LH) (aw:Ap) (ay:Nat) (bm:Ap) (bn:Nat),Jn b4 H a5 [bX bk #[sV bm ai.2.1 bn,iV ai.2.2.1,.int .u64 ((ai.2.2.2:Nat):Int)] 92,bX U #[nS,nS] 24,bX O #[sV Y K.1 Z,sV aa K.2.1 ab] 24,ae,ag] [(0,pV bk 0),(4,pV U 0),(5,pV O 0),(6,iV al.1),(7,iV K.2.2.2.2.2),(8,sV aw ai.1 ay)] L s (An rI a5 aw ay ai.1∧An rI a5 bm bn ai.2.1)) ?_ ?_)
    ·rintro _ _ ⟨a5,aw,ay,bm,bn,rfl,rfl,aA,dJ,b9,dK⟩;refine zg 8 rfl (JS.lit (pp:=rI) [iV 0,iV 1,iV 1,iV 2] [0,1,1,2] rfl rfl rfl underlying28 A3 Cn (by decide) rfl rfl rfl ⟨rfl,rfl,rfl,rfl,trivial⟩ dJ fun hf hg dL dM=>?_);refine Cb 5 dL dM rfl fun hj ak dN dO=>?_;obtain⟨bo,dP,dQ⟩:=bs dI;refine BP 0 (LU (dK.Ag ak) dN dP) rfl rfl Kn dO rfl ?_;rintro _ bp _ an ⟨ca,cb,rfl,rfl,dR⟩ dS;refine Cg (S':= [[(bk,.cells #[sV ca bo.2.1 cb,iV bo.2.2.1,.int .u64 ((bo.2.2.2:Nat):Int)] 92 (0,0))],[(U,.cells #[nS,nS] 24 (0,0))],[(O,.cells #[sV Y K.1 Z,sV aa K.2.1 ab] 24 (0,0))],ae,ag,[]]) rfl dS fun dT=>?_;obtain⟨V,dU,dV⟩:=bs dQ;refine zg 2 rfl (Bs (fun L s=>∃(aD:LH) (aK:Ap) (aL:Nat) (aB:Ap) (aC:Nat),Jn bp H aD [bX bk #[sV aB V.2.1 aC,iV V.2.2.1,.int .u64 ((V.2.2.2:Nat):Int)] 92,bX U #[nS,nS] 24,bX O #[sV Y K.1 Z,sV aa K.2.1 ab] 24,ae,ag] [(0,pV bk 0),(4,pV U 0),(5,pV O 0),(6,iV al.1),(7,iV K.2.2.2.2.2),(8,sV aw ai.1 ay),(9,sV aK V.1 aL)] L s (An rI aD aK aL V.1∧An rI aD aB aC V.2.1)) ?_ ?_)
     ·rintro _ _ ⟨aD,aK,aL,aB,aC,rfl,rfl,ao,aS,bq,br⟩;refine CZ 11 [O] ⟨⟨2,_,rfl⟩,trivial⟩ aS fun ht=>Ce 0 ht underlying24 Ck rfl rfl rfl rfl (EB 1 ht 0 2 aS C6 ?_);refine Ct 2 ht rfl rfl (Ce 5 ht underlying24 Ck rfl rfl rfl rfl ?_);refine EB 6 ht 1 2 aS C6 ?_;refine Ct 7 ht rfl rfl ?_;obtain⟨bu,bv,dW⟩:=bs dV;obtain⟨bw,bx,bz⟩:=bs dW;refine Gu (i:=3) (j:=8) rfl (by decide+kernel) ?_ ?_
      ·refine Take.lit (pp:=(rL rI)) (jp:=2) [sV aw ai.1 ay] ([ai.1]:List (List Int)) aS rfl rfl rfl rfl underlying22 B7 Fv (by decide) rfl rfl rfl ⟨⟨_,_,rfl,(b9.Ag ((ak.Ab an).Ab ao))⟩,trivial⟩ fun hk cc cd ce=>Gu (i:=4) (j:=8) rfl (by decide+kernel) ?_ ?_
       ·refine Take.app (pp:=(rL rI)) (jp:=2) 3 5 ce rfl bv rfl rfl rfl rfl rfl rfl rfl underlying22 underlying22 B7 (CX type28) Fv rfl (by decide) (by decide) (a0.Ag ((((((am.Ab az).Ab av).Ab aA).Ab ak).Ab an).Ab ao)) cd rfl rfl rfl rfl fun dX dY hl cf dZ ea=>Ce 10 ht underlying24 Ck rfl rfl rfl rfl (JG.one (i:=8) rfl (by decide+kernel) ?_);refine Take.lit (pp:=(rL rI)) (jp:=2) [sV aK V.1 aL] ([V.1]:List (List Int)) ea rfl rfl rfl rfl underlying22 B7 Fv (by decide) rfl rfl rfl ⟨⟨_,_,rfl,bq⟩,trivial⟩ fun hm eb ec ed=>JG.one (i:=9) rfl (by decide+kernel) (Take.app (pp:=(rL rI)) (jp:=2) 4 6 ed rfl bx rfl rfl rfl rfl rfl rfl rfl underlying22 underlying22 B7 (CX type28) Fv rfl (by decide) (by decide) (a1.Ag ((((((am.Ab az).Ab av).Ab aA).Ab ak).Ab an).Ab ao)) ec rfl rfl rfl rfl fun ee ef hn cg eg eh=>?_);refine Cp [11,12,13] (EM 3 rfl eh fun ei=>?_);refine JS.drop 3 ei rfl fun ej=>EM 4 rfl ej fun ek=>JS.drop 4 ek rfl fun el=>Cg (S':= [[(bk,.cells #[sV aB V.2.1 aC,iV V.2.2.1,.int .u64 ((V.2.2.2:Nat):Int)] 92 (0,0))],[(U,.cells #[nS,nS] 24 (0,0))],[(O,.cells #[sV Y K.1 Z,sV aa K.2.1 ab] 24 (0,0))],[],[],cc,eb,cf,cg]) rfl el fun em=>BF 2 em Ck fun en=>?_;refine Bu underlying24 Ck rfl rfl rfl (BF 2 en Ck fun eo=>?_);obtain⟨ep,eq,er⟩:=bs bz;refine zg 4 rfl (Bg eq rfl rfl rfl ?_);refine zg 2 rfl (JS.drop 5 eo rfl fun et=>?_);refine JS.drop 6 et rfl fun eu=>?_;obtain rfl:=oi er;exact AB (be _ _ (bu,bw,V.2.1,V.2.2.1,V.2.2.2,ep) ⟨aD,dX,dY,cf,ee,ef,cg,aB,aC,rfl,rfl,(((((((aZ.Ab am).Ab az).Ab av).Ab aA).Ab ak).Ab an).Ab ao),eu,dZ,eg,br⟩ aR) rfl
       ·refine Take.lit (pp:=(rL rI)) (jp:=2) [sV aK V.1 aL] ([V.1]:List (List Int)) ce rfl rfl rfl rfl underlying22 B7 Fv (by decide) rfl rfl rfl ⟨⟨_,_,rfl,bq⟩,trivial⟩ fun ho ew ex ey=>JG.one (i:=4) rfl (by decide+kernel) (Take.app (pp:=(rL rI)) (jp:=2) 3 5 ey rfl bv rfl rfl rfl rfl rfl rfl rfl underlying22 underlying22 B7 (CX type28) Fv rfl (by decide) (by decide) (a0.Ag ((((((am.Ab az).Ab av).Ab aA).Ab ak).Ab an).Ab ao)) cd rfl rfl rfl rfl fun ez eA hp ci eB eC=>?_);refine Ce 10 ht underlying24 Ck rfl rfl rfl rfl (JG.one (i:=9) rfl (by decide+kernel) ?_);refine Take.app (pp:=(rL rI)) (jp:=2) 4 6 eC rfl bx rfl rfl rfl rfl rfl rfl rfl underlying22 underlying22 B7 (CX type28) Fv rfl (by decide) (by decide) (a1.Ag ((((((am.Ab az).Ab av).Ab aA).Ab ak).Ab an).Ab ao)) ex rfl rfl rfl rfl fun eD eE hq ck eF eG=>Cp [11,12,13] (EM 3 rfl eG fun eH=>?_);refine JS.drop 3 eH rfl fun eI=>EM 4 rfl eI fun eJ=>JS.drop 4 eJ rfl fun eK=>Cg (S':= [[(bk,.cells #[sV aB V.2.1 aC,iV V.2.2.1,.int .u64 ((V.2.2.2:Nat):Int)] 92 (0,0))],[(U,.cells #[nS,nS] 24 (0,0))],[(O,.cells #[sV Y K.1 Z,sV aa K.2.1 ab] 24 (0,0))],[],[],cc,ew,ci,ck]) rfl eK fun eL=>BF 2 eL Ck fun eM=>?_;refine Bu underlying24 Ck rfl rfl rfl (BF 2 eM Ck fun eN=>?_);obtain⟨eO,eP,eQ⟩:=bs bz;refine zg 4 rfl (Bg eP rfl rfl rfl ?_);refine zg 2 rfl (JS.drop 5 eN rfl fun eR=>?_);refine JS.drop 6 eR rfl fun eS=>?_;obtain rfl:=oi eQ;exact AB (be _ _ (bu,bw,V.2.1,V.2.2.1,V.2.2.2,eO) ⟨aD,ez,eA,ci,eD,eE,ck,aB,aC,rfl,rfl,(((((((aZ.Ab am).Ab az).Ab av).Ab aA).Ab ak).Ab an).Ab ao),eS,eB,eF,br⟩ aR) rfl
      ·refine Take.lit (pp:=(rL rI)) (jp:=2) [sV aK V.1 aL] ([V.1]:List (List Int)) aS rfl rfl rfl rfl underlying22 B7 Fv (by decide) rfl rfl rfl ⟨⟨_,_,rfl,bq⟩,trivial⟩ fun hr eT eU eV=>JG.one (i:=3) rfl (by decide+kernel) (Take.lit (pp:=(rL rI)) (jp:=2) [sV aw ai.1 ay] ([ai.1]:List (List Int)) eV rfl rfl rfl rfl underlying22 B7 Fv (by decide) rfl rfl rfl ⟨⟨_,_,rfl,(b9.Ag ((ak.Ab an).Ab ao))⟩,trivial⟩ fun hu eW eX eY=>?_);refine JG.one (i:=4) rfl (by decide+kernel) (Take.app (pp:=(rL rI)) (jp:=2) 3 6 eY rfl bv rfl rfl rfl rfl rfl rfl rfl underlying22 underlying22 B7 (CX type28) Fv rfl (by decide) (by decide) (a0.Ag ((((((am.Ab az).Ab av).Ab aA).Ab ak).Ab an).Ab ao)) eX rfl rfl rfl rfl fun eZ e0 hv cm e1 e2=>?_);refine Ce 10 ht underlying24 Ck rfl rfl rfl rfl (JG.one (i:=9) rfl (by decide+kernel) ?_);refine Take.app (pp:=(rL rI)) (jp:=2) 4 5 e2 rfl bx rfl rfl rfl rfl rfl rfl rfl underlying22 underlying22 B7 (CX type28) Fv rfl (by decide) (by decide) (a1.Ag ((((((am.Ab az).Ab av).Ab aA).Ab ak).Ab an).Ab ao)) eU rfl rfl rfl rfl fun e3 e4 hw cn e5 e6=>Cp [11,12,13] (EM 3 rfl e6 fun e7=>?_);refine JS.drop 3 e7 rfl fun e8=>EM 4 rfl e8 fun e9=>JS.drop 4 e9 rfl fun fa=>Cg (S':= [[(bk,.cells #[sV aB V.2.1 aC,iV V.2.2.1,.int .u64 ((V.2.2.2:Nat):Int)] 92 (0,0))],[(U,.cells #[nS,nS] 24 (0,0))],[(O,.cells #[sV Y K.1 Z,sV aa K.2.1 ab] 24 (0,0))],[],[],eT,eW,cm,cn]) rfl fa fun fb=>BF 2 fb Ck fun fc=>?_;refine Bu underlying24 Ck rfl rfl rfl (BF 2 fc Ck fun fd=>?_);obtain⟨fe,ff,fg⟩:=bs bz;refine zg 4 rfl (Bg ff rfl rfl rfl ?_);refine zg 2 rfl (JS.drop 5 fd rfl fun fh=>?_);refine JS.drop 6 fh rfl fun fj=>?_;obtain rfl:=oi fg;exact AB (be _ _ (bu,bw,V.2.1,V.2.2.1,V.2.2.2,fe) ⟨aD,eZ,e0,cm,e3,e4,cn,aB,aC,rfl,rfl,(((((((aZ.Ab am).Ab az).Ab av).Ab aA).Ab ak).Ab an).Ab ao),fj,e1,e5,br⟩ aR) rfl
     ·intro fk;refine JL.block (CP dU (fun L s ah=>∃(aE:LH) (aT:Ap) (aU:Nat) (aF:Ap) (aG:Nat),Jn bp H aE [bX bk #[sV aT ah.1 aU,iV ah.2.1,.int .u64 ((ah.2.2.1:Nat):Int)] 92,bX U #[nS,nS] 24,bX O #[sV Y K.1 Z,sV aa K.2.1 ab] 24,ae,ag] [(0,pV bk 0),(4,pV U 0),(5,pV O 0),(6,iV al.1),(7,iV K.2.2.2.2.2),(8,sV aw ai.1 ay),(9,sV aF ah.2.2.2.1 aG),(10,iV ah.2.2.2.2)] L s (An rI aE aT aU ah.1∧An rI aE aF aG ah.2.2.2.1)) ⟨bp,ca,cb,none,0,rfl,rfl,Aq,dT,dR,An.nil⟩ ?_);rintro _ _ ah ⟨aE,aT,aU,aF,aG,rfl,rfl,co,cp,cq,bA⟩ fm ⟨hx,bB⟩ fo;have cr:=bB;unfold LF at cr;obtain⟨fp,fq,fs⟩:=bs cr;refine zg 6 rfl (Fx [] (fun L s=>∃(bC:LH),Jm aE H bC [bX bk #[sV aT ah.1 aU,iV ah.2.1,.int .u64 ((ah.2.2.1:Nat):Int)] 92,bX U #[nS,nS] 24,bX O #[sV Y K.1 Z,sV aa K.2.1 ab] 24,ae,ag] [(0,pV bk 0),(4,pV U 0),(5,pV O 0),(6,iV al.1),(7,iV K.2.2.2.2.2),(8,sV aw ai.1 ay),(9,sV aF ah.2.2.2.1 aG),(10,iV ah.2.2.2.2),(50,.bool fp)] L s) ?_ ?_)
      ·rintro _ _ ⟨bC,rfl,rfl,aH,ct⟩;refine JL.done (BL fs (fun fu fv=>?_) (fun fu fw=>?_))
       ·obtain⟨fx,fy,fz⟩:=bs fv;refine zg 7 rfl (BW fy rfl rfl rfl ?_);refine Az (v:=iV (max (0) fx)) rfl (fun ρ h=>Yl.max2 (h _ _ rfl) (h _ _ rfl)) ?_;obtain⟨hy,fA,fB⟩:=bs fz;refine BP 0 (Gy (cq.Ag aH) fA) rfl rfl Gl ct rfl ?_;rintro _ hz _ bD ⟨hA,hB,rfl,rfl,fC⟩ fD;obtain⟨hC,fE,fF⟩:=bs fB;refine zg 6 rfl (BP 0 (JR fC fE) rfl rfl Jc fD rfl ?_);rintro _ cu _ bE ⟨fG,fH,rfl,rfl,cv⟩ cw;obtain⟨aj,fI,fJ⟩:=bs fF;refine JL.done (Bs (fun L s=>∃(aV:LH) (aM:Ap) (aN:Nat),Jn cu H aV [bX bk #[sV aM aj.2.1 aN,iV aj.2.2.1,.int .u64 ((aj.2.2.2:Nat):Int)] 92,bX U #[nS,nS] 24,bX O #[sV Y K.1 Z,sV aa K.2.1 ab] 24,ae,ag] [(0,pV bk 0),(4,pV U 0),(5,pV O 0),(6,iV al.1),(7,iV K.2.2.2.2.2),(8,sV aw ai.1 ay),(9,sV aF ah.2.2.2.1 aG),(10,iV ah.2.2.2.2),(11,iV aj.1)] L s (An rI aV aM aN aj.2.1)) ?_ ?_)
        ·rintro _ _ ⟨aV,aM,aN,rfl,rfl,bF,cy,fK⟩;obtain⟨bG,fL,fM⟩:=bs fJ;refine zg 6 rfl (Bs (fun L s=>∃(a6:LH) (a7:Ap) (a8:Nat),Jn aV H a6 [bX bk #[sV aM aj.2.1 aN,iV aj.2.2.1,.int .u64 ((aj.2.2.2:Nat):Int)] 92,bX U #[nS,nS] 24,bX O #[sV Y K.1 Z,sV aa K.2.1 ab] 24,ae,ag] [(0,pV bk 0),(4,pV U 0),(5,pV O 0),(6,iV al.1),(7,iV K.2.2.2.2.2),(8,sV aw ai.1 ay),(9,sV a7 bG a8),(10,iV ah.2.2.2.2)] L s (An rI a6 a7 a8 bG)) ?_ ?_)
         ·rintro _ _ ⟨a6,a7,a8,rfl,rfl,cz,fN,fO⟩;obtain⟨fP,fQ,fR⟩:=bs fM;refine zg 3 rfl (BW fQ rfl rfl rfl ?_);refine zg 2 rfl ?_;obtain rfl:=oi fR;exact AB (fo _ _ (aj.2.1,aj.2.2.1,aj.2.2.2,bG,fP) ⟨a6,aM,aN,a7,a8,rfl,rfl,(((((co.Ab aH).Ab bD).Ab bE).Ab bF).Ab cz),fN,(fK.Ag cz),fO⟩ bB) rfl
         ·intro cA;refine AS fL (fun fS fT=>?_) (fun fS fU=>?_)
          ·obtain⟨hD,fW,fX⟩:=bs fT;refine zg 3 rfl (BH (QQ (bA.Ag (((aH.Ab bD).Ab bE).Ab bF)) fW) rfl rfl (AX func98 rfl) cy ?_);rintro _ fY _ fZ ⟨ga,gb,rfl,rfl,gc⟩ gd;refine Cg (S':= [[(bk,.cells #[sV aM aj.2.1 aN,iV aj.2.2.1,.int .u64 ((aj.2.2.2:Nat):Int)] 92 (0,0))],[(U,.cells #[nS,nS] 24 (0,0))],[(O,.cells #[sV Y K.1 Z,sV aa K.2.1 ab] 24 (0,0))],ae,ag,[]]) rfl gd fun ge=>zg 2 rfl ?_;obtain rfl:=oi fX;exact AB (cA _ _ ⟨fY,ga,gb,rfl,rfl,fZ,ge,gc⟩) rfl
          ·refine JL.skip ?_;obtain rfl:=oi fU;exact AB (cA _ _ ⟨aV,aF,aG,rfl,rfl,Aq,cy,(bA.Ag (((aH.Ab bD).Ab bE).Ab bF))⟩) rfl
        ·intro cB;refine BL fI (fun gf gg=>?_) (fun gf gh=>?_)
         ·obtain⟨hE,gi,gj⟩:=bs gg;refine zg 3 rfl (BW gi rfl rfl rfl ?_);obtain⟨bH,gk,gl⟩:=bs gj;refine BP 0 (Gy cv gk) rfl rfl Gl cw rfl ?_;rintro _ gm _ gn ⟨cC,cD,rfl,rfl,gp⟩ gq;refine Cg (S':= [[(bk,.cells #[sV cC bH.2.1 cD,iV bH.2.2.1,.int .u64 ((bH.2.2.2:Nat):Int)] 92 (0,0))],[(U,.cells #[nS,nS] 24 (0,0))],[(O,.cells #[sV Y K.1 Z,sV aa K.2.1 ab] 24 (0,0))],ae,ag]) rfl gq fun gr=>zg 2 rfl ?_;obtain rfl:=oi gl;exact AB (cB _ _ ⟨gm,cC,cD,rfl,rfl,gn,gr,gp⟩) rfl
         ·refine JL.skip ?_;obtain rfl:=oi gh;exact AB (cB _ _ ⟨cu,fG,fH,rfl,rfl,Aq,cw,cv⟩) rfl
       ·refine JL.exit rfl ?_;obtain rfl:=oi fw;obtain rfl:=fm _ bB;exact AB (fk _ _ ⟨bC,aF,aG,aT,aU,rfl,rfl,(co.Ab aH),ct,(bA.Ag aH),(cq.Ag aH)⟩) rfl
      ·intro cE;refine Er 47 fq (fun gt gu=>?_) (fun gt gv=>?_)
       ·refine zg 3 rfl ?_;obtain rfl:=oi gu;exact AB (cE _ _ ⟨aE,rfl,rfl,Aq,cp⟩) rfl
       ·refine zg 3 rfl ?_;obtain rfl:=oi gv;exact AB (cE _ _ ⟨aE,rfl,rfl,Aq,cp⟩) rfl
    ·intro cF;refine BL dH (fun gw gx=>?_) (fun gw gy=>?_)
     ·obtain⟨hF,gz,gA⟩:=bs gx;refine zg 3 rfl (BW gz rfl rfl rfl ?_);obtain⟨aW,gB,gC⟩:=bs gA;refine BP 0 (Gy b7 gB) rfl rfl Gl b8 rfl ?_;rintro _ hG _ gD ⟨cG,cH,rfl,rfl,gE⟩ gF;refine JS.lit (pp:=rI) [iV aW.1] [aW.1] rfl rfl rfl underlying28 A3 Cn (by decide) rfl rfl rfl ⟨rfl,trivial⟩ gF fun gG hH gH gI=>zg 2 rfl (Cb 5 gH gI rfl fun gJ cI gK gL=>?_);refine Cg (S':= [[(bk,.cells #[sV cG aW.2.1 cH,iV aW.2.2.1,.int .u64 ((aW.2.2.2:Nat):Int)] 92 (0,0))],[(U,.cells #[nS,nS] 24 (0,0))],[(O,.cells #[sV Y K.1 Z,sV aa K.2.1 ab] 24 (0,0))],ae,ag,[]]) rfl gL fun gM=>?_;obtain rfl:=oi gC;exact AB (cF _ _ ⟨gJ,(Bc gG),1,cG,cH,rfl,rfl,(gD.Ab cI),gM,gK,(gE.Ag cI)⟩) rfl
     ·refine JL.skip ?_;obtain rfl:=oi gy;exact AB (cF _ _ ⟨b4,a3,a4,b5,b6,rfl,rfl,Aq,b8,(dC.Ag av),b7⟩) rfl
   ·intro cJ;refine BL dz (fun gN gO=>?_) (fun gN gP=>?_)
    ·obtain⟨hI,gQ,gR⟩:=bs gO;refine zg 5 rfl (BW gQ rfl rfl rfl ?_);obtain⟨bI,gS,gT⟩:=bs gR;refine BP 0 (Nu b2 gS) rfl rfl Mj b3 rfl ?_;rintro _ hJ _ cK ⟨cM,cN,rfl,rfl,gU⟩ gV;refine Cg (S':= [[(bk,.cells #[sV cM bI.2.1 cN,iV bI.2.2.1,.int .u64 ((bI.2.2.2:Nat):Int)] 92 (0,0))],[(U,.cells #[nS,nS] 24 (0,0))],[(O,.cells #[sV Y K.1 Z,sV aa K.2.1 ab] 24 (0,0))],ae,ag,du]) rfl gV fun gW=>Cb 5 (bZ.Ag (am.Ab cK)) gW rfl fun hK cO gX gY=>?_;obtain⟨hL,gZ,g0⟩:=bs gT;refine BH (QQ gX gZ) rfl rfl (AX func98 rfl) gY ?_;rintro _ g1 _ cP ⟨g3,g4,rfl,rfl,g5⟩ g6;refine zg 2 rfl ?_;obtain rfl:=oi g0;exact AB (cJ _ _ ⟨g1,g3,g4,cM,cN,rfl,rfl,((cK.Ab cO).Ab cP),g6,g5,(gU.Ag (cO.Ab cP))⟩) rfl
    ·refine JL.skip (Cb 5 (bZ.Ag am) b3 rfl fun g7 cQ g8 g9=>?_);refine Cg (S':= [[(bk,.cells #[sV b0 bh.2.1 b1,iV bh.2.2.1,.int .u64 ((bh.2.2.2:Nat):Int)] 92 (0,0))],[(U,.cells #[nS,nS] 24 (0,0))],[(O,.cells #[sV Y K.1 Z,sV aa K.2.1 ab] 24 (0,0))],ae,ag,[]]) rfl g9 fun ha=>?_;obtain rfl:=oi gP;exact AB (cJ _ _ ⟨g7,(Bc dt),1,b0,b1,rfl,rfl,cQ,ha,g8,(b2.Ag cQ)⟩) rfl
  ·refine JL.exit rfl ?_;obtain rfl:=oi dm;obtain rfl:=dj _ aR;exact AB (di _ _ ⟨aI,aX,aY,Y,Z,ae,aa,ab,ag,rfl,rfl,aZ,bV,bW,a0,a1⟩) rfl
def LG(fuel:Nat)(p1:BI)(U:Int×(B4))(K:(List Int)×Int×Nat×Int×Int):Option (Bi ((List Int)×Int×Nat×Int×Int) (Int×B4)):= if K.2.2.2.2<U.1 then((ix p1.1 K.2.2.2.1).bind fun V=> (f99 fuel (K.1,K.2.1,K.2.2.1) V).bind fun O=> (Av (K.2.2.2.2+1)).bind fun W=> some (.more (O.2.1,O.2.2.1,O.2.2.2,O.1,W))) else(some (.done (K.2.2.2.1,K.1,K.2.1,K.2.2.1)))
def Lu(fuel:Nat)(p1:BI)(p2:Int)(K:(List Int)×Int×Nat×Int×(List Int)×Int):Option (Bi ((List Int)×Int×Nat×Int×(List Int)×Int) ((List Int)×B4)):= if K.2.2.2.2.2<p2 then((room K.2.2.2.2.1 K.2.2.2.1).bind fun U=> (ix p1.1 K.2.2.2.1).bind fun V=> (f99 fuel (K.1,K.2.1,K.2.2.1) V).bind fun O=> (Av (K.2.2.2.2.2+1)).bind fun W=> some (.more (O.2.1,O.2.2.1,O.2.2.2,O.1,U,W))) else(some (.done (K.2.2.2.2.1,K.1,K.2.1,K.2.2.1)))
def f45(fuel:Nat)(p0:B4)(p1:BI)(p2:Int):Option (Int×(List Int)×(B4)):= (f41 fuel p0 6).bind fun K=> Option.bind (iter (LG fuel p1 K) fuel (K.2.1,K.2.2.1,K.2.2.2,0,0)) fun O=> Option.bind (iter (Lu fuel p1 p2) fuel (O.2.1,O.2.2.1,O.2.2.2,O.1,[],0)) fun U=> some (K.1,U.1,U.2)
theorem Wo{bk:Nat}{aH:Ap}{c2:Nat}{aI:Ap}{aJ:Nat}{aK:Ap}{aL:Nat}{p0:B4}{p1:BI}{p2:Int}(a2:An rI E aH c2 p0.1)(aM:An (rL rI) E aI aJ p1.1)(cg:An (rL rI) E aK aL p1.2){fuel:Nat}{r:Int×(List Int)×(B4)}(aN:f45 fuel p0 p1 p2=some r):AP J 45 [pV bk 0,.agg #[sV aI p1.1 aJ,sV aK p1.2 aL],iV p2] E [(bk,.cells #[sV aH p0.1 c2,iV p0.2.1,.int .u64 ((p0.2.2:Nat):Int)] 92 (0,0))] (fun w E' B'=>∃(aO:Ap) (aP:Nat) (aQ:Ap) (aR:Nat),w= .tuple #[iV r.1,sV aO r.2.1 aP]∧B'= [(bk,.cells #[sV aQ r.2.2.1 aR,iV r.2.2.2.1,.int .u64 ((r.2.2.2.2:Nat):Int)] 92 (0,0))]∧An rI E' aO aP r.2.1∧An rI E' aQ aR r.2.2.1):=by
 refine A9 func45 fun Q ci cs H a3 a4=>?_;unfold f45 at aN;refine zg 2 rfl (CB a3 fun aB ck ae aS a5=>?_);obtain⟨ag,a6,a7⟩:=bs aN;refine zg 6 rfl (BP 0 (Gy (a2.Ag ae) a6) rfl rfl Gl a5 rfl ?_);rintro _ aC _ W ⟨a8,a9,rfl,rfl,ba⟩ bb;obtain⟨Y,bc,bd⟩:=bs a7;refine zg 8 rfl (Bs (fun L s=>∃(U:LH) (ah:Ap) (ai:Nat),Jn aC H U [bX bk #[sV ah Y.2.1 ai,iV Y.2.2.1,.int .u64 ((Y.2.2.2:Nat):Int)] 92] [(0,pV bk 0),(2,iV p2),(4,pV aB 0),(8,iV ag.1),(9,iV Y.1)] L s (An rI U ah ai Y.2.1)) ?_ ?_)
 ·rintro _ _ ⟨U,ah,ai,rfl,rfl,aD,be,bf⟩;obtain⟨V,bg,bh⟩:=bs bd;refine zg 9 rfl (Bs (fun L s=>∃(aj:LH) (ak:Ap) (al:Nat) (aE:Seg) (am:Ap) (an:Nat),Jn U H aj [bX bk #[sV am V.2.1 an,iV V.2.2.1,.int .u64 ((V.2.2.2:Nat):Int)] 92,aE] [(8,iV ag.1),(11,sV ak V.1 al)] L s (OL 3 rI aj ak al aE V.1∧An rI aj am an V.2.1)) ?_ ?_)
  ·rintro _ _ ⟨aj,ak,al,aE,am,an,rfl,rfl,bi,bj,bl,bm⟩;refine zg 7 rfl (Cb 1 bl bj rfl fun cm aT bn bo=>?_);obtain rfl:=oi bh;exact AN func45 rfl rfl (a4 ((((ae.Ab W).Ab aD).Ab bi).Ab aT) rfl ⟨ak,al,am,an,rfl,rfl,bn,(bm.Ag aT)⟩ bo)
  ·intro bp;refine JL.block (CP bg (fun L s K=>∃(Z:LH) (ao:Ap) (ap:Nat) (aa:Ap) (ab:Nat) (aq:Seg),Jn U H Z [bX bk #[sV ao K.1 ap,iV K.2.1,.int .u64 ((K.2.2.1:Nat):Int)] 92,aq] [(0,pV bk 0),(2,iV p2),(4,pV aB 0),(8,iV ag.1),(9,iV K.2.2.2.1),(11,sV aa K.2.2.2.2.1 ab),(12,iV K.2.2.2.2.2)] L s (An rI Z ao ap K.1∧OL 3 rI Z aa ab aq K.2.2.2.2.1)) ⟨U,ah,ai,none,0,[],rfl,rfl,Aq,be,bf,OL.nil⟩ ?_);rintro _ _ K ⟨Z,ao,ap,aa,ab,aq,rfl,rfl,ar,aU,aV,aW⟩ bq ⟨cn,aF⟩ br;have aX:=aF;unfold Lu at aX;refine zg 7 rfl (AS aX (fun bu bv=>?_) (fun bu bw=>?_))
   ·obtain⟨bx,bz,bA⟩:=bs bv;refine zg 7 rfl (JS.app (pp:=rI) (v:=iV K.2.2.2.1) (a:=aa) (c:=ab) 1 bz rfl rfl rfl rfl (fun _=>rfl) rfl (fun _=>rfl) rfl rfl rfl underlying28 underlying28 underlying28 A3 (CX type3) Cn rfl (by decide) (by decide) (by decide) (by decide) aW rfl aU rfl fun co bB bC bD bE bF=>?_);refine zg 4 rfl (JL.fl 0 (aS.Ag ((W.Ab aD).Ab ar)) underlying24 Ck C6 ?_);obtain⟨cp,bG,bH⟩:=bs bA;refine zg 1 rfl (Cf (aM.Ag (((ae.Ab W).Ab aD).Ab ar)) bG underlying22 B7 ?_);rintro cq cr _ ⟨ct,cu,rfl,bI⟩ bJ;refine BV 0 bJ DC rfl rfl rfl ?_;obtain⟨au,bK,bL⟩:=bs bH;refine BP 0 (LU aV bI bK) rfl rfl Kn bF rfl ?_;rintro _ bM _ aY ⟨bN,bO,rfl,rfl,bP⟩ bQ;obtain⟨bR,bS,bT⟩:=bs bL;refine zg 5 rfl (Bg bS rfl rfl rfl ?_);refine zg 2 rfl ?_;obtain rfl:=oi bT;exact AB (br _ _ (au.2.1,au.2.2.1,au.2.2.2,au.1,bx,bR) ⟨bM,bN,bO,bB,bC,bD,rfl,rfl,(ar.Ab aY),bQ,bP,(bE.Ag aY)⟩ aF) rfl
   ·refine JL.exit rfl ?_;obtain rfl:=oi bw;obtain rfl:=bq _ aF;exact AB (bp _ _ ⟨Z,aa,ab,aq,ao,ap,rfl,rfl,ar,aU,aW,aV⟩) rfl
 ·intro bU;refine JL.block (CP bc (fun L s O=>∃(av:LH) (aw:Ap) (ay:Nat),Jn aC H av [bX bk #[sV aw O.1 ay,iV O.2.1,.int .u64 ((O.2.2.1:Nat):Int)] 92] [(0,pV bk 0),(2,iV p2),(4,pV aB 0),(8,iV ag.1),(9,iV O.2.2.2.1),(10,iV O.2.2.2.2)] L s (An rI av aw ay O.1)) ⟨aC,a8,a9,rfl,rfl,Aq,bb,ba⟩ ?_);rintro _ _ O ⟨av,aw,ay,rfl,rfl,az,aZ,a0⟩ bV ⟨cv,aG⟩ bW;have a1:=aG;unfold LG at a1;refine zg 7 rfl (AS a1 (fun bY bZ=>?_) (fun bY b0=>?_))
  ·refine zg 5 rfl (JL.fl 0 (aS.Ag (W.Ab az)) underlying24 Ck C6 ?_);obtain⟨cw,b1,b2⟩:=bs bZ;refine zg 1 rfl (Cf (aM.Ag ((ae.Ab W).Ab az)) b1 underlying22 B7 ?_);rintro cy cz _ ⟨cA,cB,rfl,b3⟩ b4;refine BV 0 b4 DC rfl rfl rfl ?_;obtain⟨aA,b5,b6⟩:=bs b2;refine BP 0 (LU a0 b3 b5) rfl rfl Kn aZ rfl ?_;rintro _ b7 _ b8 ⟨b9,ca,rfl,rfl,cb⟩ cc;obtain⟨cd,ce,cf⟩:=bs b6;refine zg 5 rfl (Bg ce rfl rfl rfl ?_);refine zg 2 rfl ?_;obtain rfl:=oi cf;exact AB (bW _ _ (aA.2.1,aA.2.2.1,aA.2.2.2,aA.1,cd) ⟨b7,b9,ca,rfl,rfl,(az.Ab b8),cc,cb⟩ aG) rfl
  ·refine JL.exit rfl ?_;obtain rfl:=oi b0;obtain rfl:=bV _ aG;exact AB (bU _ _ ⟨av,aw,ay,rfl,rfl,az,aZ,a0⟩) rfl
def Nk(fuel:Nat)(p1:BI)(p2:List Int)(p4:Bool)(K:(List Int)×Int×Nat×(AY)×Int×Int):Option (Bi ((List Int)×Int×Nat×(AY)×Int×Int) ((AY)×B4)):= if 0<K.2.2.2.2.2 then((Av ((p2.length:Int) - 1)).bind fun Z=> (Av (K.2.2.2.2.1+2)).bind fun aa=> (f96 fuel (K.1,K.2.1,K.2.2.1) K.2.2.2.2.1 (min Z aa)).bind fun O=> (ix p2 O.1).bind fun ab=> (ix p2 O.1).bind fun ae=> (ix p1.2 ae).bind fun Y=> Option.bind (if p4=true then(some (decide (0<(Y.length:Int)))) else(some false)) fun ag=> Option.bind (if ag=true then((f97 fuel O.2 2).bind fun ah=> some ah) else(some (false,O.2.1,O.2.2.1,O.2.2.2))) fun U=> Option.bind (if U.1=true then((f99 fuel U.2 Y).bind fun V=> some (V.2.1,V.2.2.1,V.2.2.2,V.1)) else(some (U.2.1,U.2.2.1,U.2.2.2,ab))) fun W=> (room K.2.2.2.1 (O.1,W.2.2.2)).bind fun ai=> (Av (K.2.2.2.2.2 - 1)).bind fun aj=> some (.more (W.1,W.2.1,W.2.2.1,ai,O.1,aj))) else(some (.done (K.2.2.2.1,K.1,K.2.1,K.2.2.1)))
def f46(fuel:Nat)(p0:B4)(p1:BI)(p2:List Int)(p3:Int)(p4:Bool):Option ((AY)×(B4)):= (f41 fuel p0 p3).bind fun K=> Option.bind (iter (Nk fuel p1 p2 p4) fuel (K.2.1,K.2.2.1,K.2.2.2,[],0,K.1)) fun O=> some O
theorem Wc{bk:Nat}{aJ:Ap}{c2:Nat}{aK:Ap}{aL:Nat}{aM:Ap}{aN:Nat}{Z:Ap}{aa:Nat}{p0:B4}{p1:BI}{p2:List Int}{p3:Int}{p4:Bool}(be:An rI E aJ c2 p0.1)(cR:An (rL rI) E aK aL p1.1)(bf:An (rL rI) E aM aN p1.2)(aO:An rI E Z aa p2){fuel:Nat}{r:(AY)×(B4)}(aP:f46 fuel p0 p1 p2 p3 p4=some r):AP J 46 [pV bk 0,.agg #[sV aK p1.1 aL,sV aM p1.2 aN],sV Z p2 aa,iV p3,.bool p4] E [(bk,.cells #[sV aJ p0.1 c2,iV p0.2.1,.int .u64 ((p0.2.2:Nat):Int)] 92 (0,0))] (fun w E' B'=>∃(aQ:Ap) (aR:Nat) (g0:Seg) (aS:Ap) (aT:Nat),w= sV aQ r.1 aR∧B'= [(bk,.cells #[sV aS r.2.1 aT,iV r.2.2.1,.int .u64 ((r.2.2.2:Nat):Int)] 92 (0,0))]++g0∧OL 27 BE E' aQ aR g0 r.1∧An rI E' aS aT r.2.1):=by
 refine A9 func46 fun Q cT cs H bg bh=>?_;unfold f46 at aP;refine zg 2 rfl (CB bg fun ao cV ai bi bj=>?_);obtain⟨cW,bl,bm⟩:=bs aP;refine zg 15 rfl (BP 0 (Gy (be.Ag ai) bl) rfl rfl Gl bj rfl ?_);rintro _ aF _ aj ⟨bn,bo,rfl,rfl,bp⟩ bq;obtain⟨ab,br,bu⟩:=bs bm;refine zg 2 rfl (Bs (fun L s=>∃(ap:LH) (aq:Ap) (ar:Nat) (au:Seg) (av:Ap) (aw:Nat),Jn aF H ap [bX bk #[sV av ab.2.1 aw,iV ab.2.2.1,.int .u64 ((ab.2.2.2:Nat):Int)] 92,au] [(11,sV aq ab.1 ar)] L s (OL 27 BE ap aq ar au ab.1∧An rI ap av aw ab.2.1)) ?_ ?_)
 ·rintro _ _ ⟨ap,aq,ar,au,av,aw,rfl,rfl,bv,bw,bx,bz⟩;refine zg 5 rfl ?_;obtain rfl:=oi bu;exact AN func46 rfl rfl (bh ((ai.Ab aj).Ab bv) rfl ⟨aq,ar,au,av,aw,rfl,(by first | rfl | simp | (simp [Value.cells])),bx,bz⟩ bw)
 ·intro bA;refine JL.block (CP br (fun L s K=>∃(ak:LH) (ay:Ap) (az:Nat) (V:Ap) (W:Nat) (Y:Seg),Jn aF H ak [bX bk #[sV ay K.1 az,iV K.2.1,.int .u64 ((K.2.2.1:Nat):Int)] 92,Y] [(0,pV bk 0),(2,sV Z p2 aa),(4,.bool p4),(6,pV ao 0),(11,sV V K.2.2.2.1 W),(12,iV K.2.2.2.2.1),(13,iV K.2.2.2.2.2)] L s (An rI ak ay az K.1∧OL 27 BE ak V W Y K.2.2.2.1)) ⟨aF,bn,bo,none,0,[],rfl,rfl,Aq,bq,bp,OL.nil⟩ ?_);rintro _ _ K ⟨ak,ay,az,V,W,Y,rfl,rfl,ae,aU,aV,aW⟩ bB ⟨cX,aG⟩ bC;have aX:=aG;unfold Nk at aX;refine zg 6 rfl (AS aX (fun bD bE=>?_) (fun bD bF=>?_))
  ·refine zg 8 rfl (Bx underlying28 rfl rfl rfl ?_);obtain⟨bG,bH,bI⟩:=bs bE;refine BW bH rfl rfl rfl ?_;obtain⟨bJ,bK,bL⟩:=bs bI;refine zg 1 rfl (Bg bK rfl rfl rfl ?_);refine Az (v:=iV (min bG bJ)) rfl (fun ρ h=>Yl.min2 (h _ _ rfl) (h _ _ rfl)) ?_;obtain⟨O,bM,bN⟩:=bs bL;refine BP 0 (Nu aV bM) rfl rfl Mj aU rfl ?_;rintro _ cY _ ag ⟨aY,aZ,rfl,rfl,a0⟩ bO;obtain⟨aH,bP,bQ⟩:=bs bN;refine zg 7 rfl (Cf (aO.Ag (((ai.Ab aj).Ab ae).Ab ag)) bP underlying28 A3 ?_);rintro cZ c0 _ rfl bR;refine BV 0 bR Bw rfl rfl rfl (Az (v:= .agg #[iV O.1,iV aH]) rfl (fun ρ h=>CO [(0,1),(1,1)] h FG underlying27 ⟨rfl,Bm type3,rfl,Bm type3,trivial⟩ rfl rfl) ?_);refine Cr bO FG fun ah bS=>?_;refine BF 2 bS CK fun a1=>?_;refine zg 3 rfl (Ep 6 fun ht=>?_);refine Ce 0 ht underlying24 Ck rfl rfl rfl rfl (DR 1 ht 1 (bi.Ag ((aj.Ab ae).Ab ag)) C6 rfl rfl rfl rfl ?_);refine Bp ht rfl [2,3] rfl ?_;obtain⟨c1,bT,bU⟩:=bs bQ;refine Hk 4 (aO.Ag (((ai.Ab aj).Ab ae).Ab ag)) bT ht underlying28 A3 ?_;rintro c3 c4 _ rfl bV;refine DR 5 ht 0 bV Bw rfl rfl rfl rfl (Cp [6,7,8] ?_);obtain⟨a2,bW,bY⟩:=bs bU;refine Cf (bf.Ag (((ai.Ab aj).Ab ae).Ab ag)) bW underlying22 B7 ?_;rintro c5 c6 _ ⟨a3,a4,rfl,bZ⟩ b0;refine BV 0 b0 DC rfl rfl rfl ?_;obtain⟨b1,b2,b3⟩:=bs bY;refine zg 6 rfl (C3 6 4 [bX bk #[sV aY O.2.1 aZ,iV O.2.2.1,.int .u64 ((O.2.2.2:Nat):Int)] 92,Y,bX ah #[iV O.1,iV aH] 27] [(0,pV bk 0),(2,sV Z p2 aa),(4,.bool p4),(6,pV ao 0),(11,sV V K.2.2.2.1 W),(12,iV O.1),(13,iV K.2.2.2.2.2),(14,pV ah 0),(15,sV a3 a2 a4),(51,.bool b1)] (fun a5 al a6=>?_) (fun a7=>?_))
   ·obtain⟨am,b4,b5⟩:=bs b3;refine zg 1 rfl (Fx [] (fun L s=>∃(an:LH) (aA:Ap) (aB:Nat),Jn a5 H an [bX bk #[sV aA am.2.1 aB,iV am.2.2.1,.int .u64 ((am.2.2.2:Nat):Int)] 92,Y,bX ah #[iV O.1,iV aH] 27] [(0,pV bk 0),(2,sV Z p2 aa),(4,.bool p4),(6,pV ao 0),(11,sV V K.2.2.2.1 W),(12,iV O.1),(13,iV K.2.2.2.2.2),(14,pV ah 0),(15,sV a3 a2 a4),(55,.bool am.1)] L s (An rI an aA aB am.2.1)) ?_ ?_)
    ·rintro _ _ ⟨an,aA,aB,rfl,rfl,aI,a8,a9⟩;obtain⟨U,b6,b7⟩:=bs b5;refine JL.done (Bs (fun L s=>∃(aC:LH) (aD:Ap) (aE:Nat),Jn an H aC [bX bk #[sV aD U.1 aE,iV U.2.1,.int .u64 ((U.2.2.1:Nat):Int)] 92,Y,bX ah #[iV O.1,iV U.2.2.2] 27] [(0,pV bk 0),(2,sV Z p2 aa),(4,.bool p4),(6,pV ao 0),(11,sV V K.2.2.2.1 W),(12,iV O.1),(13,iV K.2.2.2.2.2),(14,pV ah 0)] L s (An rI aC aD aE U.1)) ?_ ?_)
     ·rintro _ _ ⟨aC,aD,aE,rfl,rfl,ba,bb,b8⟩;refine zg 2 rfl (Az rfl (fun ρ h=>EK (vs:= [iV O.1,iV U.2.2.2]) H0 CK (h _ _ rfl) (EG (off:=0) 2 bb rfl rfl)) ?_);obtain⟨b9,ca,cb⟩:=bs b7;refine JS.app (pp:=BE) (v:= .agg #[iV O.1,iV U.2.2.2]) (a:=V) (c:=W) 1 ca rfl rfl rfl rfl (fun _=>rfl) rfl (fun _=>rfl) rfl rfl rfl underlying25 underlying25 underlying25 CK (CX type27) FG rfl (by decide) (by decide) (by decide) (by decide) (aW.Ag (((ag.Ab al).Ab aI).Ab ba)) ⟨_,_,rfl,rfl,rfl⟩ bb rfl fun c7 cc cd ce cf cg=>?_;obtain⟨ci,ck,cm⟩:=bs cb;refine zg 5 rfl (BW ck rfl rfl rfl ?_);refine zg 2 rfl (JS.drop 2 cg rfl fun cn=>?_);obtain rfl:=oi cm;exact AB (bC _ _ (U.1,U.2.1,U.2.2.1,b9,O.1,ci) ⟨aC,aD,aE,cc,cd,ce,rfl,rfl,((((ae.Ab ag).Ab al).Ab aI).Ab ba),cn,b8,cf⟩ aG) rfl
     ·intro bc;refine BL b6 (fun co cp=>?_) (fun co cq=>?_)
      ·obtain⟨c8,cr,ct⟩:=bs cp;refine zg 3 rfl (BP 0 (LU a9 (bZ.Ag (al.Ab aI)) cr) rfl rfl Kn a8 rfl ?_);rintro _ cu _ cv ⟨cw,cy,rfl,rfl,cz⟩ cA;refine Bu underlying27 A3 rfl rfl rfl (BF 2 cA A3 fun cB=>?_);refine JL.done ?_;obtain rfl:=oi ct;exact AB (bc _ _ ⟨cu,cw,cy,rfl,rfl,cv,cB,cz⟩) rfl
      ·refine JL.skip ?_;obtain rfl:=oi cq;exact AB (bc _ _ ⟨an,aA,aB,rfl,rfl,Aq,a8,a9⟩) rfl
    ·intro bd;refine Dr 52 b4 (fun cC cD=>?_) (fun cC cE=>?_)
     ·obtain⟨c9,cF,cG⟩:=bs cD;refine zg 1 rfl (BP 0 (JR (a0.Ag al) cF) rfl rfl Jc a6 rfl ?_);rintro _ cH _ cI ⟨cJ,cK,rfl,rfl,cM⟩ cN;refine zg 1 rfl ?_;obtain rfl:=oi cG;exact AB (bd _ _ ⟨cH,cJ,cK,rfl,rfl,cI,cN,cM⟩) rfl
     ·refine zg 3 rfl ?_;obtain rfl:=oi cE;exact AB (bd _ _ ⟨a5,aY,aZ,rfl,rfl,Aq,a6,(a0.Ag al)⟩) rfl
   ·refine Dr 47 b2 (fun cO cP=>?_) (fun cO cQ=>?_)
    ·refine zg 1 rfl (Bx underlying28 rfl rfl rfl ?_);refine zg 2 rfl ?_;obtain rfl:=oi cP;exact a7 Aq a1 rfl
    ·refine zg 4 rfl ?_;obtain rfl:=oi cQ;exact a7 Aq a1 rfl
  ·refine JL.exit rfl ?_;obtain rfl:=oi bF;obtain rfl:=bB _ aG;exact AB (bA _ _ ⟨ak,V,W,Y,ay,az,rfl,rfl,ae,aU,aW,aV⟩) rfl
def LL(fuel:Nat)(p1:BI)(K:(List Int)×Int×Nat×(AY)×Int):Option (Bi ((List Int)×Int×Nat×(AY)×Int) ((AY)×B4)):= if K.2.2.2.2<(K.2.2.2.1.length:Int) then((f97 fuel (K.1,K.2.1,K.2.2.1) 6).bind fun O=> Option.bind (if O.1=true then((Av ((p1.1.length:Int) - 1)).bind fun W=> (f41 fuel O.2 W).bind fun U=> (ix K.2.2.2.1 K.2.2.2.2).bind fun Y=> some ((K.2.2.2.1.set (Int.toNat K.2.2.2.2) (Y.1,U.1)),U.2.1,U.2.2.1,U.2.2.2)) else(some (K.2.2.2.1,O.2.1,O.2.2.1,O.2.2.2))) fun V=> (Av (K.2.2.2.2+1)).bind fun Z=> some (.more (V.2.1,V.2.2.1,V.2.2.2,V.1,Z))) else(some (.done (K.2.2.2.1,K.1,K.2.1,K.2.2.1)))
def f40(fuel:Nat)(p0:B4)(p1:BI)(p2:Int):Option ((AY)×(B4)):= (f45 fuel p0 p1 5).bind fun O=> (f46 fuel O.2.2 p1 O.2.1 p2 true).bind fun K=> Option.bind (iter (LL fuel p1) fuel (K.2.1,K.2.2.1,K.2.2.2,K.1,0)) fun U=> some U
theorem V4{bk:Nat}{aK:Ap}{c2:Nat}{aA:Ap}{aB:Nat}{aL:Ap}{aM:Nat}{p0:B4}{p1:BI}{p2:Int}(a6:An rI E aK c2 p0.1)(aN:An (rL rI) E aA aB p1.1)(aO:An (rL rI) E aL aM p1.2){fuel:Nat}{r:(AY)×(B4)}(aP:f40 fuel p0 p1 p2=some r):AP J 40 [pV bk 0,.agg #[sV aA p1.1 aB,sV aL p1.2 aM],iV p2] E [(bk,.cells #[sV aK p0.1 c2,iV p0.2.1,.int .u64 ((p0.2.2:Nat):Int)] 92 (0,0))] (fun w E' B'=>∃(aQ:Ap) (aR:Nat) (aS:Ap) (aT:Nat),w= sV aQ r.1 aR∧B'= [(bk,.cells #[sV aS r.2.1 aT,iV r.2.2.1,.int .u64 ((r.2.2.2:Nat):Int)] 92 (0,0))]∧An BE E' aQ aR r.1∧An rI E' aS aT r.2.1):=by
 refine A9 func40 fun Q cg cs H a7 a8=>?_;unfold f40 at aP;refine zg 2 rfl (CB a7 fun ai ci Z aC a9=>?_);refine zg 5 rfl (Cl aC Cx Ca rfl rfl ?_);obtain⟨ck,ba,bb⟩:=bs aP;refine BP 0 (Wo (a6.Ag Z) (aN.Ag Z) (aO.Ag Z) ba) rfl rfl (AX func45 rfl) a9 rfl ?_;rintro _ cm _ ab ⟨cn,co,cp,cq,rfl,rfl,bc,bd⟩ be;refine zg 9 rfl (Cl (aC.Ag ab) Cx Ca rfl rfl ?_);obtain⟨cr,bf,bg⟩:=bs bb;refine zg 2 rfl (BP 0 (Wc bd (aN.Ag (Z.Ab ab)) (aO.Ag (Z.Ab ab)) bc bf) rfl rfl (AX func46 rfl) be rfl ?_);rintro _ aD _ aU ⟨bh,bi,bj,bl,bm,rfl,rfl,bn,bo⟩ bp;refine EM 0 rfl bp fun bq=>?_;obtain⟨aa,br,bu⟩:=bs bg;refine zg 7 rfl (Bs (fun L s=>∃(aj:LH) (ak:Ap) (al:Nat) (aE:Seg) (am:Ap) (an:Nat),Jn aD H aj [bX bk #[sV am aa.2.1 an,iV aa.2.2.1,.int .u64 ((aa.2.2.2:Nat):Int)] 92,aE] [(9,sV ak aa.1 al)] L s (OL 27 BE aj ak al aE aa.1∧An rI aj am an aa.2.1)) ?_ ?_)
 ·rintro _ _ ⟨aj,ak,al,aE,am,an,rfl,rfl,bv,bw,bx,bz⟩;refine zg 5 rfl (Cb 1 bx bw rfl fun ct aV bA bB=>?_);obtain rfl:=oi bu;exact AN func40 rfl rfl (a8 ((((Z.Ab ab).Ab aU).Ab bv).Ab aV) rfl ⟨ak,al,am,an,rfl,rfl,bA,(bz.Ag aV)⟩ bB)
 ·intro bC;refine JL.block (CP br (fun L s K=>∃(ae:LH) (ao:Ap) (ap:Nat) (W:Ap) (Y:Nat) (ag:Seg),Jn aD H ae [bX bk #[sV ao K.1 ap,iV K.2.1,.int .u64 ((K.2.2.1:Nat):Int)] 92,ag] [(0,pV bk 0),(4,pV ai 0),(9,sV W K.2.2.2.1 Y),(10,iV K.2.2.2.2)] L s (An rI ae ao ap K.1∧OL 27 BE ae W Y ag K.2.2.2.1)) ⟨aD,bl,bm,bh,bi,bj,rfl,rfl,Aq,bq,bo,bn⟩ ?_);rintro _ _ K ⟨ae,ao,ap,W,Y,ag,rfl,rfl,aF,aW,aX,aG⟩ bD ⟨cu,aH⟩ bE;have aY:=aH;unfold LL at aY;refine zg 5 rfl (Bx underlying25 rfl rfl rfl ?_);refine zg 2 rfl (AS aY (fun bF bG=>?_) (fun bF bH=>?_))
  ·obtain⟨bI,bJ,bK⟩:=bs bG;refine zg 6 rfl (BP 0 (JR aX bJ) rfl rfl Jc aW rfl ?_);rintro _ aZ _ aq ⟨bL,bM,rfl,rfl,a0⟩ a1;obtain⟨O,bN,bO⟩:=bs bK;refine JL.done (Bs (fun L s=>∃(ah:LH) (ar:Ap) (au:Nat) (av:Seg) (aw:Ap) (ay:Nat),Jn aZ H ah [bX bk #[sV aw O.2.1 ay,iV O.2.2.1,.int .u64 ((O.2.2.2:Nat):Int)] 92,av] [(0,pV bk 0),(4,pV ai 0),(9,sV ar O.1 au),(10,iV K.2.2.2.2)] L s (OL 27 BE ah ar au av O.1∧An rI ah aw ay O.2.1)) ?_ ?_)
   ·rintro _ _ ⟨ah,ar,au,av,aw,ay,rfl,rfl,bP,bQ,bR,bS⟩;obtain⟨bT,bU,bV⟩:=bs bO;refine zg 3 rfl (Bg bU rfl rfl rfl ?_);refine zg 2 rfl ?_;obtain rfl:=oi bV;exact AB (bE _ _ (O.2.1,O.2.2.1,O.2.2.2,O.1,bT) ⟨ah,aw,ay,ar,au,av,rfl,rfl,((aF.Ab aq).Ab bP),bQ,bS,bR⟩ aH) rfl
   ·intro a2;refine BL bN (fun bW bY=>?_) (fun bW bZ=>?_)
    ·refine zg 4 rfl (JL.fl 0 (aC.Ag (((ab.Ab aU).Ab aF).Ab aq)) underlying24 Ck C6 ?_);refine Bx underlying22 rfl rfl rfl ?_;obtain⟨b0,b1,b2⟩:=bs bY;refine BW b1 rfl rfl rfl ?_;obtain⟨U,b3,b4⟩:=bs b2;refine BP 0 (Gy a0 b3) rfl rfl Gl a1 rfl ?_;rintro _ b5 _ a3 ⟨b6,b7,rfl,rfl,b8⟩ b9;obtain⟨V,ca,cb⟩:=bs b4;refine Lg 1 (aG.Ag (aq.Ab a3)) ca rfl rfl rfl rfl rfl rfl underlying25 CK ?_;rintro aI az f138 _ cc ⟨_,_,rfl,rfl,rfl⟩ cd a4 ce cv cw;refine Bu underlying27 A3 rfl rfl rfl (JS.store (v:=iV U.1) (off:=az+1) 1 rfl rfl rfl b9 rfl rfl A3 (by simp [Value.cells,CG]) cc (by have:=a4;simp only [Rp.n,rK,rN,rB,rP,rL] at this;show _+1≤_;omega) fun a5=>?_);rw [RO (m:=1) (ws:= [iV V.1,iV V.2]) (vs:= [iV V.1,iV U.1]) (by have:=a4;simp only [Rp.n,rK,rN,rB,rP,rL] at this;show _+2≤_;omega) cd rfl (Nat.le_of_ble_eq_true rfl)] at a5 ⊢;have cf:=ce ((V.1,U.1)) [iV V.1,iV U.1] ⟨_,_,rfl,rfl,rfl⟩;have aJ:(K.2.2.2.1.set (Int.toNat K.2.2.2.2) (V.1,U.1)).length=K.2.2.2.1.length:=List.length_set;refine Hf (L':= [(0,pV bk 0),(4,pV ai 0),(9,.slice W ((K.2.2.2.1.set (Int.toNat K.2.2.2.2) (V.1,U.1))).length Y),(10,iV K.2.2.2.2),(22,iV K.2.2.2.2),(23,.slice W ((K.2.2.2.1.set (Int.toNat K.2.2.2.2) (V.1,U.1))).length Y),(24,iV (K.2.2.2.1.length:Int)),(25,.bool (decide (K.2.2.2.2<(K.2.2.2.1.length:Int)))),(28,pV bk 0),(29,.bool bI.1),(30,.slice W ((K.2.2.2.1.set (Int.toNat K.2.2.2.2) (V.1,U.1))).length Y),(31,iV K.2.2.2.2),(32,pV bk 0),(33,pV ai 0),(34,.slice aA p1.1.length aB),(35,iV (p1.1.length:Int)),(36,iV b0),(37,iV U.1),(38,pV aI az),(39,pV aI (az+1))]) ⟨rfl,rfl,by rw [aJ];rfl,rfl,rfl,by rw [aJ];rfl,rfl,rfl,rfl,rfl,by rw [aJ];rfl,rfl,rfl,rfl,rfl,rfl,rfl,rfl,rfl,rfl,trivial⟩ ?_;refine JL.done ?_;obtain rfl:=oi cb;exact AB (a2 _ _ ⟨b5,W,Y,[(aI,.cells (Ba f138 az [iV V.1,iV U.1]) 27 (0,0))],b6,b7,rfl,rfl,a3,a5,cf,b8⟩) rfl
    ·refine JL.skip ?_;obtain rfl:=oi bZ;exact AB (a2 _ _ ⟨aZ,W,Y,ag,bL,bM,rfl,rfl,Aq,a1,(aG.Ag aq),a0⟩) rfl
  ·refine JL.exit rfl ?_;obtain rfl:=oi bH;obtain rfl:=bD _ aH;exact AB (bC _ _ ⟨ae,W,Y,ag,ao,ap,rfl,rfl,aF,aW,aG,aX⟩) rfl
end Pal
namespace Pal
theorem DX{S A:Type}{body:S→Option (Bi S A)}{Q:A→Prop}{K:S}{F:Nat}(n:Nat)(I:Nat→S→Prop)(V:I 0 K)(Y:n<F)
  (round:∀i s,i<n→I i s→A7 (body s) (Bi.sat (I (i+1)) Q)) (last:∀s,I n s→A7 (body s) (fun st=>∃a,st= .done a∧Q a)):A7 (Pal.iter body F K) Q:=by
 refine KX (fun m s=>∃i,i≤n∧m=n - i∧I i s) ?_ (m:=n - 0) ⟨0,Nat.zero_le _,rfl,V⟩ (by omega);rintro m s ⟨i,hi,rfl,O⟩;rcases Nat.lt_or_ge i n with W | Z
 ·refine(round i s W O).Ag ?_;intro st U;cases st with
  | more s'=>exact⟨n - (i+1),by omega,i+1,by omega,rfl,U⟩
  | done a=>exact U
 ·obtain rfl:i=n:=by omega
  refine(last s O).Ag ?_;rintro st ⟨a,rfl,h⟩;exact h
theorem D7{α:Type}{o:Option α}{a:α}(h:A7 o (fun x=>x=a)):o=some a:=by obtain⟨x,K,rfl⟩:=h;exact K
theorem Lh(F:Nat)(a lo hi:Int):f101 F a lo hi=some (decide (a<lo∨hi<a)):=by
 unfold f101;by_cases h:a<lo
 ·simp [h]
 ·simp [h]
theorem TP(F:Nat){s n:Nat}(hs:s<65536)(V:n≤16):f103 F s (n:Int)=some (s.testBit n):=by
 unfold f103;have K:J2 s (n:Int)=some (s>>>n):=by unfold J2;rw [if_pos (by omega)];rfl
 rw [K];simp only [Option.bind_some];have O:s>>>n<65536:=Nat.lt_of_le_of_lt (Nat.shiftRight_le _ _) hs;have U:I0 (s>>>n) 1=some (s>>>n&&& 1):=if_pos ⟨O,by omega⟩;rw [U];simp only [Option.bind_some];rw [UI]
theorem P7(F:Nat){s n:Nat}(hs:s<65536)(K:n<16):f90 F s (n:Int)=some (s ||| 1<<<n):=by
 unfold f90;have O:JI (n:Int)=some (1<<<n):=by unfold JI;rw [if_pos (by omega)];rfl
 rw [O];simp only [Option.bind_some];have U:1<<<n<65536:=by rw [Nat.one_shiftLeft];exact Nat.pow_lt_pow_right (by omega) (show n<16 from K)
 have V:Ir s (1<<<n)=some (s ||| 1<<<n):=if_pos ⟨hs,U⟩;rw [V];rfl
theorem LR{a b:Nat}(K:a<65536)(hb:b<65536):a ||| b<65536:=Nat.or_lt_two_pow (n:=16) K hb
theorem P5{n:Nat}(K:n<16):1<<<n<65536:=by rw [Nat.one_shiftLeft];exact Nat.pow_lt_pow_right (by omega) (show n<16 from K)
def Hp(n:Nat)(l:List Int):Prop:=∀x∈l,0≤x∧x<(n:Int)
def CF(l:List Int):Nat:=l.foldl (fun s x=>s ||| 1<<<x.toNat) 0
theorem RU(l:List Int)(x:Int):CF (l++ [x])=CF l ||| 1<<<x.toNat:=by simp [CF]
theorem OR{l:List Int}(h:Hp 16 l):CF l<65536:=by
 have key:∀(l:List Int) (s:Nat),s<65536→Hp 16 l→l.foldl (fun s x=>s ||| 1<<<x.toNat) s<65536:=by
  intro l
  induction l with
  | nil=>intro s hs _;exact hs
  | cons x l O=>
   intro s hs K;have V:=K x (by simp);exact O _ (LR hs (P5 (by omega))) fun y U=>K y (by simp [U])
 exact key l 0 (by omega) h
theorem KE{l:List Int}(h:∀x∈l,0≤x)(n:Nat):(CF l).testBit n=decide ((n:Int)∈l):=by
 have key:∀(l:List Int) (s:Nat),(∀x∈l,0≤x)→(l.foldl (fun s x=>s ||| 1<<<x.toNat) s).testBit n=(s.testBit n || decide ((n:Int)∈l)):=by
  intro l
  induction l with
  | nil=>intro s _;simp
  | cons x l O=>
   intro s K;have V:=K x (by simp);rw [List.foldl_cons,O _ fun y U=>K y (by simp [U]),Nat.testBit_or];have e:(1<<<x.toNat).testBit n=decide ((n:Int)=x):=by
    rw [Nat.one_shiftLeft,Nat.testBit_two_pow];exact decide_eq_decide.2 ⟨fun h=>by omega,fun h=>by omega⟩
   rw [e,Bool.or_assoc];congr 1;simp
 rw [CF,key l 0 h];simp
theorem PH{F:Nat}{l:List Int}(V:100<F)(W:l.length<100)(h:Hp 16 l):f120 F l=some (CF l):=by
 refine D7 ?_;unfold f120;refine AU (S:=fun r=>r=CF l) ?_ (by rintro r rfl;exact Au rfl);refine DX l.length (fun i s=>s=(CF (l.take i),(i:Int))) (by simp [CF]) (by omega) ?_ ?_
 ·rintro i s hi rfl;unfold Lb;refine Cy (by simp;omega) (BM (m:=i) rfl hi ?_);have Y:=h l[i] (List.getElem_mem hi);have O:l[i]=((l[i].toNat:Nat):Int):=by omega
  have hs:CF (l.take i)<65536:=OR fun y U=>h y (List.mem_of_mem_take U);have K:=P7 F (n:=l[i].toNat) hs (by omega);rw [← O] at K;refine Bl K ?_;refine Bh ((i+1:Nat):Int) (by simp) (by omega) (by omega) ?_;refine Au ?_;show _=_;rw [List.take_add_one,List.getElem?_eq_getElem hi];simp only [Option.toList_some];rw [RU]
 ·rintro s rfl;unfold Lb;exact BB (by simp) (Au ⟨_,rfl,by simp⟩)
def CC(s:Nat)(k:Nat):List Int:=((List.range k).filter (fun n=>s.testBit n)).map (fun(n:Nat)=>(n:Int))
theorem RH(s k:Nat):CC s (k+1)=if s.testBit k=true then CC s k++ [(k:Int)] else CC s k:=by
 unfold CC;rw [List.range_succ,List.filter_append];by_cases h:s.testBit k=true
 ·rw [if_pos h];simp [h]
 ·rw [if_neg h];simp [h]
theorem My(s k:Nat):(CC s k).length≤k:=by
 unfold CC;rw [List.length_map];exact Nat.le_trans (List.length_filter_le _ _) (by simp)
theorem Iw{s k:Nat}{x:Int}:x∈CC s k↔∃n:Nat,n<k∧s.testBit n=true∧x=(n:Int):=by
 unfold CC;simp only [List.mem_map,List.mem_filter,List.mem_range];exact⟨fun⟨n,⟨K,O⟩,U⟩=>⟨n,K,O,U.symm⟩,fun⟨n,K,O,U⟩=>⟨n,⟨K,O⟩,U.symm⟩⟩
theorem Nl{F s:Nat}(K:100<F)(hs:s<65536):f89 F s=some (CC s 16):=by
 refine D7 ?_;unfold f89;refine AU (S:=fun r=>r=CC s 16) ?_ (by rintro r rfl;exact Au rfl);refine DX 16 (fun i st=>st=(CC s i,(i:Int))) rfl (by omega) ?_ ?_
 ·rintro i st hi rfl;unfold LC;refine Cy (by simp only;omega) (Bl (TP F hs (by omega)) ?_);have hlen:=My s i;refine AU (S:=fun r=>r=CC s (i+1)) ?_ ?_
  ·rw [RH];refine B8 (fun h=>?_) (fun h=>?_)
   ·rw [if_pos h];exact H7 (by simp only;omega) (Au rfl)
   ·rw [if_neg h];exact Au rfl
  ·rintro r rfl;exact Bh ((i+1:Nat):Int) (by simp) (by omega) (by omega) (Au rfl)
 ·rintro st rfl;unfold LC;exact BB (by simp) (Au ⟨_,rfl,rfl⟩)
theorem TX{F:Nat}{l:List Int}{x:Int}(V:100<F)(W:l.length<100):A7 (f107 F l x) (fun r=>decide (0≤r)=decide (x∈l)):=by
 unfold f107;refine AU (S:=fun q=>match q with | Sum.inl r=>0≤r∧x∈l | Sum.inr _=>x ∉ l) ?_ ?_
 ·refine DX l.length (fun i s=>s=(i:Int)∧x ∉ l.take i) ⟨rfl,by simp⟩ (by omega) ?_ ?_
  ·rintro i s hi ⟨rfl,K⟩;unfold K1;refine Cy (by omega) (BM (m:=i) rfl hi ?_);refine B8 (fun h=>?_) (fun h=>?_)
   ·exact Au ⟨by omega,by rw [← h];exact List.getElem_mem hi⟩
   ·refine Bh ((i+1:Nat):Int) (by simp) (by omega) (by omega) (Au ⟨rfl,?_⟩);rw [List.take_add_one,List.getElem?_eq_getElem hi];simp only [Option.toList_some,List.mem_append,List.mem_singleton];rintro(O | O)
    ·exact K O
    ·exact h O.symm
  ·rintro s ⟨rfl,K⟩;unfold K1;exact BB (by omega) (Au ⟨_,rfl,by simpa using K⟩)
 ·rintro(r | u) U
  ·exact Au (by rw [decide_eq_true U.1,decide_eq_true U.2])
  ·exact Au (by rw [decide_eq_false U];rfl)
theorem UX{F:Nat}{l:List Int}{x:Int}(K:100<F)(O:l.length<100):f53 F l x=some (decide (x∈l)):=by
 refine D7 ?_;unfold f53;refine AU (TX K O) ?_;intro r U;exact Au U
end Pal
namespace Pal
abbrev JW:=List (List Int)×List (List Int)
structure VL (n:Nat) (l:List Int):Prop where
 len:l.length≤3
 inr:Hp n l
 HY:l.Pairwise (·<·)
structure VJ (n:Nat) (J:JW):Prop where
 pos:0<n
 le:n≤8
 l1:J.1.length=n
 l2:J.2.length=n
 nx:∀(i:Nat) l,J.1[i]? =some l→VL n l∧0<l.length
 fl:∀(i:Nat) l,J.2[i]? =some l→VL n l∧(i:Int) ∉ l
theorem UZ{l:List Int}(h:l.Pairwise (·<·)){i:Nat}(hi:i<l.length)(K:0<i):¬(l[i]≤l[i - 1]'(by omega)):=by
 have:=List.pairwise_iff_getElem.1 h (i - 1) i (by omega) hi (by omega);omega
theorem P0{F n:Nat}{J:JW}{m:Nat}{l:List Int}{b:Bool}(O:100<F)(U:J.1.length=n)(V:0<n∧n≤8)(K:VL n l)(hb:b=true∨(m:Int) ∉ l):f136 F J (m:Int) l b=some none:=by
 refine D7 ?_;unfold f136;have hlen:=K.len;refine AU (S:=fun q=>q=Sum.inr ()) ?_ (by rintro q rfl;exact Au rfl);refine DX l.length (fun i s=>s=(i:Int)) rfl (by omega) ?_ ?_
 ·rintro i s hi rfl;unfold Lr;have W:=K.inr l[i] (List.getElem_mem hi);refine Cy (by omega) (BM (m:=i) rfl hi ?_);refine Bh ((n - 1:Nat):Int) (by omega) (by omega) (by omega) (Bl (Lh F _ _ _) ?_);refine BB (by simp;omega) (AU (S:=fun c=>c=false) ?_ ?_)
  ·refine B8 (fun h=>?_) (fun h=>Au rfl);rcases hb with rfl | hb
   ·exact Au rfl
   ·exact absurd (h▸List.getElem_mem hi) hb
  ·rintro c rfl;refine BB (by simp) (AU (S:=fun c=>c=false) ?_ ?_)
   ·refine B8 (fun h=>?_) (fun h=>Au rfl);refine Bh ((i - 1:Nat):Int) (by omega) (by omega) (by omega) (BM (m:=i - 1) rfl (by omega) ?_);exact Au (decide_eq_false (UZ K.HY hi (by omega)))
   ·rintro c rfl;refine BB (by simp) (Bh ((i+1:Nat):Int) (by simp) (by omega) (by omega) ?_);exact Au rfl
 ·rintro s rfl;unfold Lr;exact BB (by omega) (Au ⟨_,rfl,rfl⟩)
theorem TJ{F n:Nat}{J:JW}(U:100<F)(K:VJ n J):f113 F J=some none:=by
 have V:=K.l1;have aa:=K.l2;have W:=K.pos;have Y:=K.le;refine D7 ?_;unfold f113;refine BB (by omega) (BB (by omega) (BB (by omega) ?_));refine AU (S:=fun q=>q=Sum.inr ()) ?_ (by rintro q rfl;exact Au rfl);refine DX n (fun i s=>s=(i:Int)) rfl (by omega) ?_ ?_
 ·rintro i s hi rfl;unfold Lm;have Z:i<J.1.length:=by omega
  have O:i<J.2.length:=by omega
  obtain⟨v1,v2⟩:=K.nx i _ (List.getElem?_eq_getElem Z);obtain⟨w1,w2⟩:=K.fl i _ (List.getElem?_eq_getElem O);have ab:=v1.len;have g2:=w1.len;refine Cy (by omega) (BM (m:=i) rfl Z ?_);refine BB (by omega) (BB (by omega) ?_);refine Bl (P0 U V ⟨W,Y⟩ v1 (.inl rfl)) (BB (by simp) ?_);refine BM (m:=i) rfl O (BB (by omega) ?_);refine BM (m:=i) rfl O (Bl (P0 U V ⟨W,Y⟩ w1 (.inr w2)) ?_);refine BB (by simp) (Bh ((i+1:Nat):Int) (by simp) (by omega) (by omega) ?_);exact Au rfl
 ·rintro s rfl;unfold Lm;exact BB (by omega) (Au ⟨_,rfl,rfl⟩)
theorem RM(F:Nat):IX F none=some 0:=by
 unfold IX f112;have h:∃b,f135 F=some b:=by unfold f135;exact⟨_,rfl⟩
 obtain⟨b,hb⟩:=h;rw [hb];cases b <;> rfl
def GI(nx:List (List Int))(s:Nat):Nat:=(CC s 16).foldl (fun o m=>o ||| CF (nx.getD m.toNat [])) 0
theorem VJ.G8{n:Nat}{J:JW}(K:VJ n J)(m:Nat):VL n (J.1.getD m []):=by
 rw [List.getD_eq_getElem?_getD];cases h:J.1[m]? with
 | none=>exact⟨by simp,fun x O=>by simp at O,by simp⟩
 | some l=>exact(K.nx m l h).1
theorem Hp.Ag{n m:Nat}{l:List Int}(h:Hp n l)(hle:n≤m):Hp m l:=fun x K=>by have:=h x K;omega
theorem Lq{n:Nat}{J:JW}(U:VJ n J)(s k:Nat):(GI J.1 s).testBit k=true↔∃m,m<16∧s.testBit m=true∧(k:Int)∈J.1.getD m []:=by
 have key:∀(l:List Int) (o:Nat),(l.foldl (fun o m=>o ||| CF (J.1.getD m.toNat [])) o).testBit k=true↔o.testBit k=true∨∃m∈l,(k:Int)∈J.1.getD m.toNat []:=by
  intro l
  induction l with
  | nil=>intro o;simp
  | cons x l V=>
   intro o;rw [List.foldl_cons,V,Nat.testBit_or,Bool.or_eq_true,KE fun y W=>((U.G8 x.toNat).inr y W).1,decide_eq_true_eq];simp only [List.mem_cons,exists_eq_or_imp,or_assoc]
 unfold GI;rw [key];simp only [Nat.zero_testBit,Bool.false_eq_true,false_or];constructor
 ·rintro⟨x,Y,Z⟩;obtain⟨m,K,O,rfl⟩:=Iw.1 Y;exact⟨m,K,O,Z⟩
 ·rintro⟨m,K,O,aa⟩;exact⟨(m:Int),Iw.2 ⟨m,K,O,rfl⟩,by simpa using aa⟩
theorem RN{n s:Nat}(h:∀k,n≤k→s.testBit k=false):s<2 ^ n:=Nat.lt_pow_two_of_testBit s h
theorem QA{n:Nat}{J:JW}(K:VJ n J)(s:Nat):GI J.1 s<2 ^ n:=by
 refine RN fun k U=>?_;cases h:(GI J.1 s).testBit k with
 | false=>rfl
 | true=>
  obtain⟨m,_,_,O⟩:=(Lq K s k).1 h;have:=(K.G8 m).inr _ O;omega
theorem Pl{n:Nat}(h:n≤8):2 ^ n≤256:=Nat.pow_le_pow_right (by omega) h
theorem IB{n s k:Nat}(h:s<2 ^ n)(O:s.testBit k=true):k<n:=by
 rcases Nat.lt_or_ge k n with K | K
 ·exact K
 ·rw [Nat.testBit_lt_two_pow (Nat.lt_of_lt_of_le h (Nat.pow_le_pow_right (by omega) K))] at O;cases O
theorem TG{F n:Nat}{J:JW}{A:List Nat}{s:Nat}(V:100<F)(K:VJ n J)(hs:s<2 ^ n):JU F (J.1,J.2,A) s=some (GI J.1 s,(J.1,J.2,A)):=by
 have ab:=K.l1;have aa:=K.le;have ae:=Pl aa;refine D7 ?_;unfold JU;refine Bl (Nl V (by omega)) ?_;refine AU (S:=fun r=>r=GI J.1 s) ?_ (by rintro r rfl;exact Au rfl);have hlen:=My s 16;refine DX (CC s 16).length (fun i st=>st=(((CC s 16).take i).foldl (fun o m=>o ||| CF (J.1.getD m.toNat [])) 0,(i:Int))∧((CC s 16).take i).foldl (fun o m=>o ||| CF (J.1.getD m.toNat [])) 0<65536) ⟨rfl,by simp⟩ (by omega) ?_ ?_
 ·rintro i st hi ⟨rfl,W⟩;unfold KM;obtain⟨m,ag,g2,Y⟩:=Iw.1 (List.getElem_mem hi);have hm:=IB hs g2;have O:m<J.1.length:=by omega
  have U:=(K.nx m _ (List.getElem?_eq_getElem O)).1;have ah:=U.len;refine Cy (by simp;omega) ?_;refine BM (m:=i) rfl hi ?_;refine BM (m:=m) Y O ?_;refine Bl (PH V (show J.1[m].length<100 by omega) (U.inr.Ag (by omega))) ?_;have Z:CF J.1[m]<65536:=OR (U.inr.Ag (by omega));refine Bl (b:=((CC s 16).take i).foldl (fun o m=>o ||| CF (J.1.getD m.toNat [])) 0 ||| CF J.1[m]) (if_pos ⟨W,Z⟩) ?_;refine Bh ((i+1:Nat):Int) (by simp) (by omega) (by omega) ?_;have e:((CC s 16).take (i+1)).foldl (fun o m=>o ||| CF (J.1.getD m.toNat [])) 0=((CC s 16).take i).foldl (fun o m=>o ||| CF (J.1.getD m.toNat [])) 0 ||| CF J.1[m]:=by
   rw [List.take_add_one,List.getElem?_eq_getElem hi,List.foldl_append,Y];simp [List.getD_eq_getElem?_getD,O]
  refine Au ⟨?_,?_⟩
  ·rw [e]
  ·rw [e];exact LR W Z
 ·rintro st ⟨rfl,_⟩;unfold KM;refine BB (by simp) (Au ⟨_,rfl,?_⟩);rw [List.take_length];rfl
def AG(J:JW):Nat→Nat
 | 0=>1
 | a+1=>GI J.1 (AG J a)
theorem JV{n:Nat}{J:JW}(K:VJ n J):∀a,AG J a<2 ^ n
 | 0=>Nat.one_lt_two_pow (by have:=K.pos;omega)
 | a+1=>QA K _
def Gf(J:JW):List Nat:=(List.range 13).map (AG J)
def J7(J:JW)(n k:Nat)(A:List Nat):Prop:=A.length=13∧(∀i,i≤k→i<13→A[i]? =some (AG J i))∧∀x∈A,x<2 ^ n
theorem J7.all{J:JW}{n:Nat}{A:List Nat}(h:J7 J n 12 A):A=Gf J:=by
 apply List.ext_getElem?;intro i;rcases Nat.lt_or_ge i 13 with hi | hi
 ·rw [h.2.1 i (by omega) hi];simp [Gf,hi]
 ·rw [List.getElem?_eq_none (by rw [h.1];exact hi),List.getElem?_eq_none (by simp [Gf];exact hi)]
theorem OH{F n:Nat}{J:JW}{A:List Nat}(aa:100<F)(W:VJ n J)(ab:A.length=13)(Y:∀x∈A,x<2 ^ n):
  A7 (iter (JH F) F (J.1,J.2,A,A,0)) (fun r=>r.1=J.1∧r.2.1=J.2∧r.2.2.1=A∧r.2.2.2.length=13∧r.2.2.2[0]? =A[0]? ∧(∀i,i<12→∀s,A[i]? =some s→r.2.2.2[i+1]? =some (GI J.1 s))∧∀x∈r.2.2.2,x<2 ^ n):=by
 refine DX 12 (fun k st=>∃B:List Nat,st=(J.1,J.2,A,B,(k:Int))∧B.length=13∧B[0]? =A[0]? ∧(∀i,i<k→∀s,A[i]? =some s→B[i+1]? =some (GI J.1 s))∧∀x∈B,x<2 ^ n) ⟨A,rfl,ab,rfl,fun i hi=>by omega,Y⟩ (by omega) ?_ ?_
 ·rintro k st ag ⟨B,rfl,K,O,hs,hb⟩;unfold JH;have U:k<A.length:=by omega
  have Z:k+1<B.length:=by omega
  refine Cy (by simp only;omega) (Bh ((k+1:Nat):Int) (by simp) (by omega) (by omega) ?_);refine BM (m:=k) rfl U (Bl (TG aa W (Y _ (List.getElem_mem U))) ?_);refine BM (m:=k+1) rfl Z (Bh ((k+1:Nat):Int) (by simp) (by omega) (by omega) ?_);refine Au ⟨B.set (k+1) (GI J.1 A[k]),rfl,by simpa using K,?_,?_,?_⟩
  ·rw [List.getElem?_set_ne (by omega)];exact O
  ·intro i hi s V;by_cases e:i=k
   ·subst e;rw [List.getElem?_set_self Z];have:A[i]=s:=by rw [List.getElem?_eq_getElem U] at V;exact Option.some.inj V
    rw [this]
   ·rw [List.getElem?_set_ne (by omega)];exact hs i (by omega) s V
  ·intro x ae;rcases List.mem_or_eq_of_mem_set ae with h | h
   ·exact hb x h
   ·subst h;exact QA W _
 ·rintro st ⟨B,rfl,K,O,hs,hb⟩;unfold JH;refine BB (by simp) (Au ⟨_,rfl,rfl,rfl,rfl,K,O,hs,hb⟩)
theorem U7{F n:Nat}{J:JW}(ag:100<F)(aa:VJ n J):f92 F J=some (some (J.1,J.2,Gf J)):=by
 have ao:=aa.pos;refine D7 ?_;unfold f92;refine BM (m:=0) rfl (by simp) ?_;refine AU (S:=fun q=>q=Sum.inl (some (J.1,J.2,Gf J))) ?_ (by rintro q rfl;exact Au rfl);refine DX 12 (fun k st=>∃A:List Nat,st=(J.1,J.2,A)∧J7 J n k A) ?_ (by omega) ?_ ?_
 ·refine⟨_,rfl,by simp,fun i hi _=>?_,fun x ah=>?_⟩
  ·obtain rfl:i=0:=by omega
   rfl
  ·rcases List.mem_or_eq_of_mem_set ah with h | h
   ·simp at h;subst h;exact Nat.two_pow_pos n
   ·subst h;exact Nat.one_lt_two_pow (by omega)
 ·rintro k st ap ⟨A,rfl,K⟩;unfold LK;refine AU (OH ag aa K.1 K.2.2) ?_;rintro⟨ai,aj,ab,B⟩ ⟨W,Y,Z,O,g2,U,V⟩;simp only at W Y Z O g2 U V ⊢;subst W Y Z;refine B8 (fun h=>?_) (fun h=>?_)
  ·refine Au ⟨B,rfl,O,fun i hi ae=>?_,V⟩;cases i with
   | zero=>rw [g2];exact K.2.1 0 (by omega) (by omega)
   | succ i=>exact U i (by omega) _ (K.2.1 i (by omega) (by omega))
  ·have e:B=ab:=Decidable.byContradiction fun ak=>h ak;subst e;refine Au ?_;show _=_;have al:J7 J n 12 B:=by
    refine⟨O,fun i hi ae=>?_,V⟩;have:∀i,i<13→B[i]? =some (AG J i):=by
     intro i
     induction i with
     | zero=>intro _;exact K.2.1 0 (by omega) (by omega)
     | succ i am=>intro h;exact U i (by omega) _ (am (by omega))
    exact this i ae
   rw [al.all]
 ·rintro st ⟨A,rfl,K⟩;unfold LK;refine AU (OH ag aa K.1 K.2.2) ?_;rintro⟨ai,aj,ab,B⟩ ⟨W,Y,Z,O,g2,U,V⟩;simp only at W Y Z O g2 U V ⊢;subst W Y Z;have an:J7 J n 12 B:=by
   refine⟨O,fun i hi ae=>?_,V⟩;cases i with
   | zero=>rw [g2];exact K.2.1 0 (by omega) (by omega)
   | succ i=>exact U i (by omega) _ (K.2.1 i (by omega) (by omega))
  have e:B=ab:=by rw [an.all,K.all]
  refine BB (by rw [e];simp) (Au ⟨_,rfl,?_⟩);rw [K.all]
end Pal
namespace Pal
theorem Uq(J:JW){a:Nat}(K:a<13):(Gf J)[a]? =some (AG J a):=by simp [Gf,K]
abbrev Fo:=List Int×Int×Nat
def BG(k:Nat)(b:Fo):Prop:=0≤b.2.1∧b.2.1≤(k:Int)
theorem BG.Ag{k k':Nat}{b:Fo}(h:BG k b)(K:k≤k'):BG k' b:=⟨h.1,by have:=h.2;omega⟩
theorem Uu{F k:Nat}{b:Fo}(hb:BG k b)(K:k<1000000):A7 (f100 F b) (fun r=>r.1<2 ^ 64∧BG (k+1) r.2):=by
 obtain⟨O,U⟩:=hb;unfold f100;refine Bh (b.2.1+1) rfl (by omega) (by omega) ?_;have key:∀x:Nat,(x % 2 ^ 64)>>>11<2 ^ 64:=fun x=>Nat.lt_of_le_of_lt (Nat.shiftRight_le _ _) (Nat.mod_lt _ (Nat.two_pow_pos 64));refine AU (S:=fun _=>True) ?_ ?_
 ·refine B8 (fun h=>?_) (fun h=>?_)
  ·refine Bh b.2.1 (by omega) (by omega) (by omega) (BM (m:=b.2.1.toNat) (by omega) (by omega) ?_);exact Au trivial
  ·exact Au trivial
 ·intro x _;exact Au ⟨key _,by simp only;omega,by simp only;omega⟩
theorem Sk{a:Nat}(h:a<2 ^ 62):Kb a=(a:Int):=by
 unfold Kb;exact H4 (by omega)
theorem Gr{F k:Nat}{b:Fo}{m:Int}(hb:BG k b)(O:k<1000000)(hm:m<1000000):A7 (f41 F b m) (fun r=>0≤r.1∧(r.1≤m∨r.1=0)∧BG (k+1) r.2):=by
 unfold f41;refine AU (Uu hb O) ?_;rintro⟨x,Y⟩ ⟨Z,K⟩;refine B8 (fun h=>?_) (fun h=>?_)
 ·exact Au ⟨by simp,.inr rfl,K⟩
 ·have U:CN m=m.toNat:=by unfold CN;omega
  have V:(CN m+1) % 2 ^ 64=m.toNat+1:=by rw [U];omega
  have W:x % (m.toNat+1)<m.toNat+1:=Nat.mod_lt _ (by omega);refine Bl (b:=x % (m.toNat+1)) (by rw [V];unfold LV;rw [if_neg (by omega)]) ?_;refine Au ?_;simp only;generalize x % (m.toNat+1)=z at W ⊢;rw [Sk (by omega)];exact⟨by omega,.inl (by omega),K⟩
theorem Nc{F k:Nat}{b:Fo}{lo hi:Int}(hb:BG k b)(O:k<1000000)(V:0≤lo)(W:lo≤hi)(Y:hi<1000):A7 (f96 F b lo hi) (fun r=>lo≤r.1∧r.1≤hi∧BG (k+1) r.2):=by
 unfold f96;refine Bh (hi - lo) rfl (by omega) (by omega) (AU (Gr hb O (by omega)) ?_);rintro⟨x,Z⟩ ⟨U,g2,K⟩;simp only at U g2 K ⊢;exact Bh (lo+x) rfl (by omega) (by omega) (Au ⟨by simp only;omega,by simp only;omega,K⟩)
theorem JF{F k:Nat}{b:Fo}{m:Int}(hb:BG k b)(K:k<1000000)(U:1≤m)(V:m<1000):A7 (f97 F b m) (fun r=>BG (k+1) r.2):=by
 unfold f97;refine Bh (m - 1) rfl (by omega) (by omega) (AU (Gr hb K (by omega)) ?_);rintro⟨x,W⟩ ⟨Y,g2,O⟩;exact Au O
theorem Lx{F k:Nat}{b:Fo}{l:List Int}(hb:BG k b)(U:k<1000000)(W:0<l.length)(Y:l.length<1000):A7 (f99 F b l) (fun r=>r.1∈l∧BG (k+1) r.2):=by
 unfold f99;refine Bh ((l.length - 1:Nat):Int) (by omega) (by omega) (by omega) (AU (Gr hb U (by omega)) ?_);rintro⟨x,Z⟩ ⟨V,g2,K⟩;simp only at V g2 K ⊢;have O:x.toNat<l.length:=by omega
 exact BM (m:=x.toNat) (by omega) O (Au ⟨List.getElem_mem O,K⟩)
theorem UC{F:Nat}{x:Int}(K:100<F):f98 F [] x=some [x]:=by
 obtain⟨F,rfl⟩:∃k,F=k+1:=⟨F - 1,by omega⟩;refine D7 ?_;unfold f98;refine Bl (b:=([],false)) ?_ ?_
 ·unfold iter;rfl
 ·refine Bl (b:= [x]) ?_ (Au rfl)
  rfl
theorem TS{F:Nat}{a x:Int}(ae:100<F):f98 F [a] x=some (if x<a then [x,a] else if x=a then [a] else [a,x]):=by
 obtain⟨F,rfl⟩:∃k,F=k+2:=⟨F - 2,by omega⟩;refine D7 ?_;unfold f98;have U:Av 1=some 1:=rfl;have V:ix [a] 0=some a:=rfl;have r0:room ([]:List Int) x=some [x]:=if_pos (by simp);have Z:room ([]:List Int) a=some [a]:=if_pos (by simp);have aa:room [x] a=some [x,a]:=if_pos (by simp);have ab:room [a] x=some [a,x]:=if_pos (by simp);have step:IT (F+2) [a] x ([],false,0)=some (.more (if x<a then([x,a],true,1) else if x=a then([x],true,1) else([a],false,1))):=by
  unfold IT;rcases Int.lt_trichotomy x a with h | h | h
  ·have W:x≤a:=by omega
   have Y:a≠x:=by omega
   simp [V,h,W,Y,r0,aa,U]
  ·subst h;simp [V,r0,U]
  ·have W:¬x≤a:=by omega
   have Y:a≠x:=by omega
   have K:¬x<a:=by omega
   have O:¬x=a:=by omega
   simp [V,W,Y,K,O,Z,U]
 have last:∀(o:List Int) (b:Bool),IT (F+2) [a] x (o,b,1)=some (.done (o,b)):=by
  intro o b;unfold IT;simp
 rcases Int.lt_trichotomy x a with h | h | h
 ·rw [if_pos h] at step;refine Bl (b:=([x,a],true)) ?_ ?_
  ·unfold iter;rw [step];simp only;unfold iter;rw [last]
  ·rw [if_pos h];exact Bl (b:= [x,a]) (by simp) (Au rfl)
 ·subst h;rw [if_neg (by omega),if_pos rfl] at step;refine Bl (b:=([x],true)) ?_ ?_
  ·unfold iter;rw [step];simp only;unfold iter;rw [last]
  ·rw [if_neg (show ¬x<x by omega),if_pos (rfl:x=x)];exact Bl (b:= [x]) (by simp) (Au rfl)
 ·have K:¬x<a:=by omega
  have O:¬x=a:=by omega
  rw [if_neg K,if_neg O] at step;refine Bl (b:=([a],false)) ?_ ?_
  ·unfold iter;rw [step];simp only;unfold iter;rw [last]
  ·rw [if_neg K,if_neg O];exact Bl (b:= [a,x]) (by simp [ab]) (Au rfl)
theorem P9{F n:Nat}{l:List Int}{x:Int}(O:100<F)(U:Hp n l)(V:l.length≤1)(W:0≤x∧x<(n:Int)):A7 (f98 F l x) (fun r=>VL n r∧0<r.length∧r.length≤l.length+1∧∀y∈r,y=x∨y∈l):=by
 match l,V with
 | [],_=>
  rw [UC O];exact Au ⟨⟨by simp,fun y K=>by simp at K;subst K;exact W,by simp⟩,by simp,by simp,fun y K=>by simpa using K⟩
 | [a],_=>
  rw [TS O];have Y:=U a (by simp);refine Au ?_;rcases Int.lt_trichotomy x a with h | h | h
  ·rw [if_pos h];exact⟨⟨by simp,fun y K=>by simp at K;rcases K with rfl | rfl <;> assumption,by simpa using h⟩,by simp,by simp,fun y K=>by simpa using K⟩
  ·rw [if_neg (by omega),if_pos h];exact⟨⟨by simp,fun y K=>by simp at K;subst K;exact Y,by simp⟩,by simp,by simp,fun y K=>by simp at K;subst K;simp⟩
  ·rw [if_neg (by omega),if_neg (by omega)];exact⟨⟨by simp,fun y K=>by simp at K;rcases K with rfl | rfl <;> assumption,by simpa using h⟩,by simp,by simp,fun y K=>by simp at K;rcases K with rfl | rfl <;> simp⟩
 | a::b::l,h=>simp at h
structure PJ (n i:Nat) (N K:List (List Int)):Prop where
 l1:N.length=i
 l2:K.length=i
 nx:∀(q:Nat) l,N[q]? =some l→VL n l∧0<l.length
 fl:∀(q:Nat) l,K[q]? =some l→VL n l∧(q:Int) ∉ l
theorem PJ.snoc{n i:Nat}{N U:List (List Int)}{a b:List Int}(h:PJ n i N U)(V:VL n a∧0<a.length)(hb:VL n b∧(i:Int) ∉ b):PJ n (i+1) (N++ [a]) (U++ [b]):=by
 refine⟨by simp [h.l1],by simp [h.l2],fun q l K=>?_,fun q l K=>?_⟩
 ·rcases Nat.lt_or_ge q N.length with O | O
  ·rw [List.getElem?_append_left O] at K;exact h.nx q l K
  ·rw [List.getElem?_append_right O] at K;have:q - N.length=0:=by
    rcases Nat.eq_zero_or_pos (q - N.length) with e | e
    ·exact e
    ·rw [List.getElem?_eq_none (by simp;omega)] at K;cases K
   rw [this] at K;simp at K;subst K;exact V
 ·rcases Nat.lt_or_ge q U.length with O | O
  ·rw [List.getElem?_append_left O] at K;exact h.fl q l K
  ·rw [List.getElem?_append_right O] at K;have e:q - U.length=0:=by
    rcases Nat.eq_zero_or_pos (q - U.length) with e | e
    ·exact e
    ·rw [List.getElem?_eq_none (by simp;omega)] at K;cases K
   rw [e] at K;simp at K;subst K;have:q=i:=by have:=h.l2;omega
   subst this;exact hb
theorem SU{F n i k:Nat}{aa:Int×Fo}{ab:(List (List Int))×(List (List Int))×(List Int)×Int×Nat×Int}{b:Fo}{c:Int}(an:100<F)(ae:aa.1=(n:Int))(ag:ab.2.2.2.2.2=(i:Int))(hi:i<n)(ar:n≤8)(hb:BG k b)(au:k<1000)(av:c=0∨c=1∨c=2):
  A7 (iter (LF F aa ab) F (b.1,b.2.1,b.2.2,[],c)) (fun r=>VL n r.1∧(i:Int) ∉ r.1∧BG (k+10) r.2):=by
 refine KX (fun m st=>∃(l:List Int) (K:Fo),st=(K.1,K.2.1,K.2.2,l,(m:Int))∧m≤2∧VL n l∧(i:Int) ∉ l∧l.length≤2 - m∧BG (k+10 - 4*m) K) ?_ (m:=c.toNat) ⟨[],b,by simp;omega,by omega,⟨by simp,fun x ao=>by simp at ao,by simp⟩,by simp,by simp,hb.Ag (by omega)⟩ (by omega);rintro m st ⟨l,K,rfl,aw,W,Y,hlen,ah⟩;unfold LF;refine AU (S:=fun q=>q=decide (0<m∧1<n)) ?_ ?_
 ·refine B8 (fun h=>?_) (fun h=>?_)
  ·refine Au ?_;rw [ae];exact decide_eq_decide.2 ⟨fun ai=>⟨by simp only at h;omega,by omega⟩,fun ai=>by omega⟩
  ·refine Au ?_;have:¬0<m:=by simp only at h;omega
   simp [this]
 ·rintro q rfl;refine B8 (fun h=>?_) (fun h=>?_)
  ·have ai:0<m∧1<n:=of_decide_eq_true h;refine Bh ((i:Int) - 1) (by rw [ag]) (by omega) (by omega) ?_;refine AU (Gr (F:=F) (b:=(K.1,K.2.1,K.2.2)) (m:=max 0 ((i:Int) - 1)) ah (by omega) (by omega)) ?_;rintro⟨y,ay⟩ ⟨aj,g2,ak⟩;simp only at aj g2 ak ⊢;refine AU (JF (F:=F) ak (by omega) (by omega) (by omega)) ?_;rintro⟨o,az⟩ Z;simp only at Z ⊢;refine AU (S:=fun r=>0≤r.1∧r.1<(n:Int)∧BG (k+10 - 4*m+1+1+1) r.2) ?_ ?_
   ·refine B8 (fun _=>?_) (fun _=>?_)
    ·refine Bh ((n:Int) - 1) (by rw [ae]) (by omega) (by omega) (AU (Gr (F:=F) Z (by omega) (by omega)) ?_);rintro⟨z,al⟩ ⟨O,U,V⟩;exact Au ⟨O,by simp only at O U ⊢;omega,V⟩
    ·exact Au ⟨aj,by simp only;omega,BG.Ag Z (by omega)⟩
   ·rintro⟨z,al⟩ ⟨O,U,V⟩;simp only at O U V ⊢;refine AU (S:=fun r=>VL n r∧(i:Int) ∉ r∧r.length≤l.length+1) ?_ ?_
    ·rw [ag];refine B8 (fun ap=>?_) (fun _=>?_)
     ·refine AU (P9 (F:=F) an W.inr (by omega) ⟨O,U⟩) ?_;rintro r ⟨v1,v2,am,v4⟩;refine Au ⟨v1,fun aq=>?_,am⟩;rcases v4 _ aq with e | e
      ·exact ap e.symm
      ·exact Y e
     ·exact Au ⟨W,Y,by omega⟩
    ·rintro r ⟨v1,v2,am⟩;exact Bh ((m - 1:Nat):Int) (by omega) (by omega) (by omega) (Au ⟨m - 1,by omega,r,al,rfl,by omega,v1,v2,by omega,V.Ag (by omega)⟩)
  ·exact Au ⟨W,Y,ah.Ag (by omega)⟩
theorem U3{F k mx:Nat}{b:Fo}(ah:100<F)(hb:BG k b)(aA:k<100)(aB:1≤mx)(aC:mx≤8):A7 (f39 F b (mx:Int)) (fun r=>(∃n,n≤mx∧VJ n r.1)∧BG (k+301) r.2):=by
 unfold f39;refine AU (Nc (F:=F) hb (by omega) (by omega) (by omega) (by omega)) ?_;rintro⟨ai,au⟩ ⟨n1,n2,aj⟩;simp only at n1 n2 aj;obtain⟨n,rfl⟩:∃n:Nat,ai=(n:Int):=⟨ai.toNat,by omega⟩;have aD:1≤n:=by omega
 have ak:n≤8:=by omega
 refine AU (S:=fun r=>PJ n n r.2.2.2.1 r.2.2.2.2∧BG (k+301) (r.1,r.2.1,r.2.2.1)) ?_ ?_
 ·refine DX n (fun i st=>∃(N O:List (List Int)) (W:Fo),st=(N,O,W.1,W.2.1,W.2.2,(i:Int))∧PJ n i N O∧BG (k+1+30*i) W) ⟨[],[],au,rfl,⟨rfl,rfl,fun q l Z=>by simp at Z,fun q l Z=>by simp at Z⟩,aj⟩ (by omega) ?_ ?_
  ·rintro i st hi ⟨N,O,Y,rfl,K,aa⟩;unfold Lw;refine Cy (by simp only;omega) (Bh ((n:Int) - 1) rfl (by omega) (by omega) ?_);refine Bh ((i+1:Nat):Int) (by simp) (by omega) (by omega) (AU (JF (F:=F) (b:=(Y.1,Y.2.1,Y.2.2)) aa (by omega) (by omega) (by omega)) ?_);rintro⟨o,aE⟩ g2;simp only at g2 ⊢;have al:Hp n [min ((n:Int) - 1) ((i+1:Nat):Int)]:=fun x U=>by simp at U;subst U;omega
   refine AU (S:=fun r=>VL n r.1∧0<r.1.length∧BG (k+1+30*i+2) r.2) ?_ ?_
   ·refine B8 (fun _=>?_) (fun _=>?_)
    ·refine Bh ((n:Int) - 1) rfl (by omega) (by omega) (AU (Nc (F:=F) g2 (by omega) (by omega) (by omega) (by omega)) ?_);rintro⟨y,am⟩ ⟨ab,ae,V⟩;simp only at ab ae V ⊢;refine AU (P9 (F:=F) ah al (by simp) ⟨by omega,by omega⟩) ?_;rintro r ⟨v1,v2,aF,v4⟩;exact Au ⟨v1,v2,V⟩
    ·exact Au ⟨⟨by simp,al,by simp⟩,by simp,BG.Ag g2 (by omega)⟩
   ·rintro⟨nx,am⟩ ⟨w1,w2,w3⟩;simp only at w1 w2 w3 ⊢;refine AU (JF (F:=F) (b:=am) w3 (by omega) (by omega) (by omega)) ?_;rintro⟨aG,aH⟩ ag;simp only at ag ⊢;refine AU (S:=fun r=>VL n r.1∧0<r.1.length∧BG (k+1+30*i+4) r.2) ?_ ?_
    ·refine B8 (fun _=>?_) (fun _=>?_)
     ·refine Bh ((n:Int) - 1) rfl (by omega) (by omega) (AU (Gr (F:=F) ag (by omega) (by omega)) ?_);rintro⟨y,an⟩ ⟨ab,ae,V⟩;simp only at ab ae V ⊢;exact Au ⟨⟨by simp,fun x U=>by simp at U;subst U;omega,by simp⟩,by simp,V⟩
     ·exact Au ⟨w1,w2,BG.Ag ag (by omega)⟩
    ·rintro⟨ao,an⟩ ⟨u1,ap,aq⟩;simp only at u1 ap aq ⊢;refine AU (Lx (F:=F) (b:=an) aq (by omega) (by simp) (by simp)) ?_;rintro⟨c,av⟩ ⟨ar,c2⟩;simp only at ar c2 ⊢;have aw:c=0∨c=1∨c=2:=by simp at ar;omega
     refine AU (SU (F:=F) (b:=av) ah rfl rfl hi ak c2 (by omega) aw) ?_;rintro⟨fl,ay⟩ ⟨t1,t2,t3⟩;simp only at t1 t2 t3 ⊢;have aI:=K.l1;have aJ:=K.l2;refine Bl (b:=N++ [ao]) (if_pos (by simp;omega)) (Bl (b:=O++ [fl]) (if_pos (by simp;omega)) ?_);exact Bh ((i+1:Nat):Int) (by simp) (by omega) (by omega) (Au ⟨N++ [ao],O++ [fl],ay,rfl,K.snoc ⟨u1,ap⟩ ⟨t1,t2⟩,t3.Ag (by omega)⟩)
  ·rintro st ⟨N,O,Y,rfl,K,aa⟩;unfold Lw;refine BB (by simp) (Au ⟨_,rfl,K,aa.Ag (by omega)⟩)
 ·rintro⟨aK,aL,aM,N,O⟩ ⟨K,az⟩;refine Au ⟨⟨n,by omega,?_⟩,az⟩;exact⟨by omega,ak,K.l1,K.l2,K.nx,K.fl⟩
end Pal
namespace Pal
open Go Go.Conc Go.Proofs
open Go.Proofs.Tryz
end Pal
namespace Pal
end Pal
namespace Pal
open Go Go.Conc Go.Proofs
open Go.Proofs.Tryz
end Pal
namespace Pal
theorem VJ.Q6{n:Nat}{J:JW}(K:VJ n J)(m:Nat):VL n (J.2.getD m []):=by
 rw [List.getD_eq_getElem?_getD];cases h:J.2[m]? with
 | none=>exact⟨by simp,fun x O=>by simp at O,by simp⟩
 | some l=>exact(K.fl m l h).1
end Pal
namespace Pal
abbrev Cv:=List (Int×Int)
structure CQ (n:Nat) (lk:Cv):Prop where
 len:lk.length≤8
 yr:∀l∈lk,0≤l.1∧l.1≤6
 sn:∀l∈lk,0≤l.2∧l.2<(n:Int)
 HY:lk.Pairwise (fun a b=>a.1≤b.1)
theorem UG{F n:Nat}{J:JW}{lk:Cv}(U:100<F)(K:VJ n J)(O:CQ n lk)(V:lk.length≤4):f116 F J lk=some none:=by
 have W:=K.l1;have Y:=K.pos;have Z:=K.le;refine D7 ?_;unfold f116;refine BB (by omega) ?_;refine AU (S:=fun q=>q=Sum.inr ()) ?_ (by rintro q rfl;exact Au rfl);refine DX lk.length (fun i s=>s=(i:Int)) rfl (by omega) ?_ ?_
 ·rintro i s hi rfl;unfold Lo;have hm:=List.getElem_mem hi;have aa:=O.yr _ hm;have hs:=O.sn _ hm;refine Cy (by omega) (BM (m:=i) rfl hi ?_);refine Bl (Lh F _ _ _) (BB (by simp;omega) ?_);refine AU (S:=fun c=>c=false) ?_ ?_
  ·refine B8 (fun h=>?_) (fun h=>Au rfl);refine Bh ((i - 1:Nat):Int) (by omega) (by omega) (by omega) (BM (m:=i - 1) rfl (by omega) ?_);have:=List.pairwise_iff_getElem.1 O.HY (i - 1) i (by omega) hi (by omega);exact Au (decide_eq_false (by omega))
  ·rintro c rfl;refine BB (by simp) (Bh ((n - 1:Nat):Int) (by omega) (by omega) (by omega) ?_);refine Bl (Lh F _ _ _) (BB (by simp;omega) ?_);exact Bh ((i+1:Nat):Int) (by simp) (by omega) (by omega) (Au rfl)
 ·rintro s rfl;unfold Lo;exact BB (by omega) (Au ⟨_,rfl,rfl⟩)
theorem Ve{F n:Nat}{J:JW}{lk:Cv}(K:100<F)(O:VJ n J)(U:CQ n lk)(V:lk.length≤4):f69 F J lk=some 0:=by
 unfold f69;rw [TJ K O];simp only [Option.bind_some,Option.isSome_none,Bool.false_eq_true,if_false];rw [UG K O U V];simp only [Option.bind_some];rw [RM];rfl
def Gx(lk:Cv):Nat:=match lk.getLast? with
 | some l=>l.1.toNat
 | none=>0
theorem Pb{n:Nat}{lk:Cv}(K:CQ n lk):Gx lk≤6:=by
 unfold Gx;split
 ·rename_i l h;have:=K.yr l (List.mem_of_getLast? h);omega
 ·omega
theorem OW{F n:Nat}{O:JW}{A:List Nat}{lk:Cv}{age:Int}{ms:List Int}{fl:Nat}(U:CQ n lk):JK F ((O.1,O.2,A),lk,age,ms,fl)=some ((Gx lk:Nat):Int):=by
 have V:=U.len;refine D7 ?_;unfold JK Gx;refine B8 (fun h=>?_) (fun h=>?_)
 ·simp only at h;have:lk= []:=List.length_eq_zero_iff.1 (by omega);subst this;exact Au rfl
 ·simp only at h;have K:lk.length - 1<lk.length:=by omega
  refine Bh ((lk.length - 1:Nat):Int) (by simp only;omega) (by omega) (by omega) (BM (m:=lk.length - 1) rfl K ?_);rw [List.getLast?_eq_getElem?,List.getElem?_eq_getElem K];have:=U.yr _ (List.getElem_mem K);refine Au ?_;simp only;omega
def Fh(J:JW)(m:Int)(l:Int×Int):Bool:=decide (m=l.2) || decide (l.2∈J.2.getD m.toNat [])
def EV(J:JW)(lk:Cv)(y:Nat)(m:Int):Bool:=lk.all fun l=>decide (l.1≠(y:Int)) || Fh J m l
def De(lk:Cv)(y:Nat)(m:Int):Nat→Nat
 | 0=>0
 | k+1=>match lk[k]? with
  | some l=>if l.1=(y:Int)∧m≠l.2 then De lk y m k ||| 1<<<k else De lk y m k
  | none=>De lk y m k
theorem LJ(lk:Cv)(y:Nat)(m:Int):∀k,k≤16→De lk y m k<65536
 | 0,_=>by unfold De;omega
 | k+1,h=>by
  have:=LJ lk y m k (by omega)
  unfold De
  split
  ·split
   ·exact LR this (P5 (by omega))
   ·exact this
  ·exact this
theorem TV{F:Nat}{l:List Int}{x:Int}(V:100<F)(W:l.length<100):A7 (f201 F l x) (fun r=>decide (0≤r)=decide (x∈l)):=by
 unfold f201;refine AU (S:=fun q=>match q with | Sum.inl r=>0≤r∧x∈l | Sum.inr _=>x ∉ l) ?_ ?_
 ·refine DX l.length (fun i s=>s=(i:Int)∧x ∉ l.take i) ⟨rfl,by simp⟩ (by omega) ?_ ?_
  ·rintro i s hi ⟨rfl,K⟩;unfold Li;refine Cy (by omega) (BM (m:=i) rfl hi ?_);refine B8 (fun h=>?_) (fun h=>?_)
   ·exact Au ⟨by omega,by rw [h];exact List.getElem_mem hi⟩
   ·refine Bh ((i+1:Nat):Int) (by simp) (by omega) (by omega) (Au ⟨rfl,?_⟩);rw [List.take_add_one,List.getElem?_eq_getElem hi];simp only [Option.toList_some,List.mem_append,List.mem_singleton];rintro(O | O)
    ·exact K O
    ·exact h O
  ·rintro s ⟨rfl,K⟩;unfold Li;exact BB (by omega) (Au ⟨_,rfl,by simpa using K⟩)
 ·rintro(r | u) U
  ·exact Au (by rw [decide_eq_true U.1,decide_eq_true U.2])
  ·exact Au (by rw [decide_eq_false U];rfl)
theorem Um{F:Nat}{l:List Int}{x:Int}(K:100<F)(O:l.length<100):f199 F l x=some (decide (x∈l)):=by
 refine D7 ?_;unfold f199;refine AU (TV K O) ?_;intro r U;exact Au U
theorem Uy{F n m:Nat}{J:JW}{A:List Nat}{s:Int}(U:100<F)(O:VJ n J)(hm:m<n):f192 F (J.1,J.2,A) (m:Int) s=some (if(m:Int)=s then some ((m:Int),none) else if s∈J.2.getD m [] then some ((m:Int),some s) else none):=by
 have W:=O.l2;refine D7 ?_;unfold f192;refine B8 (fun h=>?_) (fun h=>?_)
 ·rw [if_pos h];exact Au rfl
 ·rw [if_neg h];have V:J.2[m]? =some (J.2.getD m []):=by rw [List.getD_eq_getElem?_getD,List.getElem?_eq_getElem (by omega)];rfl
  refine Bl (Gz (m:=m) rfl V) (Bl (Um U (by have:=(O.Q6 m).len;omega)) ?_);refine B8 (fun K=>?_) (fun K=>?_)
  ·rw [if_pos (of_decide_eq_true K)];exact Au rfl
  ·rw [if_neg (of_decide_eq_false (by simpa using K))];exact Au rfl
theorem TR{F n m y:Nat}{J:JW}{A:List Nat}{lk:Cv}{age:Int}{ms:List Int}{fl:Nat}(ab:100<F)(ae:VJ n J)(ag:CQ n lk)(hm:m<n):
  JX F ((J.1,J.2,A),lk,age,ms,fl) (y:Int) (m:Int)=some (if EV J lk y (m:Int)=true then(De lk y (m:Int) lk.length,true) else(0,false)):=by
 have ak:=ag.len;refine D7 ?_;unfold JX;refine AU (S:=fun q=>(EV J lk y (m:Int)=true∧q=Sum.inr (De lk y (m:Int) lk.length))∨(EV J lk y (m:Int)=false∧q=Sum.inl (0,false))) ?_ ?_
 ·refine DX lk.length (fun i s=>s=(De lk y (m:Int) i,(i:Int))∧∀l∈lk.take i,(decide (l.1≠(y:Int)) || Fh J (m:Int) l)=true) ⟨rfl,by simp⟩ (by omega) ?_ ?_
  ·rintro i s hi ⟨rfl,K⟩;unfold KV;have ah:=LJ lk y (m:Int) i (by omega);have aa:lk[i]? =some lk[i]:=List.getElem?_eq_getElem hi;have step:∀(l:Int×Int),l=lk[i]→(decide (l.1≠(y:Int)) || Fh J (m:Int) l)=true→∀O∈lk.take (i+1),(decide (O.1≠(y:Int)) || Fh J (m:Int) O)=true:=by
    rintro l rfl ai O V;rw [List.take_add_one,aa] at V;simp only [Option.toList_some,List.mem_append,List.mem_singleton] at V;rcases V with h | rfl
    ·exact K O h
    ·exact ai
   have W:De lk y (m:Int) (i+1)=if lk[i].1=(y:Int)∧(m:Int)≠lk[i].2 then De lk y (m:Int) i ||| 1<<<i else De lk y (m:Int) i:=by
    rw [De,aa]
   refine Cy (by simp only;omega) (AU (S:=fun q=>(q=Sum.inr (De lk y (m:Int) (i+1))∧(decide (lk[i].1≠(y:Int)) || Fh J (m:Int) lk[i])=true)∨(q=Sum.inl (0,false)∧(decide (lk[i].1≠(y:Int)) || Fh J (m:Int) lk[i])=false)) ?_ ?_)
   ·refine BM (m:=i) rfl hi (B8 (fun h=>?_) (fun h=>?_))
    ·refine Au (.inl ⟨?_,by rw [decide_eq_true h];rfl⟩);rw [W,if_neg (fun Y=>h Y.1)]
    ·have aj:lk[i].1=(y:Int):=by simpa using h
     refine Bl (Uy ab ae hm) ?_;by_cases e:(m:Int)=lk[i].2
     ·rw [if_pos e];refine AU (S:=fun q=>q=Sum.inr (De lk y (m:Int) i)) (Cy rfl (Au rfl)) ?_;rintro q rfl;refine Au (.inl ⟨?_,by unfold Fh;rw [decide_eq_true e];simp⟩);rw [W,if_neg (fun Y=>Y.2 e)]
     ·rw [if_neg e];by_cases U:lk[i].2∈J.2.getD m []
      ·rw [if_pos U];refine AU (S:=fun q=>q=Sum.inr (De lk y (m:Int) i ||| 1<<<i)) ?_ ?_
       ·refine BB (by simp [I2]) (Cy rfl ?_);refine Bl (P7 F ah (by omega)) (Au rfl)
       ·rintro q rfl;refine Au (.inl ⟨?_,by unfold Fh;rw [show((m:Int)).toNat=m by omega,decide_eq_true U];simp⟩);rw [W,if_pos ⟨aj,e⟩]
      ·rw [if_neg U];refine AU (S:=fun q=>q=Sum.inl (0,false)) ?_ ?_
       ·exact BB (by simp [I2]) (BB (by simp [J5]) (Au rfl))
       ·rintro q rfl;refine Au (.inr ⟨rfl,?_⟩);unfold Fh;rw [show((m:Int)).toNat=m by omega,decide_eq_false U,decide_eq_false e,decide_eq_false h];rfl
   ·rintro q (⟨rfl,Z⟩ | ⟨rfl,Z⟩)
    ·rw [Sum.elim_inr];exact Bh ((i+1:Nat):Int) (by simp) (by omega) (by omega) (Au ⟨rfl,step _ rfl Z⟩)
    ·rw [Sum.elim_inl];refine Au (.inr ⟨?_,rfl⟩);unfold EV;rw [List.all_eq_false];exact⟨lk[i],List.getElem_mem hi,by rw [Z];simp⟩
  ·rintro s ⟨rfl,K⟩;unfold KV;refine BB (by simp only;omega) (Au ⟨_,rfl,.inl ⟨?_,rfl⟩⟩);rw [List.take_length] at K;unfold EV;exact List.all_eq_true.2 K
 ·rintro q (⟨h,rfl⟩ | ⟨h,rfl⟩)
  ·rw [Sum.elim_inr,if_pos h];exact Au rfl
  ·rw [Sum.elim_inl,if_neg (by rw [h];simp)];exact Au rfl
theorem Uk{F n m:Nat}{J:JW}{A:List Nat}{lk:Cv}{age:Int}{ms:List Int}{fl:Nat}(O:100<F)(U:VJ n J)(K:CQ n lk)(hm:m<n)(Y:ms.length<100)(V:fl<65536):
  JY F (J.1,J.2,A) lk age ms fl (m:Int)=some (if EV J lk ms.length (m:Int)=true then some (ms++ [(m:Int)],fl ||| De lk ms.length (m:Int) lk.length) else none):=by
 refine D7 ?_;unfold JY;refine Bl (TR O U K hm) ?_;have W:=LJ lk ms.length (m:Int) lk.length (by have:=K.len;omega);by_cases h:EV J lk ms.length (m:Int)=true
 ·rw [if_pos h,if_pos h];refine BB (by simp) (Bl (b:=ms) ?_ ?_)
  ·unfold f175 JN;have:Ds ([]:List Int) ms=some ms:=by unfold Ds;rw [if_pos (by simp;omega)];rfl
   rw [this];rfl
  ·refine Bl (b:=ms++ [(m:Int)]) ?_ ?_
   ·unfold Ds;rw [if_pos (by simp;omega)]
   ·exact Bl (if_pos ⟨V,W⟩) (Au rfl)
 ·rw [if_neg h,if_neg h];exact Cy rfl (Au rfl)
end Pal
