/- ToothNumbered: with other numbers of the mouths all answers are the same Part 4 of 8. -/
import Derived.Test.YtboibffcmhheiaaGreatDoorTbb
import Derived.Test.YtboibffcmhheiaaGreatDoorTbc
import Derived.Sort.AssemblyPlain
import Derived.Sort.Walk13a
set_option linter.all false
set_option maxRecDepth 100000
namespace Pal
open Go Go.Conc Go.Proofs
open Go.Proofs.Tryz
variable {J:Judge Tryz.prog}{E:LH}
def Hq(fuel:Nat)(K:Int×Int×(List Bl)):Option (Bj (Int×Int×(List Bl)) ((List Bl))):= if K.1<K.2.1 then((ix K.2.2 K.2.1).bind fun O=> (ix K.2.2 K.1).bind fun U=> (Au (K.1+1)).bind fun V=> (Au (K.2.1 - 1)).bind fun W=> some (.more (V,W,((K.2.2.set (Int.toNat K.1) O).set (Int.toNat K.2.1) U)))) else(some (.done K.2.2))
def f182(fuel:Nat)(p0:List Bl)(p1:Int)(p2:Int):Option ((List Bl)):= (Au (p2 - 1)).bind fun K=> Option.bind (iter (Hq fuel) fuel (p1,K,p0)) fun O=> some O
theorem QT{K:Nat}{Y:Nat}{Z:Nat}{ai:Ay}{p0:List (Bl)}{p1:Int}{p2:Int}(hW:WL 133 Cg E K Y Z ai p0){fuel:Nat}{r:(List Bl)}(ap:f182 fuel p0 p1 p2=some r):AR J 182 [.slice (AV K) Z Y,iV p1,iV p2,(fV 134)] E [(K,.cells ai 133 (0,0))] (fun w E' B'=>∃(aq:Ay),w= .tuple #[]∧B'= [(K,.cells aq 133 (0,0))]∧WL 133 Cg E' K Y Z aq r):=by
 refine Bg func182 fun Q a2 cs H ay az=>?_;unfold f182 at ap;obtain⟨a3,aA,aB⟩:=bs ap;refine zg 8 rfl (BX aA rfl rfl rfl ?_);obtain⟨aC,aD,aE⟩:=bs aB;refine zg 2 rfl (Bu (fun L s=>∃(aj:LH) (f17:Ay),Jn E H aj [bX K f17 133] [] L s (WL 133 Cg aj K Y Z f17 aC)) ?_ ?_)
 ·rintro _ _ ⟨aj,f17,rfl,rfl,aF,aG,aH⟩;obtain rfl:=oi aE;exact JL.fin (v:= .tuple #[]) rfl rfl (BY.list func182 rfl (vs:= []) trivial) (az aF rfl ⟨f17,rfl,(by first | rfl | simp | (simp [Value.cells])),aH⟩ aG)
 ·intro aI;refine JL.block (CM aD (fun L s W=>∃(aa:LH) (f25:Ay),Jn E H aa [bX K f25 133] [(0,.slice (AV K) Z Y),(8,iV W.1),(9,iV W.2.1)] L s (WL 133 Cg aa K Y Z f25 W.2.2)) ⟨E,ai,rfl,rfl,Ap,ay,hW⟩ ?_);rintro _ _ W ⟨aa,f25,rfl,rfl,ar,ab,V⟩ aJ ⟨a4,ak⟩ aK;have au:=ak;unfold Hq at au;refine zg 7 rfl (AX au (fun aL aM=>?_) (fun aL aN=>?_))
  ·refine zg 3 rfl (GF [13,15] [K] mixed rfl ?_);refine Bi 0 rfl rfl (Bi 1 rfl rfl ?_);refine Bi 2 rfl rfl (Bi 3 rfl rfl ?_);refine Bi 4 rfl rfl (Bi 5 rfl rfl ?_);obtain⟨O,ae,aO⟩:=bs aM;obtain⟨_,⟨_,_,rfl,rfl,⟨_,_,rfl,rfl,⟨al,am,rfl,aP⟩⟩⟩,aQ⟩:=WL.at V ae;refine Ck 6 V.2 ae underlying130 AM ?_;refine DW 7 [iV O.1,iV O.2.1,sV al O.2.2 am] 0 ab aQ B9 AM ?_;refine Bi 8 rfl rfl (Bi 9 rfl rfl ?_);obtain⟨U,ah,aR⟩:=bs aO;obtain⟨_,⟨_,_,rfl,rfl,⟨_,_,rfl,rfl,⟨an,ao,rfl,aS⟩⟩⟩,aT⟩:=WL.at V ah;refine Ck 10 V.2 ah underlying130 AM ?_;refine DW 11 [iV U.1,iV U.2.1,sV an U.2.2 ao] 0 ab aT B9 AM ?_;refine Ck 12 V.2 ah underlying130 AM ?_;have av:=WL.put (x':=O) (ws':= [iV O.1,iV O.2.1,sV al O.2.2 am]) V V.2 ah ⟨_,_,rfl,rfl,⟨_,_,rfl,rfl,⟨_,_,rfl,aP⟩⟩⟩;refine DU 13 0 ab AM av.2 fun aU=>?_;refine Ck 14 V.2 ae underlying130 AM ?_;have aw:=WL.put (x':=U) (ws':= [iV U.1,iV U.2.1,sV an U.2.2 ao]) av.1 V.2 ae ⟨_,_,rfl,rfl,⟨_,_,rfl,rfl,⟨_,_,rfl,aS⟩⟩⟩;refine DU 15 0 aU AM aw.2 fun aV=>?_;refine JB.fin (by decide+kernel) ?_;obtain⟨aW,aX,aY⟩:=bs aR;refine zg 3 rfl (Bh aX rfl rfl rfl ?_);obtain⟨aZ,a0,a1⟩:=bs aY;refine zg 4 rfl (BX a0 rfl rfl rfl ?_);refine zg 3 rfl ?_;obtain rfl:=oi a1;exact Az (aK _ _ (aW,aZ,((W.2.2.set (Int.toNat W.1) O).set (Int.toNat W.2.1) U)) ⟨aa,(Ba (Ba f25 (Int.toNat (W.1)*3) [iV O.1,iV O.2.1,sV al O.2.2 am]) (Int.toNat (W.2.1)*3) [iV U.1,iV U.2.1,sV an U.2.2 ao]),rfl,rfl,ar,aV,aw.1⟩ ak) rfl
  ·refine JL.exit rfl ?_;obtain rfl:=oi aN;obtain rfl:=aJ _ ak;exact Az (aI _ _ ⟨aa,f25,rfl,rfl,ar,ab,V⟩) rfl
def It(fuel:Nat)(p2:Int)(O:Int×Int×(List Bl))(K:Int):Option (Bj Int Int):= Option.bind (if K<p2 then((ix O.2.2 K).bind fun U=> (Au (K - 1)).bind fun V=> (ix O.2.2 V).bind fun W=> (f134 fuel U W).bind fun Y=> some (decide (¬(Y<0)))) else(some false)) fun Z=> if Z=true then((Au (K+1)).bind fun aa=> some (.more aa)) else(some (.done K))
def Qt(fuel:Nat)(K:Int×(List Bl)):Option (Bj (Int×(List Bl)) ((List Bl))):= if 1≤K.1 then((ix K.2 K.1).bind fun O=> (Au (K.1 - 1)).bind fun W=> (ix K.2 W).bind fun Y=> (f134 fuel O Y).bind fun Z=> if ¬(Z<0) then(some (.done K.2)) else((Au (K.1 - 1)).bind fun U=> (Au (K.1 - 1)).bind fun aa=> (ix K.2 aa).bind fun V=> (ix (K.2.set (Int.toNat K.1) V) U).bind fun ae=> (Au (K.1 - 1)).bind fun ab=> some (.more (ab,((K.2.set (Int.toNat K.1) V).set (Int.toNat U) O))))) else(some (.done K.2))
def P4(fuel:Nat)(p2:Int)(K:Int×(List Bl)):Option (Bj (Int×(List Bl)) ((List Bl))):= if K.1<p2 then((ix K.2 K.1).bind fun O=> (Au (K.1 - 1)).bind fun W=> (ix K.2 W).bind fun Y=> (f134 fuel O Y).bind fun Z=> if ¬(Z<0) then(some (.done K.2)) else((Au (K.1 - 1)).bind fun U=> (Au (K.1 - 1)).bind fun aa=> (ix K.2 aa).bind fun V=> (ix (K.2.set (Int.toNat K.1) V) U).bind fun ae=> (Au (K.1+1)).bind fun ab=> some (.more (ab,((K.2.set (Int.toNat K.1) V).set (Int.toNat U) O))))) else(some (.done K.2))
def LD(fuel:Nat)(p1:Int)(p2:Int)(K:Int×Int×(List Bl)):Option (Bj (Int×Int×(List Bl)) ((Bool×(List Bl))⊕((List Bl)))):= if K.2.1<5 then(Option.bind (iter (It fuel p2 K) fuel K.1) fun O=> if O=p2 then(some (.done (Sum.inl (true,K.2.2)))) else((Au (p2 - p1)).bind fun Z=> if Z<50 then(some (.done (Sum.inl (false,K.2.2)))) else((Au (O - 1)).bind fun U=> (Au (O - 1)).bind fun aa=> (ix K.2.2 aa).bind fun V=> (ix K.2.2 O).bind fun W=> (ix (K.2.2.set (Int.toNat O) V) U).bind fun an=> (Au (O - p1)).bind fun ab=> Option.bind (if 2≤ab then((Au (O - 1)).bind fun ae=> Option.bind (iter (Qt fuel) fuel (ae,((K.2.2.set (Int.toNat O) V).set (Int.toNat U) W))) fun ah=> some ah) else(some ((K.2.2.set (Int.toNat O) V).set (Int.toNat U) W))) fun Y=> (Au (p2 - O)).bind fun ai=> Option.bind (if 2≤ai then((Au (O+1)).bind fun aj=> Option.bind (iter (P4 fuel p2) fuel (aj,Y)) fun ak=> some ak) else(some Y)) fun al=> (Au (K.2.1+1)).bind fun am=> some (.more (O,am,al))))) else(some (.done (Sum.inr K.2.2)))
def f183(fuel:Nat)(p0:List Bl)(p1:Int)(p2:Int):Option (Bool×(List Bl)):= (Au (p1+1)).bind fun K=> Option.bind (iter (LD fuel p1 p2) fuel (K,0,p0)) fun O=> Sum.elim (fun r=>some r) (fun U=> some (false,U)) O
theorem Qw{K:Nat}{O:Nat}{U:Nat}{a5:Ay}{p0:List (Bl)}{p1:Int}{p2:Int}(hW:WL 133 Cg E K O U a5 p0){fuel:Nat}{r:Bool×(List Bl)}(bo:f183 fuel p0 p1 p2=some r):AR J 183 [.slice (AV K) U O,iV p1,iV p2,(fV 134)] E [(K,.cells a5 133 (0,0))] (fun w E' B'=>∃(bp:Ay),w= .bool r.1∧B'= [(K,.cells bp 133 (0,0))]∧WL 133 Cg E' K O U bp r.2):=by
 refine Bg func183 fun Q fe cs H cg a6=>?_;unfold f183 at bo;obtain⟨ff,ci,ck⟩:=bs bo;refine zg 7 rfl (Bh ci rfl rfl rfl ?_);obtain⟨bq,cm,a7⟩:=bs ck;refine zg 7 rfl (Bu (fun L s=>∃(a8:(List Bl)) (a9:LH) (f18:Ay),bq=Sum.inr a8∧Jn E H a9 [bX K f18 133] [] L s (WL 133 Cg a9 K O U f18 a8)) ?_ ?_)
 ·rintro _ _ ⟨a8,a9,f18,rfl,rfl,rfl,cn,co,cp⟩;have cq:=elim_inr a7;refine zg 4 rfl ?_;obtain rfl:=oi cq;exact AP func183 rfl rfl (a6 cn rfl ⟨f18,rfl,(by first | rfl | simp | (simp [Value.cells])),cp⟩ co)
 ·intro cr;refine JL.block (CM cm (fun L s Y=>∃(aP:LH) (f27:Ay),Jn E H aP [bX K f27 133] [(0,.slice (AV K) U O),(1,iV p1),(2,iV p2),(3,(fV 134)),(9,iV Y.1),(10,iV Y.2.1)] L s (WL 133 Cg aP K O U f27 Y.2.2)) ⟨E,a5,rfl,rfl,Ap,cg,hW⟩ ?_);rintro _ _ Y ⟨aP,f27,rfl,rfl,aQ,br,Z⟩ ba ⟨fg,az⟩ ct;have bu:=az;unfold LD at bu;refine zg 6 rfl (AX bu (fun cu cv=>?_) (fun cu cw=>?_))
  ·obtain⟨ak,cy,cz⟩:=bs cv;refine zg 4 rfl (CB [bX K f27 133] [(0,.slice (AV K) U O),(1,iV p1),(2,iV p2),(3,(fV 134)),(9,iV ak),(10,iV Y.2.1)] (fun aA al aB=>?_) (fun cA=>?_))
   ·refine zg 7 rfl (AX cz (fun cB cC=>?_) (fun cB cD=>?_))
    ·refine zg 4 rfl ?_;obtain rfl:=oi cC;obtain rfl:=ba _ az;have cE:=elim_inl a7;obtain rfl:=oi cE;exact AP func183 rfl rfl (a6 (aQ.Ab al) rfl ⟨f27,rfl,(by first | rfl | simp | (simp [Value.cells])),(Z.Ai al)⟩ aB)
    ·obtain⟨fh,cF,cG⟩:=bs cD;refine zg 6 rfl (BX cF rfl rfl rfl ?_);refine zg 2 rfl (AX cG (fun cH cI=>?_) (fun cH cJ=>?_))
     ·refine zg 4 rfl ?_;obtain rfl:=oi cI;obtain rfl:=ba _ az;have cK:=elim_inl a7;obtain rfl:=oi cK;exact AP func183 rfl rfl (a6 (aQ.Ab al) rfl ⟨f27,rfl,(by first | rfl | simp | (simp [Value.cells])),(Z.Ai al)⟩ aB)
     ·refine zg 2 rfl (GF [15,17] [K] mixed rfl ?_);refine Bi 0 rfl rfl (Bi 1 rfl rfl ?_);refine Bi 2 rfl rfl (Bi 3 rfl rfl ?_);obtain⟨bv,cM,cN⟩:=bs cJ;refine Gm 4 true rfl rfl (fun ρ h s' hs=>Du (h _ _ rfl) (h _ _ rfl) cM) (Bi 5 rfl rfl ?_);refine Bi 6 rfl rfl ?_;obtain⟨fj,cO,cP⟩:=bs cN;refine Gm 7 true rfl rfl (fun ρ h s' hs=>Du (h _ _ rfl) (h _ _ rfl) cO) ?_;obtain⟨aa,bw,cQ⟩:=bs cP;obtain⟨_,⟨_,_,rfl,rfl,⟨_,_,rfl,rfl,⟨aR,aS,rfl,cR⟩⟩⟩,cT⟩:=WL.at (Z.Ai al) bw;refine Ck 8 Z.2 bw underlying130 AM ?_;refine DW 9 [iV aa.1,iV aa.2.1,sV aR aa.2.2 aS] 0 aB cT B9 AM ?_;refine Bi 10 rfl rfl (Bi 11 rfl rfl ?_);obtain⟨ab,aT,cV⟩:=bs cQ;obtain⟨_,⟨_,_,rfl,rfl,⟨_,_,rfl,rfl,⟨aU,aV,rfl,cW⟩⟩⟩,cX⟩:=WL.at (Z.Ai al) aT;refine Ck 12 Z.2 aT underlying130 AM ?_;refine DW 13 [iV ab.1,iV ab.2.1,sV aU ab.2.2 aV] 0 aB cX B9 AM ?_;refine Ck 14 Z.2 aT underlying130 AM ?_;have aC:=WL.put (x':=aa) (ws':= [iV aa.1,iV aa.2.1,sV aR aa.2.2 aS]) (Z.Ai al) Z.2 aT ⟨_,_,rfl,rfl,⟨_,_,rfl,rfl,⟨_,_,rfl,cR⟩⟩⟩;refine DU 15 0 aB AM aC.2 fun cY=>?_;obtain⟨fk,bb,cZ⟩:=bs cV;obtain⟨_,⟨_,_,rfl,rfl,⟨_,_,rfl,rfl,⟨fm,fo,rfl,fp⟩⟩⟩,fq⟩:=WL.at aC.1 bb;refine Ck 16 (aC.1).2 bb underlying130 AM ?_;have bc:=WL.put (x':=ab) (ws':= [iV ab.1,iV ab.2.1,sV aU ab.2.2 aV]) aC.1 (aC.1).2 bb ⟨_,_,rfl,rfl,⟨_,_,rfl,rfl,⟨_,_,rfl,cW⟩⟩⟩;refine DU 17 0 cY AM bc.2 fun bx=>?_;refine JB.fin (by decide+kernel) ?_;obtain⟨fs,c0,c1⟩:=bs cZ;refine zg 5 rfl (BX c0 rfl rfl rfl ?_);obtain⟨c2,c3,c4⟩:=bs c1;refine zg 2 rfl (Bu (fun L s=>∃(am:LH) (f99:Ay),Jn aA H am [bX K f99 133] [(0,.slice (AV K) U O),(1,iV p1),(2,iV p2),(3,(fV 134)),(9,iV ak),(10,iV Y.2.1)] L s (WL 133 Cg am K O U f99 c2)) ?_ ?_)
      ·rintro _ _ ⟨am,f99,rfl,rfl,c5,bz,bA⟩;obtain⟨fu,c6,c7⟩:=bs c4;refine zg 4 rfl (BX c6 rfl rfl rfl ?_);obtain⟨bB,c8,c9⟩:=bs c7;refine zg 2 rfl (Bu (fun L s=>∃(aW:LH) (f109:Ay),Jn am H aW [bX K f109 133] [(0,.slice (AV K) U O),(1,iV p1),(2,iV p2),(3,(fV 134)),(9,iV ak),(10,iV Y.2.1)] L s (WL 133 Cg aW K O U f109 bB)) ?_ ?_)
       ·rintro _ _ ⟨aW,f109,rfl,rfl,da,db,dc⟩;obtain⟨dd,de,df⟩:=bs c9;refine zg 3 rfl (Bh de rfl rfl rfl ?_);refine zg 2 rfl ?_;obtain rfl:=oi df;exact Az (ct _ _ (ak,dd,bB) ⟨aW,f109,rfl,rfl,(((aQ.Ab al).Ab c5).Ab da),db,dc⟩ az) rfl
       ·intro bC;refine AX c8 (fun dg dh=>?_) (fun dg di=>?_)
        ·obtain⟨fv,dj,dk⟩:=bs dh;refine zg 3 rfl (Bh dj rfl rfl rfl ?_);obtain⟨dl,dm,dn⟩:=bs dk;refine zg 2 rfl (Bu (fun L s=>∃(aX:LH) (f134:Ay),Jn am H aX [bX K f134 133] [(0,.slice (AV K) U O),(1,iV p1),(2,iV p2),(3,(fV 134)),(9,iV ak),(10,iV Y.2.1)] L s (WL 133 Cg aX K O U f134 dl)) ?_ ?_)
         ·rintro _ _ ⟨aX,f134,rfl,rfl,dp,dq,dr⟩;obtain rfl:=oi dn;exact Az (bC _ _ ⟨aX,f134,rfl,rfl,dp,dq,dr⟩) rfl
         ·intro bD;refine JL.block (CM dm (fun L s an=>∃(aY:LH) (f142:Ay),Jn am H aY [bX K f142 133] [(0,.slice (AV K) U O),(1,iV p1),(2,iV p2),(3,(fV 134)),(9,iV ak),(10,iV Y.2.1),(12,iV an.1)] L s (WL 133 Cg aY K O U f142 an.2)) ⟨am,f99,rfl,rfl,Ap,bz,bA⟩ ?_);rintro _ _ an ⟨aY,f142,rfl,rfl,bd,aD,ae⟩ bE ⟨fw,aZ⟩ dt;have bF:=aZ;unfold P4 at bF;refine zg 7 rfl (AX bF (fun du dv=>?_) (fun du dw=>?_))
          ·refine zg 5 rfl (CY 10 [K] ⟨⟨0,_,rfl⟩,trivial⟩ aD fun ht=>?_);refine Bn ht rfl [0,1,2] rfl ?_;obtain⟨V,aE,dx⟩:=bs dv;obtain⟨_,⟨_,_,rfl,rfl,⟨_,_,rfl,rfl,⟨aF,aG,rfl,bG⟩⟩⟩,bH⟩:=WL.at ae aE;refine FK 3 ht (ae).2 aE underlying130 AM ?_;refine DI 4 ht [iV V.1,iV V.2.1,sV aF V.2.2 aG] 0 aD bH B9 AM ?_;refine Bn ht rfl [5,6] rfl ?_;obtain⟨fx,dy,dz⟩:=bs dx;refine Bv 7 ht rfl rfl (fun ρ h s' hs=>Du (h _ _ rfl) (h _ _ rfl) dy) ?_;obtain⟨ao,bI,dA⟩:=bs dz;obtain⟨_,⟨_,_,rfl,rfl,⟨_,_,rfl,rfl,⟨bJ,bK,rfl,dB⟩⟩⟩,dC⟩:=WL.at ae bI;refine FK 8 ht (ae).2 bI underlying130 AM ?_;refine DI 9 ht [iV ao.1,iV ao.2.1,sV bJ ao.2.2 bK] 0 aD dC B9 AM ?_;refine Cy [10,11,12] ?_;obtain⟨dD,dE,dF⟩:=bs dA;refine JV (vs:= [.agg #[iV V.1,iV V.2.1,sV aF V.2.2 aG],.agg #[iV ao.1,iV ao.2.1,sV bJ ao.2.2 bK]]) (GH bG dB dE) rfl rfl rfl rfl Gw rfl aD ?_;rintro _ bL _ ap ⟨rfl,rfl⟩ a0;refine zg 1 rfl (AA (v:= .bool (decide (¬(dD<0)))) rfl (fun ρ h=>Iq (h _ _ rfl)) ?_);refine JL.done (AX dF (fun dG dH=>?_) (fun dG dI=>?_))
           ·refine JL.exit rfl ?_;obtain rfl:=oi dH;obtain rfl:=bE _ aZ;exact Az (bD _ _ ⟨bL,f142,rfl,rfl,(bd.Ab ap),a0,(ae.Ai ap)⟩) rfl
           ·refine JL.skip (GF [15,17] [K] mixed rfl ?_);refine Bi 0 rfl rfl (Bi 1 rfl rfl ?_);refine Bi 2 rfl rfl (Bi 3 rfl rfl ?_);obtain⟨bM,dJ,dK⟩:=bs dI;refine Gm 4 true rfl rfl (fun ρ h s' hs=>Du (h _ _ rfl) (h _ _ rfl) dJ) (Bi 5 rfl rfl ?_);refine Bi 6 rfl rfl ?_;obtain⟨fy,dL,dM⟩:=bs dK;refine Gm 7 true rfl rfl (fun ρ h s' hs=>Du (h _ _ rfl) (h _ _ rfl) dL) ?_;obtain⟨ai,bN,dN⟩:=bs dM;obtain⟨_,⟨_,_,rfl,rfl,⟨_,_,rfl,rfl,⟨be,bf,rfl,dO⟩⟩⟩,dP⟩:=WL.at (ae.Ai ap) bN;refine Ck 8 ae.2 bN underlying130 AM ?_;refine DW 9 [iV ai.1,iV ai.2.1,sV be ai.2.2 bf] 0 a0 dP B9 AM ?_;refine Bi 10 rfl rfl (Bi 11 rfl rfl ?_);refine Ck 12 ae.2 aE underlying130 AM ?_;refine DW 13 [iV V.1,iV V.2.1,sV aF V.2.2 aG] 0 a0 bH B9 AM ?_;refine Ck 14 ae.2 aE underlying130 AM ?_;have aH:=WL.put (x':=ai) (ws':= [iV ai.1,iV ai.2.1,sV be ai.2.2 bf]) (ae.Ai ap) ae.2 aE ⟨_,_,rfl,rfl,⟨_,_,rfl,rfl,⟨_,_,rfl,dO⟩⟩⟩;refine DU 15 0 a0 AM aH.2 fun dQ=>?_;obtain⟨fz,bg,dR⟩:=bs dN;obtain⟨_,⟨_,_,rfl,rfl,⟨_,_,rfl,rfl,⟨fA,fB,rfl,fC⟩⟩⟩,fD⟩:=WL.at aH.1 bg;refine Ck 16 (aH.1).2 bg underlying130 AM ?_;have bO:=WL.put (x':=V) (ws':= [iV V.1,iV V.2.1,sV aF V.2.2 aG]) aH.1 (aH.1).2 bg ⟨_,_,rfl,rfl,⟨_,_,rfl,rfl,⟨_,_,rfl,(bG.Ai ap)⟩⟩⟩;refine DU 17 0 dQ AM bO.2 fun dS=>?_;refine JB.fin (by decide+kernel) ?_;obtain⟨dT,dU,dV⟩:=bs dR;refine zg 3 rfl (Bh dU rfl rfl rfl ?_);refine zg 2 rfl ?_;obtain rfl:=oi dV;exact Az (dt _ _ (dT,((an.2.set (Int.toNat an.1) ai).set (Int.toNat bM) V)) ⟨bL,(Ba (Ba f142 (Int.toNat (an.1)*3) [iV ai.1,iV ai.2.1,sV be ai.2.2 bf]) (Int.toNat (bM)*3) [iV V.1,iV V.2.1,sV aF V.2.2 aG]),rfl,rfl,(bd.Ab ap),dS,bO.1⟩ aZ) rfl
          ·refine JL.exit rfl ?_;obtain rfl:=oi dw;obtain rfl:=bE _ aZ;exact Az (bD _ _ ⟨aY,f142,rfl,rfl,bd,aD,ae⟩) rfl
        ·refine JL.skip ?_;obtain rfl:=oi di;exact Az (bC _ _ ⟨am,f99,rfl,rfl,Ap,bz,bA⟩) rfl
      ·intro bP;refine AX c3 (fun dW dX=>?_) (fun dW dY=>?_)
       ·obtain⟨fE,dZ,ea⟩:=bs dX;refine zg 3 rfl (BX dZ rfl rfl rfl ?_);obtain⟨eb,ec,ed⟩:=bs ea;refine zg 2 rfl (Bu (fun L s=>∃(a1:LH) (f224:Ay),Jn aA H a1 [bX K f224 133] [(0,.slice (AV K) U O),(1,iV p1),(2,iV p2),(3,(fV 134)),(9,iV ak),(10,iV Y.2.1)] L s (WL 133 Cg a1 K O U f224 eb)) ?_ ?_)
        ·rintro _ _ ⟨a1,f224,rfl,rfl,ee,ef,eg⟩;obtain rfl:=oi ed;exact Az (bP _ _ ⟨a1,f224,rfl,rfl,ee,ef,eg⟩) rfl
        ·intro bQ;refine JL.block (CM ec (fun L s aq=>∃(a2:LH) (f232:Ay),Jn aA H a2 [bX K f232 133] [(0,.slice (AV K) U O),(1,iV p1),(2,iV p2),(3,(fV 134)),(9,iV ak),(10,iV Y.2.1),(11,iV aq.1)] L s (WL 133 Cg a2 K O U f232 aq.2)) ⟨aA,(Ba (Ba f27 (Int.toNat (ak)*3) [iV aa.1,iV aa.2.1,sV aR aa.2.2 aS]) (Int.toNat (bv)*3) [iV ab.1,iV ab.2.1,sV aU ab.2.2 aV]),rfl,rfl,Ap,bx,bc.1⟩ ?_);rintro _ _ aq ⟨a2,f232,rfl,rfl,bh,aI,ah⟩ bR ⟨fF,a3⟩ eh;have bS:=a3;unfold Qt at bS;refine zg 6 rfl (AX bS (fun ei ej=>?_) (fun ei ek=>?_))
         ·refine zg 5 rfl (CY 10 [K] ⟨⟨0,_,rfl⟩,trivial⟩ aI fun ht=>?_);refine Bn ht rfl [0,1,2] rfl ?_;obtain⟨W,aJ,el⟩:=bs ej;obtain⟨_,⟨_,_,rfl,rfl,⟨_,_,rfl,rfl,⟨aK,aL,rfl,bT⟩⟩⟩,bU⟩:=WL.at ah aJ;refine FK 3 ht (ah).2 aJ underlying130 AM ?_;refine DI 4 ht [iV W.1,iV W.2.1,sV aK W.2.2 aL] 0 aI bU B9 AM ?_;refine Bn ht rfl [5,6] rfl ?_;obtain⟨fG,em,en⟩:=bs el;refine Bv 7 ht rfl rfl (fun ρ h s' hs=>Du (h _ _ rfl) (h _ _ rfl) em) ?_;obtain⟨ar,bV,eo⟩:=bs en;obtain⟨_,⟨_,_,rfl,rfl,⟨_,_,rfl,rfl,⟨bW,bY,rfl,ep⟩⟩⟩,eq⟩:=WL.at ah bV;refine FK 8 ht (ah).2 bV underlying130 AM ?_;refine DI 9 ht [iV ar.1,iV ar.2.1,sV bW ar.2.2 bY] 0 aI eq B9 AM ?_;refine Cy [10,11,12] ?_;obtain⟨er,et,eu⟩:=bs eo;refine JV (vs:= [.agg #[iV W.1,iV W.2.1,sV aK W.2.2 aL],.agg #[iV ar.1,iV ar.2.1,sV bW ar.2.2 bY]]) (GH bT ep et) rfl rfl rfl rfl Gw rfl aI ?_;rintro _ bZ _ au ⟨rfl,rfl⟩ a4;refine zg 1 rfl (AA (v:= .bool (decide (¬(er<0)))) rfl (fun ρ h=>Iq (h _ _ rfl)) ?_);refine JL.done (AX eu (fun ew ex=>?_) (fun ew ey=>?_))
          ·refine JL.exit rfl ?_;obtain rfl:=oi ex;obtain rfl:=bR _ a3;exact Az (bQ _ _ ⟨bZ,f232,rfl,rfl,(bh.Ab au),a4,(ah.Ai au)⟩) rfl
          ·refine JL.skip (GF [15,17] [K] mixed rfl ?_);refine Bi 0 rfl rfl (Bi 1 rfl rfl ?_);refine Bi 2 rfl rfl (Bi 3 rfl rfl ?_);obtain⟨b0,ez,eA⟩:=bs ey;refine Gm 4 true rfl rfl (fun ρ h s' hs=>Du (h _ _ rfl) (h _ _ rfl) ez) (Bi 5 rfl rfl ?_);refine Bi 6 rfl rfl ?_;obtain⟨fH,eB,eC⟩:=bs eA;refine Gm 7 true rfl rfl (fun ρ h s' hs=>Du (h _ _ rfl) (h _ _ rfl) eB) ?_;obtain⟨aj,b1,eD⟩:=bs eC;obtain⟨_,⟨_,_,rfl,rfl,⟨_,_,rfl,rfl,⟨bi,bj,rfl,eE⟩⟩⟩,eF⟩:=WL.at (ah.Ai au) b1;refine Ck 8 ah.2 b1 underlying130 AM ?_;refine DW 9 [iV aj.1,iV aj.2.1,sV bi aj.2.2 bj] 0 a4 eF B9 AM ?_;refine Bi 10 rfl rfl (Bi 11 rfl rfl ?_);refine Ck 12 ah.2 aJ underlying130 AM ?_;refine DW 13 [iV W.1,iV W.2.1,sV aK W.2.2 aL] 0 a4 bU B9 AM ?_;refine Ck 14 ah.2 aJ underlying130 AM ?_;have aM:=WL.put (x':=aj) (ws':= [iV aj.1,iV aj.2.1,sV bi aj.2.2 bj]) (ah.Ai au) ah.2 aJ ⟨_,_,rfl,rfl,⟨_,_,rfl,rfl,⟨_,_,rfl,eE⟩⟩⟩;refine DU 15 0 a4 AM aM.2 fun eG=>?_;obtain⟨fI,bl,eH⟩:=bs eD;obtain⟨_,⟨_,_,rfl,rfl,⟨_,_,rfl,rfl,⟨fJ,fK,rfl,fL⟩⟩⟩,fM⟩:=WL.at aM.1 bl;refine Ck 16 (aM.1).2 bl underlying130 AM ?_;have b2:=WL.put (x':=W) (ws':= [iV W.1,iV W.2.1,sV aK W.2.2 aL]) aM.1 (aM.1).2 bl ⟨_,_,rfl,rfl,⟨_,_,rfl,rfl,⟨_,_,rfl,(bT.Ai au)⟩⟩⟩;refine DU 17 0 eG AM b2.2 fun eI=>?_;refine JB.fin (by decide+kernel) ?_;obtain⟨eJ,eK,eL⟩:=bs eH;refine zg 3 rfl (BX eK rfl rfl rfl ?_);refine zg 2 rfl ?_;obtain rfl:=oi eL;exact Az (eh _ _ (eJ,((aq.2.set (Int.toNat aq.1) aj).set (Int.toNat b0) W)) ⟨bZ,(Ba (Ba f232 (Int.toNat (aq.1)*3) [iV aj.1,iV aj.2.1,sV bi aj.2.2 bj]) (Int.toNat (b0)*3) [iV W.1,iV W.2.1,sV aK W.2.2 aL]),rfl,rfl,(bh.Ab au),eI,b2.1⟩ a3) rfl
         ·refine JL.exit rfl ?_;obtain rfl:=oi ek;obtain rfl:=bR _ a3;exact Az (bQ _ _ ⟨a2,f232,rfl,rfl,bh,aI,ah⟩) rfl
       ·refine JL.skip ?_;obtain rfl:=oi dY;exact Az (bP _ _ ⟨aA,(Ba (Ba f27 (Int.toNat (ak)*3) [iV aa.1,iV aa.2.1,sV aR aa.2.2 aS]) (Int.toNat (bv)*3) [iV ab.1,iV ab.2.1,sV aU ab.2.2 aV]),rfl,rfl,Ap,bx,bc.1⟩) rfl
   ·refine JL.block (CC cy (fun aN=> [bX K f27 133]) (fun aN=> [(0,.slice (AV K) U O),(1,iV p1),(2,iV p2),(3,(fV 134)),(9,iV aN),(10,iV Y.2.1)]) Ap br ?_);rintro aN b3 av aO eM ⟨fN,bm⟩ eN;have b4:=bm;unfold It at b4;refine zg 2 rfl (CY 18 [K] ⟨⟨0,_,rfl⟩,trivial⟩ aO fun ht=>?_);refine Bn ht rfl [0,1,2,3] rfl ?_;obtain⟨eO,b5,eP⟩:=bs b4;refine FX 0 #[true,true,true,true,true,true,true,true,true,true,true,true,true,true,true,true,true,true] (fun L s=>∃(b6:LH),Jm b3 H b6 [bX K f27 133] [(0,.slice (AV K) U O),(1,iV p1),(2,iV p2),(3,(fV 134)),(9,iV aN),(10,iV Y.2.1),(36,.bool eO)] L s) ?_ ?_
    ·rintro _ _ ⟨b6,rfl,rfl,b7,b8⟩;refine AQ.fin (by decide+kernel) (BP eP (fun eQ eR=>?_) (fun eQ eS=>?_))
     ·obtain⟨eT,eU,eV⟩:=bs eR;refine zg 4 rfl (Bh eU rfl rfl rfl ?_);refine zg 3 rfl ?_;obtain rfl:=oi eV;exact eN eT (av.Ab b7) b8 rfl bm
     ·refine JL.exit rfl ?_;obtain rfl:=oi eS;obtain rfl:=eM _ bm;exact cA (av.Ab b7) b8 rfl
    ·intro b9;refine F9 (q:=aN<p2) (i:=22) rfl (fun bn=>?_) (fun bn=>?_)
     ·have eW:=ip b5 bn;refine Bn ht rfl [4,5,6] rfl ?_;obtain⟨aw,ca,eX⟩:=bs eW;obtain⟨_,⟨_,_,rfl,rfl,⟨_,_,rfl,rfl,⟨cb,cc,rfl,eY⟩⟩⟩,eZ⟩:=WL.at (Z.Ai av) ca;refine Bv 7 ht rfl rfl (fun ρ h s' hs=>Ge ((Z.Ai av)).2 ca underlying130 AM (h _ _ rfl) (h _ _ rfl)) ?_;refine DI 8 ht [iV aw.1,iV aw.2.1,sV cb aw.2.2 cc] 0 aO eZ B9 AM ?_;refine Bn ht rfl [9,10] rfl ?_;obtain⟨fO,e0,e1⟩:=bs eX;refine Bv 11 ht rfl rfl (fun ρ h s' hs=>Du (h _ _ rfl) (h _ _ rfl) e0) ?_;obtain⟨ay,cd,e3⟩:=bs e1;obtain⟨_,⟨_,_,rfl,rfl,⟨_,_,rfl,rfl,⟨ce,cf,rfl,e4⟩⟩⟩,e5⟩:=WL.at (Z.Ai av) cd;refine Bv 12 ht rfl rfl (fun ρ h s' hs=>Ge ((Z.Ai av)).2 cd underlying130 AM (h _ _ rfl) (h _ _ rfl)) ?_;refine DI 13 ht [iV ay.1,iV ay.2.1,sV ce ay.2.2 cf] 0 aO e5 B9 AM ?_;obtain⟨e6,e7,e8⟩:=bs e3;refine Hm (i:=14) ⟨⟨0,_,rfl⟩,trivial⟩ (vs:= [.agg #[iV aw.1,iV aw.2.1,sV cb aw.2.2 cc],.agg #[iV ay.1,iV ay.2.1,sV ce ay.2.2 cf]]) (GH eY e4 e7) (by decide+kernel) rfl rfl rfl rfl Gw rfl aO ?_;rintro _ e9 _ fa ⟨rfl,rfl⟩ fb;refine Cm 15 ht rfl rfl ?_;refine Bv (v:= .bool (decide (¬(e6<0)))) 16 ht rfl rfl (fun ρ h s' hs=>Iq (h _ _ rfl)) ?_;refine Cm 17 ht rfl rfl ?_;obtain rfl:=oi e8;refine DM ?_ (b9 _ _ ⟨e9,rfl,rfl,fa,fb⟩);exact⟨rfl,rfl,rfl,rfl,rfl,rfl,rfl,trivial⟩
     ·have fc:=im b5 bn;refine Bn ht rfl [4,5,6,7,8,9,10,11,12,13,14,15,16,17] rfl ?_;obtain rfl:=oi fc;refine DM ?_ (b9 _ _ ⟨b3,rfl,rfl,Ap,aO⟩);exact⟨rfl,rfl,rfl,rfl,rfl,rfl,rfl,trivial⟩
  ·refine JL.exit rfl ?_;obtain rfl:=oi cw;have fd:bq=(Sum.inr Y.2.2):=(ba _ az).symm;exact Az (cr _ _ ⟨Y.2.2,aP,f27,fd,rfl,rfl,aQ,br,Z⟩) rfl
def JZ(fuel:Nat)(p0:List Bl)(p1:Int)(p3:Int)(O:Bl)(U:Bl)(V:Int)(K:Int):Option (Bj Int Int):= Option.bind (if K≤V then((ix ((p0.set (Int.toNat p1) O).set (Int.toNat p3) U) K).bind fun W=> (ix ((p0.set (Int.toNat p1) O).set (Int.toNat p3) U) p1).bind fun Y=> (f134 fuel W Y).bind fun Z=> some (decide (Z<0))) else(some false)) fun aa=> if aa=true then((Au (K+1)).bind fun ab=> some (.more ab)) else(some (.done K))
def J1(fuel:Nat)(p0:List Bl)(p1:Int)(p3:Int)(O:Bl)(U:Bl)(V:Int)(K:Int):Option (Bj Int Int):= Option.bind (if V≤K then((ix ((p0.set (Int.toNat p1) O).set (Int.toNat p3) U) K).bind fun W=> (ix ((p0.set (Int.toNat p1) O).set (Int.toNat p3) U) p1).bind fun Y=> (f134 fuel W Y).bind fun Z=> some (decide (¬(Z<0)))) else(some false)) fun aa=> if aa=true then((Au (K - 1)).bind fun ab=> some (.more ab)) else(some (.done K))
def I3(fuel:Nat)(p1:Int)(O:Int×Int×(List Bl))(K:Int):Option (Bj Int Int):= Option.bind (if K≤O.2.1 then((ix O.2.2 K).bind fun U=> (ix O.2.2 p1).bind fun V=> (f134 fuel U V).bind fun W=> some (decide (W<0))) else(some false)) fun Y=> if Y=true then((Au (K+1)).bind fun Z=> some (.more Z)) else(some (.done K))
def I4(fuel:Nat)(p1:Int)(O:Int×Int×(List Bl))(U:Int)(K:Int):Option (Bj Int Int):= Option.bind (if U≤K then((ix O.2.2 K).bind fun V=> (ix O.2.2 p1).bind fun W=> (f134 fuel V W).bind fun Y=> some (decide (¬(Y<0)))) else(some false)) fun Z=> if Z=true then((Au (K - 1)).bind fun aa=> some (.more aa)) else(some (.done K))
def Iw(fuel:Nat)(p1:Int)(K:Int×Int×(List Bl)):Option (Bj (Int×Int×(List Bl)) (Int×(List Bl))):= Option.bind (iter (I3 fuel p1 K) fuel K.1) fun O=> Option.bind (iter (I4 fuel p1 K O) fuel K.2.1) fun U=> if U<O then(some (.done (U,K.2.2))) else((ix K.2.2 U).bind fun V=> (ix K.2.2 O).bind fun W=> (Au (O+1)).bind fun Y=> (Au (U - 1)).bind fun Z=> some (.more (Y,Z,((K.2.2.set (Int.toNat O) V).set (Int.toNat U) W))))
def f185(fuel:Nat)(p0:List Bl)(p1:Int)(p2:Int)(p3:Int):Option (Int×Bool×(List Bl)):= (ix p0 p3).bind fun K=> (ix p0 p1).bind fun O=> (Au (p1+1)).bind fun Z=> (Au (p2 - 1)).bind fun Y=> Option.bind (iter (JZ fuel p0 p1 p3 K O Y) fuel Z) fun W=> Option.bind (iter (J1 fuel p0 p1 p3 K O W) fuel Y) fun U=> if U<W then((ix ((p0.set (Int.toNat p1) K).set (Int.toNat p3) O) p1).bind fun aa=> (ix ((p0.set (Int.toNat p1) K).set (Int.toNat p3) O) U).bind fun ab=> some (U,true,((((p0.set (Int.toNat p1) K).set (Int.toNat p3) O).set (Int.toNat U) aa).set (Int.toNat p1) ab))) else((ix ((p0.set (Int.toNat p1) K).set (Int.toNat p3) O) U).bind fun ae=> (ix ((p0.set (Int.toNat p1) K).set (Int.toNat p3) O) W).bind fun ah=> (Au (W+1)).bind fun ai=> (Au (U - 1)).bind fun aj=> Option.bind (iter (Iw fuel p1) fuel (ai,aj,((((p0.set (Int.toNat p1) K).set (Int.toNat p3) O).set (Int.toNat W) ae).set (Int.toNat U) ah))) fun V=> (ix V.2 p1).bind fun ak=> (ix V.2 V.1).bind fun al=> some (V.1,false,((V.2.set (Int.toNat V.1) ak).set (Int.toNat p1) al)))
theorem Rc{K:Nat}{W:Nat}{Y:Nat}{ah:Ay}{p0:List (Bl)}{p1:Int}{p2:Int}{p3:Int}(hW:WL 133 Cg E K W Y ah p0){fuel:Nat}{r:Int×Bool×(List Bl)}(bJ:f185 fuel p0 p1 p2 p3=some r):AR J 185 [.slice (AV K) Y W,iV p1,iV p2,iV p3,(fV 134)] E [(K,.cells ah 133 (0,0))] (fun w E' B'=>∃(bK:Ay),w= .tuple #[iV r.1,.bool r.2.1]∧B'= [(K,.cells bK 133 (0,0))]∧WL 133 Cg E' K W Y bK r.2.2):=by
 refine Bg func185 fun Q gi cs H a7 bL=>?_;unfold f185 at bJ;refine zg 6 rfl (GF [13,15] [K] mixed rfl ?_);refine Bi 0 rfl rfl (Bi 1 rfl rfl ?_);refine Bi 2 rfl rfl (Bi 3 rfl rfl ?_);refine Bi 4 rfl rfl (Bi 5 rfl rfl ?_);obtain⟨O,aX,cX⟩:=bs bJ;obtain⟨_,⟨_,_,rfl,rfl,⟨_,_,rfl,rfl,⟨ai,c4,rfl,cY⟩⟩⟩,cZ⟩:=WL.at hW aX;refine Ck 6 hW.2 aX underlying130 AM ?_;refine DW 7 [iV O.1,iV O.2.1,sV ai O.2.2 c4] 0 a7 cZ B9 AM ?_;refine Bi 8 rfl rfl (Bi 9 rfl rfl ?_);obtain⟨U,aO,c0⟩:=bs cX;obtain⟨_,⟨_,_,rfl,rfl,⟨_,_,rfl,rfl,⟨aj,ak,rfl,c1⟩⟩⟩,c2⟩:=WL.at hW aO;refine Ck 10 hW.2 aO underlying130 AM ?_;refine DW 11 [iV U.1,iV U.2.1,sV aj U.2.2 ak] 0 a7 c2 B9 AM ?_;refine Ck 12 hW.2 aO underlying130 AM ?_;have bM:=WL.put (x':=O) (ws':= [iV O.1,iV O.2.1,sV ai O.2.2 c4]) hW hW.2 aO ⟨_,_,rfl,rfl,⟨_,_,rfl,rfl,⟨_,_,rfl,cY⟩⟩⟩;refine DU 13 0 a7 AM bM.2 fun c3=>?_;refine Ck 14 hW.2 aX underlying130 AM ?_;have V:=WL.put (x':=U) (ws':= [iV U.1,iV U.2.1,sV aj U.2.2 ak]) bM.1 hW.2 aX ⟨_,_,rfl,rfl,⟨_,_,rfl,rfl,⟨_,_,rfl,c1⟩⟩⟩;refine DU 15 0 c3 AM V.2 fun c5=>?_;refine JB.fin (by decide+kernel) ?_;obtain⟨gj,c6,c7⟩:=bs c0;refine zg 3 rfl (Bh c6 rfl rfl rfl ?_);obtain⟨aY,c8,c9⟩:=bs c7;refine zg 1 rfl (BX c8 rfl rfl rfl ?_);obtain⟨az,da,db⟩:=bs c9;refine zg 4 rfl (CB [bX K (Ba (Ba ah (Int.toNat (p1)*3) [iV O.1,iV O.2.1,sV ai O.2.2 c4]) (Int.toNat (p3)*3) [iV U.1,iV U.2.1,sV aj U.2.2 ak]) 133] [(0,.slice (AV K) Y W),(1,iV p1),(4,(fV 134)),(12,iV az),(13,iV aY)] (fun gk aa dc=>?_) (fun dd=>?_))
 ·obtain⟨a8,de,df⟩:=bs db;refine JL.seq (CB [bX K (Ba (Ba ah (Int.toNat (p1)*3) [iV O.1,iV O.2.1,sV ai O.2.2 c4]) (Int.toNat (p3)*3) [iV U.1,iV U.2.1,sV aj U.2.2 ak]) 133] [(0,.slice (AV K) Y W),(1,iV p1),(4,(fV 134)),(12,iV az),(13,iV a8)] (fun a9 aw aA=>?_) (fun dg=>?_))
  ·refine zg 7 rfl (AX df (fun dh di=>?_) (fun dh dj=>?_))
   ·refine JL.seq (GF [13,15] [K] mixed rfl ?_);refine Bi 0 rfl rfl (Bi 1 rfl rfl ?_);refine Bi 2 rfl rfl (Bi 3 rfl rfl ?_);refine Bi 4 rfl rfl (Bi 5 rfl rfl ?_);refine Ck 6 hW.2 aO underlying130 AM ?_;obtain⟨al,ba,dk⟩:=bs di;obtain⟨_,⟨_,_,rfl,rfl,⟨_,_,rfl,rfl,⟨bb,bc,rfl,dl⟩⟩⟩,dm⟩:=WL.at (V.1.Ai (aa.Ab aw)) ba;refine DW 7 [iV al.1,iV al.2.1,sV bb al.2.2 bc] 0 aA dm B9 AM ?_;refine Bi 8 rfl rfl (Bi 9 rfl rfl ?_);obtain⟨am,aZ,dn⟩:=bs dk;obtain⟨_,⟨_,_,rfl,rfl,⟨_,_,rfl,rfl,⟨bd,be,rfl,dp⟩⟩⟩,dq⟩:=WL.at (V.1.Ai (aa.Ab aw)) aZ;refine Ck 10 (V.1).2 aZ underlying130 AM ?_;refine DW 11 [iV am.1,iV am.2.1,sV bd am.2.2 be] 0 aA dq B9 AM ?_;refine Ck 12 (V.1).2 aZ underlying130 AM ?_;have bN:=WL.put (x':=al) (ws':= [iV al.1,iV al.2.1,sV bb al.2.2 bc]) (V.1.Ai (aa.Ab aw)) (V.1).2 aZ ⟨_,_,rfl,rfl,⟨_,_,rfl,rfl,⟨_,_,rfl,dl⟩⟩⟩;refine DU 13 0 aA AM bN.2 fun dr=>?_;refine Ck 14 (V.1).2 ba underlying130 AM ?_;have bO:=WL.put (x':=am) (ws':= [iV am.1,iV am.2.1,sV bd am.2.2 be]) bN.1 (V.1).2 ba ⟨_,_,rfl,rfl,⟨_,_,rfl,rfl,⟨_,_,rfl,dp⟩⟩⟩;refine DU 15 0 dr AM bO.2 fun dt=>?_;refine JB.fin (by decide+kernel) (zg 6 rfl ?_);obtain rfl:=oi dn;exact AP func185 rfl rfl (bL (aa.Ab aw) rfl ⟨(Ba (Ba (Ba (Ba ah (Int.toNat (p1)*3) [iV O.1,iV O.2.1,sV ai O.2.2 c4]) (Int.toNat (p3)*3) [iV U.1,iV U.2.1,sV aj U.2.2 ak]) (Int.toNat (a8)*3) [iV al.1,iV al.2.1,sV bb al.2.2 bc]) (Int.toNat (p1)*3) [iV am.1,iV am.2.1,sV bd am.2.2 be]),rfl,(by first | rfl | simp | (simp [Value.cells])),bO.1⟩ dt)
   ·refine zg 2 rfl (GF [13,15] [K] mixed rfl ?_);refine Bi 0 rfl rfl (Bi 1 rfl rfl ?_);refine Bi 2 rfl rfl (Bi 3 rfl rfl ?_);refine Bi 4 rfl rfl (Bi 5 rfl rfl ?_);obtain⟨an,a0,du⟩:=bs dj;obtain⟨_,⟨_,_,rfl,rfl,⟨_,_,rfl,rfl,⟨bf,bg,rfl,dv⟩⟩⟩,dw⟩:=WL.at (V.1.Ai (aa.Ab aw)) a0;refine Ck 6 (V.1).2 a0 underlying130 AM ?_;refine DW 7 [iV an.1,iV an.2.1,sV bf an.2.2 bg] 0 aA dw B9 AM ?_;refine Bi 8 rfl rfl (Bi 9 rfl rfl ?_);obtain⟨ao,a1,dx⟩:=bs du;obtain⟨_,⟨_,_,rfl,rfl,⟨_,_,rfl,rfl,⟨bh,bi,rfl,dy⟩⟩⟩,dz⟩:=WL.at (V.1.Ai (aa.Ab aw)) a1;refine Ck 10 (V.1).2 a1 underlying130 AM ?_;refine DW 11 [iV ao.1,iV ao.2.1,sV bh ao.2.2 bi] 0 aA dz B9 AM ?_;refine Ck 12 (V.1).2 a1 underlying130 AM ?_;have bP:=WL.put (x':=an) (ws':= [iV an.1,iV an.2.1,sV bf an.2.2 bg]) (V.1.Ai (aa.Ab aw)) (V.1).2 a1 ⟨_,_,rfl,rfl,⟨_,_,rfl,rfl,⟨_,_,rfl,dv⟩⟩⟩;refine DU 13 0 aA AM bP.2 fun dA=>?_;refine Ck 14 (V.1).2 a0 underlying130 AM ?_;have bQ:=WL.put (x':=ao) (ws':= [iV ao.1,iV ao.2.1,sV bh ao.2.2 bi]) bP.1 (V.1).2 a0 ⟨_,_,rfl,rfl,⟨_,_,rfl,rfl,⟨_,_,rfl,dy⟩⟩⟩;refine DU 15 0 dA AM bQ.2 fun dB=>?_;refine JB.fin (by decide+kernel) ?_;obtain⟨gl,dC,dD⟩:=bs dx;refine zg 3 rfl (Bh dC rfl rfl rfl ?_);obtain⟨gm,dE,dF⟩:=bs dD;refine zg 5 rfl (BX dE rfl rfl rfl ?_);obtain⟨bj,dG,dH⟩:=bs dF;refine zg 3 rfl (Bu (fun L s=>∃(bl:LH) (f102:Ay),Jn a9 H bl [bX K f102 133] [(0,.slice (AV K) Y W),(1,iV p1),(13,iV bj.1)] L s (WL 133 Cg bl K W Y f102 bj.2)) ?_ ?_)
    ·rintro _ _ ⟨bl,f102,rfl,rfl,dI,bm,au⟩;refine JL.seq (GF [13,15] [K] mixed rfl ?_);refine Bi 0 rfl rfl (Bi 1 rfl rfl ?_);refine Bi 2 rfl rfl (Bi 3 rfl rfl ?_);refine Bi 4 rfl rfl (Bi 5 rfl rfl ?_);obtain⟨ap,a2,dJ⟩:=bs dH;obtain⟨_,⟨_,_,rfl,rfl,⟨_,_,rfl,rfl,⟨bn,bo,rfl,dK⟩⟩⟩,dL⟩:=WL.at au a2;refine Ck 6 au.2 a2 underlying130 AM ?_;refine DW 7 [iV ap.1,iV ap.2.1,sV bn ap.2.2 bo] 0 bm dL B9 AM ?_;refine Bi 8 rfl rfl (Bi 9 rfl rfl ?_);obtain⟨aq,a3,dM⟩:=bs dJ;obtain⟨_,⟨_,_,rfl,rfl,⟨_,_,rfl,rfl,⟨bp,bq,rfl,dN⟩⟩⟩,dO⟩:=WL.at au a3;refine Ck 10 au.2 a3 underlying130 AM ?_;refine DW 11 [iV aq.1,iV aq.2.1,sV bp aq.2.2 bq] 0 bm dO B9 AM ?_;refine Ck 12 au.2 a3 underlying130 AM ?_;have bR:=WL.put (x':=ap) (ws':= [iV ap.1,iV ap.2.1,sV bn ap.2.2 bo]) au au.2 a3 ⟨_,_,rfl,rfl,⟨_,_,rfl,rfl,⟨_,_,rfl,dK⟩⟩⟩;refine DU 13 0 bm AM bR.2 fun dP=>?_;refine Ck 14 au.2 a2 underlying130 AM ?_;have bS:=WL.put (x':=aq) (ws':= [iV aq.1,iV aq.2.1,sV bp aq.2.2 bq]) bR.1 au.2 a2 ⟨_,_,rfl,rfl,⟨_,_,rfl,rfl,⟨_,_,rfl,dN⟩⟩⟩;refine DU 15 0 dP AM bS.2 fun dQ=>?_;refine JB.fin (by decide+kernel) (zg 6 rfl ?_);obtain rfl:=oi dM;exact AP func185 rfl rfl (bL ((aa.Ab aw).Ab dI) rfl ⟨(Ba (Ba f102 (Int.toNat (bj.1)*3) [iV ap.1,iV ap.2.1,sV bn ap.2.2 bo]) (Int.toNat (p1)*3) [iV aq.1,iV aq.2.1,sV bp aq.2.2 bq]),rfl,(by first | rfl | simp | (simp [Value.cells])),bS.1⟩ dQ)
    ·intro dR;refine JL.block (CM dG (fun L s av=>∃(br:LH) (f127:Ay),Jn a9 H br [bX K f127 133] [(0,.slice (AV K) Y W),(1,iV p1),(4,(fV 134)),(12,iV av.1),(13,iV av.2.1)] L s (WL 133 Cg br K W Y f127 av.2.2)) ⟨a9,(Ba (Ba (Ba (Ba ah (Int.toNat (p1)*3) [iV O.1,iV O.2.1,sV ai O.2.2 c4]) (Int.toNat (p3)*3) [iV U.1,iV U.2.1,sV aj U.2.2 ak]) (Int.toNat (az)*3) [iV an.1,iV an.2.1,sV bf an.2.2 bg]) (Int.toNat (a8)*3) [iV ao.1,iV ao.2.1,sV bh ao.2.2 bi]),rfl,rfl,Ap,dB,bQ.1⟩ ?_);rintro _ _ av ⟨br,f127,rfl,rfl,bT,dS,Z⟩ dT ⟨gn,bu⟩ dU;have bU:=bu;unfold Iw at bU;obtain⟨ay,dV,dW⟩:=bs bU;refine zg 2 rfl (CB [bX K f127 133] [(0,.slice (AV K) Y W),(1,iV p1),(4,(fV 134)),(12,iV ay),(13,iV av.2.1)] (fun gp ar dX=>?_) (fun dY=>?_))
     ·obtain⟨bv,dZ,ea⟩:=bs dW;refine JL.seq (CB [bX K f127 133] [(0,.slice (AV K) Y W),(1,iV p1),(4,(fV 134)),(12,iV ay),(13,iV bv)] (fun bV aB a4=>?_) (fun eb=>?_))
      ·refine zg 7 rfl (AX ea (fun ec ed=>?_) (fun ec ee=>?_))
       ·refine JL.exit rfl ?_;obtain rfl:=oi ed;obtain rfl:=dT _ bu;exact Az (dR _ _ ⟨bV,f127,rfl,rfl,((bT.Ab ar).Ab aB),a4,(Z.Ai (ar.Ab aB))⟩) rfl
       ·refine zg 2 rfl (GF [13,15] [K] mixed rfl ?_);refine Bi 0 rfl rfl (Bi 1 rfl rfl ?_);refine Bi 2 rfl rfl (Bi 3 rfl rfl ?_);refine Bi 4 rfl rfl (Bi 5 rfl rfl ?_);obtain⟨ab,a5,ef⟩:=bs ee;obtain⟨_,⟨_,_,rfl,rfl,⟨_,_,rfl,rfl,⟨bw,bx,rfl,eg⟩⟩⟩,eh⟩:=WL.at (Z.Ai (ar.Ab aB)) a5;refine Ck 6 Z.2 a5 underlying130 AM ?_;refine DW 7 [iV ab.1,iV ab.2.1,sV bw ab.2.2 bx] 0 a4 eh B9 AM ?_;refine Bi 8 rfl rfl (Bi 9 rfl rfl ?_);obtain⟨ae,a6,ei⟩:=bs ef;obtain⟨_,⟨_,_,rfl,rfl,⟨_,_,rfl,rfl,⟨bz,bA,rfl,ej⟩⟩⟩,ek⟩:=WL.at (Z.Ai (ar.Ab aB)) a6;refine Ck 10 Z.2 a6 underlying130 AM ?_;refine DW 11 [iV ae.1,iV ae.2.1,sV bz ae.2.2 bA] 0 a4 ek B9 AM ?_;refine Ck 12 Z.2 a6 underlying130 AM ?_;have bW:=WL.put (x':=ab) (ws':= [iV ab.1,iV ab.2.1,sV bw ab.2.2 bx]) (Z.Ai (ar.Ab aB)) Z.2 a6 ⟨_,_,rfl,rfl,⟨_,_,rfl,rfl,⟨_,_,rfl,eg⟩⟩⟩;refine DU 13 0 a4 AM bW.2 fun el=>?_;refine Ck 14 Z.2 a5 underlying130 AM ?_;have bY:=WL.put (x':=ae) (ws':= [iV ae.1,iV ae.2.1,sV bz ae.2.2 bA]) bW.1 Z.2 a5 ⟨_,_,rfl,rfl,⟨_,_,rfl,rfl,⟨_,_,rfl,ej⟩⟩⟩;refine DU 15 0 el AM bY.2 fun em=>?_;refine JB.fin (by decide+kernel) ?_;obtain⟨en,eo,ep⟩:=bs ei;refine zg 3 rfl (Bh eo rfl rfl rfl ?_);obtain⟨eq,er,et⟩:=bs ep;refine zg 4 rfl (BX er rfl rfl rfl ?_);refine zg 3 rfl ?_;obtain rfl:=oi et;exact Az (dU _ _ (en,eq,((av.2.2.set (Int.toNat ay) ab).set (Int.toNat bv) ae)) ⟨bV,(Ba (Ba f127 (Int.toNat (ay)*3) [iV ab.1,iV ab.2.1,sV bw ab.2.2 bx]) (Int.toNat (bv)*3) [iV ae.1,iV ae.2.1,sV bz ae.2.2 bA]),rfl,rfl,((bT.Ab ar).Ab aB),em,bY.1⟩ bu) rfl
      ·refine JL.block (CC dZ (fun aP=> [bX K f127 133]) (fun aP=> [(0,.slice (AV K) Y W),(1,iV p1),(4,(fV 134)),(12,iV ay),(13,iV aP)]) Ap dX ?_);rintro aP bZ aC aQ eu ⟨gq,bB⟩ ew;have b0:=bB;unfold I4 at b0;refine zg 2 rfl (CY 17 [K] ⟨⟨0,_,rfl⟩,trivial⟩ aQ fun ht=>?_);refine Bn ht rfl [0,1,2,3] rfl ?_;obtain⟨ex,b1,ey⟩:=bs b0;refine FX 0 #[true,true,true,true,true,true,true,true,true,true,true,true,true,true,true,true,true] (fun L s=>∃(b2:LH),Jm bZ H b2 [bX K f127 133] [(0,.slice (AV K) Y W),(1,iV p1),(4,(fV 134)),(12,iV ay),(13,iV aP),(139,.bool ex)] L s) ?_ ?_
       ·rintro _ _ ⟨b2,rfl,rfl,b3,b4⟩;refine AQ.fin (by decide+kernel) (BP ey (fun ez eA=>?_) (fun ez eB=>?_))
        ·obtain⟨eC,eD,eE⟩:=bs eA;refine zg 4 rfl (BX eD rfl rfl rfl ?_);refine zg 3 rfl ?_;obtain rfl:=oi eE;exact ew eC (aC.Ab b3) b4 rfl bB
        ·refine JL.exit rfl ?_;obtain rfl:=oi eB;obtain rfl:=eu _ bB;exact eb (aC.Ab b3) b4 rfl
       ·intro b5;refine F9 (q:=ay≤aP) (i:=126) rfl (fun bC=>?_) (fun bC=>?_)
        ·have eF:=ip b1 bC;refine Bn ht rfl [4,5,6] rfl ?_;obtain⟨aD,b6,eG⟩:=bs eF;obtain⟨_,⟨_,_,rfl,rfl,⟨_,_,rfl,rfl,⟨b7,b8,rfl,eH⟩⟩⟩,eI⟩:=WL.at (Z.Ai (ar.Ab aC)) b6;refine Bv 7 ht rfl rfl (fun ρ h s' hs=>Ge ((Z.Ai (ar.Ab aC))).2 b6 underlying130 AM (h _ _ rfl) (h _ _ rfl)) ?_;refine DI 8 ht [iV aD.1,iV aD.2.1,sV b7 aD.2.2 b8] 0 aQ eI B9 AM ?_;refine Bn ht rfl [9,10] rfl ?_;obtain⟨aE,b9,eJ⟩:=bs eG;obtain⟨_,⟨_,_,rfl,rfl,⟨_,_,rfl,rfl,⟨ca,cb,rfl,eK⟩⟩⟩,eL⟩:=WL.at (Z.Ai (ar.Ab aC)) b9;refine Bv 11 ht rfl rfl (fun ρ h s' hs=>Ge ((Z.Ai (ar.Ab aC))).2 b9 underlying130 AM (h _ _ rfl) (h _ _ rfl)) ?_;refine DI 12 ht [iV aE.1,iV aE.2.1,sV ca aE.2.2 cb] 0 aQ eL B9 AM ?_;obtain⟨eM,eN,eO⟩:=bs eJ;refine Hm (i:=13) ⟨⟨0,_,rfl⟩,trivial⟩ (vs:= [.agg #[iV aD.1,iV aD.2.1,sV b7 aD.2.2 b8],.agg #[iV aE.1,iV aE.2.1,sV ca aE.2.2 cb]]) (GH eH eK eN) (by decide+kernel) rfl rfl rfl rfl Gw rfl aQ ?_;rintro _ eP _ eQ ⟨rfl,rfl⟩ eR;refine Cm 14 ht rfl rfl ?_;refine Bv (v:= .bool (decide (¬(eM<0)))) 15 ht rfl rfl (fun ρ h s' hs=>Iq (h _ _ rfl)) ?_;refine Cm 16 ht rfl rfl ?_;obtain rfl:=oi eO;refine DM ?_ (b5 _ _ ⟨eP,rfl,rfl,eQ,eR⟩);exact⟨rfl,rfl,rfl,rfl,rfl,rfl,trivial⟩
        ·have eS:=im b1 bC;refine Bn ht rfl [4,5,6,7,8,9,10,11,12,13,14,15,16] rfl ?_;obtain rfl:=oi eS;refine DM ?_ (b5 _ _ ⟨bZ,rfl,rfl,Ap,aQ⟩);exact⟨rfl,rfl,rfl,rfl,rfl,rfl,trivial⟩
     ·refine JL.block (CC dV (fun aR=> [bX K f127 133]) (fun aR=> [(0,.slice (AV K) Y W),(1,iV p1),(4,(fV 134)),(12,iV aR),(13,iV av.2.1)]) Ap dS ?_);rintro aR cc aF aS eT ⟨gr,bD⟩ eU;have cd:=bD;unfold I3 at cd;refine zg 2 rfl (CY 16 [K] ⟨⟨0,_,rfl⟩,trivial⟩ aS fun ht=>?_);refine Bn ht rfl [0,1,2,3] rfl ?_;obtain⟨eV,ce,eW⟩:=bs cd;refine FX 0 #[true,true,true,true,true,true,true,true,true,true,true,true,true,true,true,true] (fun L s=>∃(cf:LH),Jm cc H cf [bX K f127 133] [(0,.slice (AV K) Y W),(1,iV p1),(4,(fV 134)),(12,iV aR),(13,iV av.2.1),(120,.bool eV)] L s) ?_ ?_
      ·rintro _ _ ⟨cf,rfl,rfl,cg,ci⟩;refine AQ.fin (by decide+kernel) (BP eW (fun eX eY=>?_) (fun eX eZ=>?_))
       ·obtain⟨e0,e1,e3⟩:=bs eY;refine zg 4 rfl (Bh e1 rfl rfl rfl ?_);refine zg 3 rfl ?_;obtain rfl:=oi e3;exact eU e0 (aF.Ab cg) ci rfl bD
       ·refine JL.exit rfl ?_;obtain rfl:=oi eZ;obtain rfl:=eT _ bD;exact dY (aF.Ab cg) ci rfl
      ·intro ck;refine F9 (q:=aR≤av.2.1) (i:=108) rfl (fun bE=>?_) (fun bE=>?_)
       ·have e4:=ip ce bE;refine Bn ht rfl [4,5,6] rfl ?_;obtain⟨aG,cm,e5⟩:=bs e4;obtain⟨_,⟨_,_,rfl,rfl,⟨_,_,rfl,rfl,⟨cn,co,rfl,e6⟩⟩⟩,e7⟩:=WL.at (Z.Ai aF) cm;refine Bv 7 ht rfl rfl (fun ρ h s' hs=>Ge ((Z.Ai aF)).2 cm underlying130 AM (h _ _ rfl) (h _ _ rfl)) ?_;refine DI 8 ht [iV aG.1,iV aG.2.1,sV cn aG.2.2 co] 0 aS e7 B9 AM ?_;refine Bn ht rfl [9,10] rfl ?_;obtain⟨aH,cp,e8⟩:=bs e5;obtain⟨_,⟨_,_,rfl,rfl,⟨_,_,rfl,rfl,⟨cq,cr,rfl,e9⟩⟩⟩,fa⟩:=WL.at (Z.Ai aF) cp;refine Bv 11 ht rfl rfl (fun ρ h s' hs=>Ge ((Z.Ai aF)).2 cp underlying130 AM (h _ _ rfl) (h _ _ rfl)) ?_;refine DI 12 ht [iV aH.1,iV aH.2.1,sV cq aH.2.2 cr] 0 aS fa B9 AM ?_;obtain⟨gt,fb,fc⟩:=bs e8;refine Hm (i:=13) ⟨⟨0,_,rfl⟩,trivial⟩ (vs:= [.agg #[iV aG.1,iV aG.2.1,sV cn aG.2.2 co],.agg #[iV aH.1,iV aH.2.1,sV cq aH.2.2 cr]]) (GH e6 e9 fb) (by decide+kernel) rfl rfl rfl rfl Gw rfl aS ?_;rintro _ fd _ fe ⟨rfl,rfl⟩ ff;refine Bn ht rfl [14,15] rfl ?_;obtain rfl:=oi fc;refine DM ?_ (ck _ _ ⟨fd,rfl,rfl,fe,ff⟩);exact⟨rfl,rfl,rfl,rfl,rfl,rfl,trivial⟩
       ·have fg:=im ce bE;refine Bn ht rfl [4,5,6,7,8,9,10,11,12,13,14,15] rfl ?_;obtain rfl:=oi fg;refine DM ?_ (ck _ _ ⟨cc,rfl,rfl,Ap,aS⟩);exact⟨rfl,rfl,rfl,rfl,rfl,rfl,trivial⟩
  ·refine JL.block (CC de (fun aT=> [bX K (Ba (Ba ah (Int.toNat (p1)*3) [iV O.1,iV O.2.1,sV ai O.2.2 c4]) (Int.toNat (p3)*3) [iV U.1,iV U.2.1,sV aj U.2.2 ak]) 133]) (fun aT=> [(0,.slice (AV K) Y W),(1,iV p1),(4,(fV 134)),(12,iV az),(13,iV aT)]) Ap dc ?_);rintro aT ct aI aU fh ⟨gu,bF⟩ fj;have cu:=bF;unfold J1 at cu;refine zg 2 rfl (CY 17 [K] ⟨⟨0,_,rfl⟩,trivial⟩ aU fun ht=>?_);refine Bn ht rfl [0,1,2,3] rfl ?_;obtain⟨fk,cv,fm⟩:=bs cu;refine FX 0 #[true,true,true,true,true,true,true,true,true,true,true,true,true,true,true,true,true] (fun L s=>∃(cw:LH),Jm ct H cw [bX K (Ba (Ba ah (Int.toNat (p1)*3) [iV O.1,iV O.2.1,sV ai O.2.2 c4]) (Int.toNat (p3)*3) [iV U.1,iV U.2.1,sV aj U.2.2 ak]) 133] [(0,.slice (AV K) Y W),(1,iV p1),(4,(fV 134)),(12,iV az),(13,iV aT),(66,.bool fk)] L s) ?_ ?_
   ·rintro _ _ ⟨cw,rfl,rfl,cy,cz⟩;refine AQ.fin (by decide+kernel) (BP fm (fun fo fp=>?_) (fun fo fq=>?_))
    ·obtain⟨fs,fu,fv⟩:=bs fp;refine zg 4 rfl (BX fu rfl rfl rfl ?_);refine zg 3 rfl ?_;obtain rfl:=oi fv;exact fj fs (aI.Ab cy) cz rfl bF
    ·refine JL.exit rfl ?_;obtain rfl:=oi fq;obtain rfl:=fh _ bF;exact dg (aI.Ab cy) cz rfl
   ·intro cA;refine F9 (q:=az≤aT) (i:=53) rfl (fun bG=>?_) (fun bG=>?_)
    ·have fw:=ip cv bG;refine Bn ht rfl [4,5,6] rfl ?_;obtain⟨aJ,cB,fx⟩:=bs fw;obtain⟨_,⟨_,_,rfl,rfl,⟨_,_,rfl,rfl,⟨cC,cD,rfl,fy⟩⟩⟩,fz⟩:=WL.at (V.1.Ai (aa.Ab aI)) cB;refine Bv 7 ht rfl rfl (fun ρ h s' hs=>Ge ((V.1.Ai (aa.Ab aI))).2 cB underlying130 AM (h _ _ rfl) (h _ _ rfl)) ?_;refine DI 8 ht [iV aJ.1,iV aJ.2.1,sV cC aJ.2.2 cD] 0 aU fz B9 AM ?_;refine Bn ht rfl [9,10] rfl ?_;obtain⟨aK,cE,fA⟩:=bs fx;obtain⟨_,⟨_,_,rfl,rfl,⟨_,_,rfl,rfl,⟨cF,cG,rfl,fB⟩⟩⟩,fC⟩:=WL.at (V.1.Ai (aa.Ab aI)) cE;refine Bv 11 ht rfl rfl (fun ρ h s' hs=>Ge ((V.1.Ai (aa.Ab aI))).2 cE underlying130 AM (h _ _ rfl) (h _ _ rfl)) ?_;refine DI 12 ht [iV aK.1,iV aK.2.1,sV cF aK.2.2 cG] 0 aU fC B9 AM ?_;obtain⟨fD,fE,fF⟩:=bs fA;refine Hm (i:=13) ⟨⟨0,_,rfl⟩,trivial⟩ (vs:= [.agg #[iV aJ.1,iV aJ.2.1,sV cC aJ.2.2 cD],.agg #[iV aK.1,iV aK.2.1,sV cF aK.2.2 cG]]) (GH fy fB fE) (by decide+kernel) rfl rfl rfl rfl Gw rfl aU ?_;rintro _ fG _ fH ⟨rfl,rfl⟩ fI;refine Cm 14 ht rfl rfl ?_;refine Bv (v:= .bool (decide (¬(fD<0)))) 15 ht rfl rfl (fun ρ h s' hs=>Iq (h _ _ rfl)) ?_;refine Cm 16 ht rfl rfl ?_;obtain rfl:=oi fF;refine DM ?_ (cA _ _ ⟨fG,rfl,rfl,fH,fI⟩);exact⟨rfl,rfl,rfl,rfl,rfl,rfl,trivial⟩
    ·have fJ:=im cv bG;refine Bn ht rfl [4,5,6,7,8,9,10,11,12,13,14,15,16] rfl ?_;obtain rfl:=oi fJ;refine DM ?_ (cA _ _ ⟨ct,rfl,rfl,Ap,aU⟩);exact⟨rfl,rfl,rfl,rfl,rfl,rfl,trivial⟩
 ·refine JL.block (CC da (fun aV=> [bX K (Ba (Ba ah (Int.toNat (p1)*3) [iV O.1,iV O.2.1,sV ai O.2.2 c4]) (Int.toNat (p3)*3) [iV U.1,iV U.2.1,sV aj U.2.2 ak]) 133]) (fun aV=> [(0,.slice (AV K) Y W),(1,iV p1),(4,(fV 134)),(12,iV aV),(13,iV aY)]) Ap c5 ?_);rintro aV cH aL aW fK ⟨gv,bH⟩ fL;have cI:=bH;unfold JZ at cI;refine zg 2 rfl (CY 16 [K] ⟨⟨0,_,rfl⟩,trivial⟩ aW fun ht=>?_);refine Bn ht rfl [0,1,2,3] rfl ?_;obtain⟨fM,cJ,fN⟩:=bs cI;refine FX 0 #[true,true,true,true,true,true,true,true,true,true,true,true,true,true,true,true] (fun L s=>∃(cK:LH),Jm cH H cK [bX K (Ba (Ba ah (Int.toNat (p1)*3) [iV O.1,iV O.2.1,sV ai O.2.2 c4]) (Int.toNat (p3)*3) [iV U.1,iV U.2.1,sV aj U.2.2 ak]) 133] [(0,.slice (AV K) Y W),(1,iV p1),(4,(fV 134)),(12,iV aV),(13,iV aY),(47,.bool fM)] L s) ?_ ?_
  ·rintro _ _ ⟨cK,rfl,rfl,cM,cN⟩;refine AQ.fin (by decide+kernel) (BP fN (fun fO fP=>?_) (fun fO fQ=>?_))
   ·obtain⟨fR,fS,fT⟩:=bs fP;refine zg 4 rfl (Bh fS rfl rfl rfl ?_);refine zg 3 rfl ?_;obtain rfl:=oi fT;exact fL fR (aL.Ab cM) cN rfl bH
   ·refine JL.exit rfl ?_;obtain rfl:=oi fQ;obtain rfl:=fK _ bH;exact dd (aL.Ab cM) cN rfl
  ·intro cO;refine F9 (q:=aV≤aY) (i:=35) rfl (fun bI=>?_) (fun bI=>?_)
   ·have fU:=ip cJ bI;refine Bn ht rfl [4,5,6] rfl ?_;obtain⟨aM,cP,fW⟩:=bs fU;obtain⟨_,⟨_,_,rfl,rfl,⟨_,_,rfl,rfl,⟨cQ,cR,rfl,fX⟩⟩⟩,fY⟩:=WL.at (V.1.Ai aL) cP;refine Bv 7 ht rfl rfl (fun ρ h s' hs=>Ge ((V.1.Ai aL)).2 cP underlying130 AM (h _ _ rfl) (h _ _ rfl)) ?_;refine DI 8 ht [iV aM.1,iV aM.2.1,sV cQ aM.2.2 cR] 0 aW fY B9 AM ?_;refine Bn ht rfl [9,10] rfl ?_;obtain⟨aN,cT,fZ⟩:=bs fW;obtain⟨_,⟨_,_,rfl,rfl,⟨_,_,rfl,rfl,⟨cV,cW,rfl,ga⟩⟩⟩,gb⟩:=WL.at (V.1.Ai aL) cT;refine Bv 11 ht rfl rfl (fun ρ h s' hs=>Ge ((V.1.Ai aL)).2 cT underlying130 AM (h _ _ rfl) (h _ _ rfl)) ?_;refine DI 12 ht [iV aN.1,iV aN.2.1,sV cV aN.2.2 cW] 0 aW gb B9 AM ?_;obtain⟨gw,gc,gd⟩:=bs fZ;refine Hm (i:=13) ⟨⟨0,_,rfl⟩,trivial⟩ (vs:= [.agg #[iV aM.1,iV aM.2.1,sV cQ aM.2.2 cR],.agg #[iV aN.1,iV aN.2.1,sV cV aN.2.2 cW]]) (GH fX ga gc) (by decide+kernel) rfl rfl rfl rfl Gw rfl aW ?_;rintro _ ge _ gf ⟨rfl,rfl⟩ gg;refine Bn ht rfl [14,15] rfl ?_;obtain rfl:=oi gd;refine DM ?_ (cO _ _ ⟨ge,rfl,rfl,gf,gg⟩);exact⟨rfl,rfl,rfl,rfl,rfl,rfl,trivial⟩
   ·have gh:=im cJ bI;refine Bn ht rfl [4,5,6,7,8,9,10,11,12,13,14,15] rfl ?_;obtain rfl:=oi gh;refine DM ?_ (cO _ _ ⟨cH,rfl,rfl,Ap,aW⟩);exact⟨rfl,rfl,rfl,rfl,rfl,rfl,trivial⟩
end Pal
namespace Pal
open Go Go.Conc Go.Proofs
open Go.Proofs.Tryz
variable {J:Judge Tryz.prog}{E:LH}
def Lw(fuel:Nat)(p0:List Bl)(p1:Int)(p2:Int)(p3:Int)(aq:Unit):Option (Bj Unit (((List Bl))⊕(Unit))):= (Au (p2 - p1)).bind fun Y=> if Y≤12 then((f178 fuel p0 p1 p2).bind fun Z=> some (.done (Sum.inl Z))) else(if p3=0 then(none) else((f181 fuel p0 p1 p2).bind fun O=> Option.bind (if O.2=2 then((f182 fuel p0 p1 p2).bind fun aa=> (Au (p2 - 1)).bind fun ab=> (Au (O.1 - p1)).bind fun ae=> (Au (ab - ae)).bind fun ah=> some (ah,1,aa)) else(some (O.1,O.2,p0))) fun K=> Option.bind (if K.2.1=1 then((f183 fuel K.2.2 p1 p2).bind fun U=> if U.1=true then(some (Sum.inl U.2)) else(some (Sum.inr U.2))) else(some (Sum.inr K.2.2))) fun ai=>Sum.elim (fun r=>some (.done (Sum.inl r))) (fun V=> Option.bind (if 0<p1 then((Au (p1 - 1)).bind fun aj=> (ix V aj).bind fun ak=> (ix V K.1).bind fun al=> (f134 fuel ak al).bind fun am=> some (decide (¬(am<0)))) else(some false)) fun an=> if an=true then(none) else((f185 fuel V p1 p2 K.1).bind fun W=> (Au (W.1 - p1)).bind fun ao=> (Au (p2 - W.1)).bind fun ap=> (He Y (8)).bind fun ar=> if ao<ap then(none) else((Au (W.1+1)).bind fun au=> none))) ai))
def HW(fuel:Nat)(p0:List Bl)(p1:Int)(p2:Int)(p3:Int):Option ((List Bl)):= Option.bind (iter (Lw fuel p0 p1 p2 p3) fuel ()) fun K=> Sum.elim (fun r=>some r) (fun O=> none) K
theorem PW{K:Nat}{O:Nat}{U:Nat}{ai:Ay}{p0:List (Bl)}{p1:Int}{p2:Int}{p3:Int}(hW:WL 133 Cg E K O U ai p0){fuel:Nat}{r:(List Bl)}(ao:HW fuel p0 p1 p2 p3=some r):AR J 162 [.slice (AV K) U O,iV p1,iV p2,iV p3,(fV 134)] E [(K,.cells ai 133 (0,0))] (fun w E' B'=>∃(ap:Ay),w= .tuple #[]∧B'= [(K,.cells ap 133 (0,0))]∧WL 133 Cg E' K O U ap r):=by
 refine Bg func162 fun Q cr cs H aS aq=>?_;unfold HW at ao;obtain⟨ct,aT,ar⟩:=bs ao;refine zg 8 rfl (Bu (fun L s=>False) ?_ ?_)
 ·intro _ _ aU;exact aU.elim
 ·intro cu;refine JL.block (CC aT (fun au=> [bX K ai 133]) (fun au=> [(0,.slice (AV K) U O),(1,iV p1),(2,iV p2),(3,iV p3),(4,(fV 134)),(10,.bool true),(11,.bool true)]) Ap aS ?_);rintro au cv V av aw ⟨cw,aj⟩ cy;have ay:=aj;unfold Lw at ay;obtain⟨ak,aV,aW⟩:=bs ay;refine zg 5 rfl (BX aV rfl rfl rfl ?_);refine zg 8 rfl (AX aW (fun aX aY=>?_) (fun aX aZ=>?_))
  ·obtain⟨cz,a0,a1⟩:=bs aY;refine zg 6 rfl (BS 0 (QU (hW.Ai V) a0) rfl rfl MJ av rfl ?_);rintro _ cA _ a2 ⟨f32,rfl,rfl,a3⟩ a4;refine JL.done ?_;obtain rfl:=oi a1;obtain rfl:=aw _ aj;have a5:=elim_inl ar;obtain rfl:=oi a5;exact AP func162 rfl rfl (aq (V.Ab a2) rfl ⟨f32,rfl,(by first | rfl | simp | (simp [Value.cells])),a3⟩ a4)
  ·refine zg 7 rfl (AX aZ (fun a6 a7=>?_) (fun a6 a8=>?_))
   ·refine zg 6 rfl ?_;cases a7
   ·refine zg 5 rfl (AA (v:= .bool false) rfl (fun ρ h=>Yl.not (c:=true) (h _ _ rfl)) ?_);obtain⟨cB,a9,ba⟩:=bs a8;refine zg 9 rfl (BS 0 (QX (hW.Ai V) a9) rfl rfl (A5 func181 rfl) av rfl ?_);rintro _ az _ al ⟨rfl,rfl⟩ aA;obtain⟨W,bb,bc⟩:=bs ba;refine zg 12 rfl (Bu (fun L s=>∃(aa:LH) (f56:Ay),Jn az H aa [bX K f56 133] [(0,.slice (AV K) U O),(1,iV p1),(2,iV p2),(3,iV p3),(4,(fV 134)),(10,.bool true),(11,.bool true),(12,iV ak),(13,iV W.1),(14,iV W.2.1)] L s (WL 133 Cg aa K O U f56 W.2.2)) ?_ ?_)
    ·rintro _ _ ⟨aa,f56,rfl,rfl,bd,aB,aC⟩;obtain⟨be,bf,aD⟩:=bs bc;refine zg 12 rfl (Bu (fun L s=>∃(am:(List Bl)) (ab:LH) (f65:Ay),be=Sum.inr am∧Jn aa H ab [bX K f65 133] [(0,.slice (AV K) U O),(1,iV p1),(2,iV p2),(3,iV p3),(4,(fV 134)),(10,.bool true),(11,.bool true),(12,iV ak),(13,iV W.1)] L s (WL 133 Cg ab K O U f65 am)) ?_ ?_)
     ·rintro _ _ ⟨am,ab,f65,rfl,rfl,rfl,cC,ae,ah⟩;have bg:=elim_inr aD;refine zg 2 rfl (CY 17 [K] ⟨⟨0,_,rfl⟩,trivial⟩ ae fun ht=>?_);refine Bn ht rfl [0,1,2] rfl ?_;obtain⟨bh,aE,bi⟩:=bs bg;refine FX 0 #[true,true,true,true,true,true,true,true,true,true,true,true,true,true,true,true,true] (fun L s=>∃(aF:LH),Jm ab H aF [bX K f65 133] [(0,.slice (AV K) U O),(1,iV p1),(2,iV p2),(3,iV p3),(4,(fV 134)),(10,.bool true),(11,.bool true),(12,iV ak),(13,iV W.1),(97,.bool bh)] L s) ?_ ?_
      ·rintro _ _ ⟨aF,rfl,rfl,bj,bl⟩;refine AQ.fin (by decide+kernel) (BP bi (fun bm bn=>?_) (fun bm bo=>?_))
       ·refine zg 7 rfl ?_;cases bn
       ·obtain⟨cD,bp,bq⟩:=bs bo;refine zg 8 rfl (BS 0 (Rc (ah.Ai bj) bp) rfl rfl (A5 func185 rfl) bl rfl ?_);rintro _ cE _ cF ⟨f83,rfl,rfl,cG⟩ cH;obtain⟨cI,br,bu⟩:=bs bq;refine zg 15 rfl (BX br rfl rfl rfl ?_);obtain⟨cJ,bv,bw⟩:=bs bu;refine zg 2 rfl (BX bv rfl rfl rfl ?_);obtain⟨bx,bz,bA⟩:=bs bw;refine zg 6 rfl (AA (v:=iV bx) rfl (fun ρ h=>J3 (h _ _ rfl) (h _ _ rfl) bz) ?_);refine zg 8 rfl (AX bA (fun bB bC=>?_) (fun bB bD=>?_))
        ·refine zg 14 rfl ?_;cases bC
        ·obtain⟨cK,bE,bF⟩:=bs bD;refine zg 11 rfl (Bh bE rfl rfl rfl ?_);refine zg 3 rfl ?_;cases bF
      ·intro aG;refine F9 (q:=0<p1) (i:=83) rfl (fun an=>?_) (fun an=>?_)
       ·have bG:=ip aE an;refine Bn ht rfl [3,4,5] rfl ?_;obtain⟨cM,bH,bI⟩:=bs bG;refine Bv 6 ht rfl rfl (fun ρ h s' hs=>Du (h _ _ rfl) (h _ _ rfl) bH) ?_;obtain⟨Y,aH,bJ⟩:=bs bI;obtain⟨_,⟨_,_,rfl,rfl,⟨_,_,rfl,rfl,⟨aI,aJ,rfl,bK⟩⟩⟩,bL⟩:=WL.at ah aH;refine FK 7 ht (ah).2 aH underlying130 AM ?_;refine DI 8 ht [iV Y.1,iV Y.2.1,sV aI Y.2.2 aJ] 0 ae bL B9 AM ?_;refine Bn ht rfl [9,10] rfl ?_;obtain⟨Z,aK,bM⟩:=bs bJ;obtain⟨_,⟨_,_,rfl,rfl,⟨_,_,rfl,rfl,⟨aL,aM,rfl,bN⟩⟩⟩,bO⟩:=WL.at ah aK;refine FK 11 ht (ah).2 aK underlying130 AM ?_;refine DI 12 ht [iV Z.1,iV Z.2.1,sV aL Z.2.2 aM] 0 ae bO B9 AM ?_;obtain⟨bP,bQ,bR⟩:=bs bM;refine Hm (i:=13) ⟨⟨0,_,rfl⟩,trivial⟩ (vs:= [.agg #[iV Y.1,iV Y.2.1,sV aI Y.2.2 aJ],.agg #[iV Z.1,iV Z.2.1,sV aL Z.2.2 aM]]) (GH bK bN bQ) (by decide+kernel) rfl rfl rfl rfl Gw rfl ae ?_;rintro _ bS _ bT ⟨rfl,rfl⟩ bU;refine Cm 14 ht rfl rfl ?_;refine Bv (v:= .bool (decide (¬(bP<0)))) 15 ht rfl rfl (fun ρ h s' hs=>Iq (h _ _ rfl)) ?_;refine Cm 16 ht rfl rfl ?_;obtain rfl:=oi bR;refine DM ?_ (aG _ _ ⟨bS,rfl,rfl,bT,bU⟩);exact⟨rfl,rfl,rfl,rfl,rfl,rfl,rfl,rfl,rfl,rfl,trivial⟩
       ·have bV:=im aE an;refine Bn ht rfl [3,4,5,6,7,8,9,10,11,12,13,14,15,16] rfl ?_;obtain rfl:=oi bV;refine DM ?_ (aG _ _ ⟨ab,rfl,rfl,Ap,ae⟩);exact⟨rfl,rfl,rfl,rfl,rfl,rfl,rfl,rfl,rfl,rfl,trivial⟩
     ·intro aN;refine AX bf (fun bW bY=>?_) (fun bW bZ=>?_)
      ·obtain⟨b0,b1,b2⟩:=bs bY;refine zg 6 rfl (BS 0 (Qw aC b1) rfl rfl (A5 func183 rfl) aB rfl ?_);rintro _ b3 _ aO ⟨f133,rfl,rfl,aP⟩ aQ;refine JL.done (BP b2 (fun b4 b5=>?_) (fun b4 b6=>?_))
       ·obtain rfl:=oi b5;have b7:=elim_inl aD;obtain rfl:=oi b7;obtain rfl:=aw _ aj;have b8:=elim_inl ar;obtain rfl:=oi b8;exact AP func162 rfl rfl (aq (((V.Ab al).Ab bd).Ab aO) rfl ⟨f133,rfl,(by first | rfl | simp | (simp [Value.cells])),aP⟩ aQ)
       ·exact JL.skip (Az (aN _ _ ⟨b0.2,b3,f133,(Option.some.inj b6).symm,rfl,rfl,aO,aQ,aP⟩) rfl)
      ·exact JL.skip (Az (aN _ _ ⟨W.2.2,aa,f56,(Option.some.inj bZ).symm,rfl,rfl,Ap,aB,aC⟩) rfl)
    ·intro aR;refine AX bb (fun b9 ca=>?_) (fun b9 cb=>?_)
     ·obtain⟨cN,cc,cd⟩:=bs ca;refine zg 6 rfl (BS 0 (QT (hW.Ai (V.Ab al)) cc) rfl rfl (A5 func182 rfl) aA rfl ?_);rintro _ ce _ cf ⟨f156,rfl,rfl,cg⟩ ci;obtain⟨cO,ck,cm⟩:=bs cd;refine zg 4 rfl (BX ck rfl rfl rfl ?_);obtain⟨cP,cn,co⟩:=bs cm;refine zg 2 rfl (BX cn rfl rfl rfl ?_);obtain⟨cQ,cp,cq⟩:=bs co;refine BX cp rfl rfl rfl (zg 5 rfl ?_);obtain rfl:=oi cq;exact Az (aR _ _ ⟨ce,f156,rfl,rfl,cf,ci,cg⟩) rfl
     ·refine JL.skip ?_;obtain rfl:=oi cb;exact Az (aR _ _ ⟨az,ai,rfl,rfl,Ap,aA,(hW.Ai (V.Ab al))⟩) rfl
def G3(fuel:Nat)(p3:Int)(K:Int×Int×Bool×Bool×(List Bl)):Option (Bj (Int×Int×Bool×Bool×(List Bl)) (((List Bl))⊕(Unit))):= Option.bind ((Au (K.2.1 - K.1)).bind fun aa=> if aa≤12 then((f178 fuel K.2.2.2.2 K.1 K.2.1).bind fun ai=> some (Sum.inl ai)) else(if p3=0 then(none) else(Option.bind (if(!K.2.2.1)=true then(none) else(some ())) fun aE=> (f181 fuel K.2.2.2.2 K.1 K.2.1).bind fun V=> Option.bind (if V.2=2 then((f182 fuel K.2.2.2.2 K.1 K.2.1).bind fun aj=> (Au (K.2.1 - 1)).bind fun ak=> (Au (V.1 - K.1)).bind fun al=> (Au (ak - al)).bind fun am=> some (am,1,aj)) else(some (V.1,V.2,K.2.2.2.2))) fun U=> Option.bind (if K.2.2.1=true then(some K.2.2.2.1) else(some false)) fun an=> Option.bind (if an=true then(some (decide (U.2.1=1))) else(some false)) fun ao=> Option.bind (if ao=true then((f183 fuel U.2.2 K.1 K.2.1).bind fun Y=> if Y.1=true then(some (Sum.inl Y.2)) else(some (Sum.inr Y.2))) else(some (Sum.inr U.2.2))) fun ap=>Sum.elim (fun r=>some (Sum.inl r)) (fun Z=> Option.bind (if 0<K.1 then((Au (K.1 - 1)).bind fun aq=> (ix Z aq).bind fun ar=> (ix Z U.1).bind fun au=> (f134 fuel ar au).bind fun av=> some (decide (¬(av<0)))) else(some false)) fun aw=> if aw=true then(none) else((f185 fuel Z K.1 K.2.1 U.1).bind fun O=> (Au (O.1 - K.1)).bind fun ab=> (Au (K.2.1 - O.1)).bind fun ae=> (He aa (8)).bind fun ah=> Option.bind (if ab<ae then((HW fuel O.2.2 K.1 O.1 p3).bind fun ay=> (Au (O.1+1)).bind fun az=> some (az,K.2.1,decide (ah≤ab),ay)) else((Au (O.1+1)).bind fun aA=> (HW fuel O.2.2 aA K.2.1 p3).bind fun aB=> some (K.1,O.1,decide (ah≤ae),aB))) fun W=> some (Sum.inr (W.1,W.2.1,W.2.2.1,O.2.1,W.2.2.2)))) ap))) fun aC=>Sum.elim (fun r=>some (.done (Sum.inl r))) (fun aD=> some (.more aD)) aC
def f162(fuel:Nat)(p0:List Bl)(p1:Int)(p2:Int)(p3:Int):Option ((List Bl)):= Option.bind (iter (G3 fuel p3) fuel (p1,p2,true,true,p0)) fun K=> Sum.elim (fun r=>some r) (fun O=> none) K
theorem Ws{O:Nat}{U:Nat}{V:Nat}{aw:Ay}{p0:List (Bl)}{p1:Int}{p2:Int}{p3:Int}(hW:WL 133 Cg E O U V aw p0){fuel:Nat}{r:(List Bl)}(aE:f162 fuel p0 p1 p2 p3=some r):AR J 162 [.slice (AV O) V U,iV p1,iV p2,iV p3,(fV 134)] E [(O,.cells aw 133 (0,0))] (fun w E' B'=>∃(aF:Ay),w= .tuple #[]∧B'= [(O,.cells aF 133 (0,0))]∧WL 133 Cg E' O U V aF r):=by
 refine Bg func162 fun Q dI cs H be aG=>?_;unfold f162 at aE;obtain⟨dJ,bf,aH⟩:=bs aE;refine zg 8 rfl (Bu (fun L s=>False) ?_ ?_)
 ·intro _ _ bg;exact bg.elim
 ·intro dK;refine JL.block (CM bf (fun L s K=>∃(al:LH) (f22:Ay),Jn E H al [bX O f22 133] [(0,.slice (AV O) V U),(1,iV K.1),(2,iV K.2.1),(3,iV p3),(4,(fV 134)),(10,.bool K.2.2.1),(11,.bool K.2.2.2.1)] L s (WL 133 Cg al O U V f22 K.2.2.2.2)) ⟨E,aw,rfl,rfl,Ap,be,hW⟩ ?_);rintro _ _ K ⟨al,f22,rfl,rfl,ay,aI,am⟩ aJ ⟨dL,an⟩ bh;have aK:=an;unfold G3 at aK;obtain⟨bi,bj,az⟩:=bs aK;refine Bu (fun L s=>∃(Y:Int×Int×Bool×Bool×(List Bl)) (ao:LH) (f36:Ay),bi=Sum.inr Y∧Jn al H ao [bX O f36 133] [(0,.slice (AV O) V U),(1,iV Y.1),(2,iV Y.2.1),(3,iV p3),(4,(fV 134)),(10,.bool Y.2.2.1),(11,.bool Y.2.2.2.1)] L s (WL 133 Cg ao O U V f36 Y.2.2.2.2)) ?_ ?_
  ·rintro _ _ ⟨Y,ao,f36,rfl,rfl,rfl,bl,bm,bn⟩;have bo:=elim_inr az;obtain rfl:=oi bo;exact Az (bh _ _ Y ⟨ao,f36,rfl,rfl,(ay.Ab bl),bm,bn⟩ an) rfl
  ·intro bp;obtain⟨aa,bq,br⟩:=bs bj;refine zg 5 rfl (BX bq rfl rfl rfl ?_);refine zg 8 rfl (AX br (fun bu bv=>?_) (fun bu bw=>?_))
   ·obtain⟨dM,bx,bz⟩:=bs bv;refine zg 6 rfl (BS 0 (QU am bx) rfl rfl MJ aI rfl ?_);rintro _ dN _ bA ⟨f52,rfl,rfl,bB⟩ bC;refine JL.done ?_;obtain rfl:=oi bz;have bD:=elim_inl az;obtain rfl:=oi bD;obtain rfl:=aJ _ an;have bE:=elim_inl aH;obtain rfl:=oi bE;exact AP func162 rfl rfl (aG (ay.Ab bA) rfl ⟨f52,rfl,(by first | rfl | simp | (simp [Value.cells])),bB⟩ bC)
   ·refine zg 7 rfl (AX bw (fun bF bG=>?_) (fun bF bH=>?_))
    ·refine zg 6 rfl ?_;cases bG
    ·refine zg 5 rfl (AA (v:= .bool (!K.2.2.1)) rfl (fun ρ h=>Yl.not (h _ _ rfl)) ?_);obtain⟨dO,bI,bJ⟩:=bs bH;refine JL.done (CB [bX O f22 133] [(0,.slice (AV O) V U),(1,iV K.1),(2,iV K.2.1),(3,iV p3),(4,(fV 134)),(10,.bool K.2.2.1),(11,.bool K.2.2.2.1),(12,iV aa)] (fun dP ah bK=>?_) (fun bL=>?_))
     ·obtain⟨dQ,bM,bN⟩:=bs bJ;refine zg 6 rfl (BS 0 (QX (am.Ai ah) bM) rfl rfl (A5 func181 rfl) bK rfl ?_);rintro _ aL _ ap ⟨rfl,rfl⟩ aM;obtain⟨W,bO,bP⟩:=bs bN;refine zg 12 rfl (Bu (fun L s=>∃(aA:LH) (f84:Ay),Jn aL H aA [bX O f84 133] [(0,.slice (AV O) V U),(1,iV K.1),(2,iV K.2.1),(3,iV p3),(4,(fV 134)),(10,.bool K.2.2.1),(11,.bool K.2.2.2.1),(12,iV aa),(13,iV W.1),(14,iV W.2.1)] L s (WL 133 Cg aA O U V f84 W.2.2)) ?_ ?_)
      ·rintro _ _ ⟨aA,f84,rfl,rfl,aN,aO,aP⟩;obtain⟨bQ,bR,bS⟩:=bs bP;refine zg 5 rfl (C7 4 4 [bX O f84 133] [(0,.slice (AV O) V U),(1,iV K.1),(2,iV K.2.1),(3,iV p3),(4,(fV 134)),(10,.bool K.2.2.1),(11,.bool K.2.2.2.1),(12,iV aa),(13,iV W.1),(14,iV W.2.1),(71,.bool bQ)] (fun aB aq aQ=>?_) (fun aR=>?_))
       ·obtain⟨bT,bU,bV⟩:=bs bS;refine zg 1 rfl (FG [] (fun L s=>∃(ar:LH),Jm aB H ar [bX O f84 133] [(0,.slice (AV O) V U),(1,iV K.1),(2,iV K.2.1),(3,iV p3),(4,(fV 134)),(10,.bool K.2.2.1),(11,.bool K.2.2.2.1),(12,iV aa),(13,iV W.1),(75,.bool bT)] L s) ?_ ?_)
        ·rintro _ _ ⟨ar,rfl,rfl,au,aS⟩;obtain⟨bW,bY,aT⟩:=bs bV;refine JL.done (Bu (fun L s=>∃(aC:(List Bl)) (ai:LH) (f105:Ay),bW=Sum.inr aC∧Jn ar H ai [bX O f105 133] [(0,.slice (AV O) V U),(1,iV K.1),(2,iV K.2.1),(3,iV p3),(4,(fV 134)),(10,.bool K.2.2.1),(11,.bool K.2.2.2.1),(12,iV aa),(13,iV W.1)] L s (WL 133 Cg ai O U V f105 aC)) ?_ ?_)
         ·rintro _ _ ⟨aC,ai,f105,rfl,rfl,rfl,bZ,aj,ak⟩;have b0:=elim_inr aT;refine zg 2 rfl (CY 17 [O] ⟨⟨0,_,rfl⟩,trivial⟩ aj fun ht=>?_);refine Bn ht rfl [0,1,2] rfl ?_;obtain⟨b1,aU,b2⟩:=bs b0;refine FX 0 #[true,true,true,true,true,true,true,true,true,true,true,true,true,true,true,true,true] (fun L s=>∃(aV:LH),Jm ai H aV [bX O f105 133] [(0,.slice (AV O) V U),(1,iV K.1),(2,iV K.2.1),(3,iV p3),(4,(fV 134)),(10,.bool K.2.2.1),(11,.bool K.2.2.2.1),(12,iV aa),(13,iV W.1),(97,.bool b1)] L s) ?_ ?_
          ·rintro _ _ ⟨aV,rfl,rfl,aW,b3⟩;refine AQ.fin (by decide+kernel) (BP b2 (fun b4 b5=>?_) (fun b4 b6=>?_))
           ·refine zg 7 rfl ?_;cases b5
           ·obtain⟨aX,b7,b8⟩:=bs b6;refine zg 8 rfl (BS 0 (Rc (ak.Ai aW) b7) rfl rfl (A5 func185 rfl) b3 rfl ?_);rintro _ b9 _ ca ⟨f123,rfl,rfl,aY⟩ aZ;obtain⟨dR,cb,cc⟩:=bs b8;refine zg 15 rfl (BX cb rfl rfl rfl ?_);obtain⟨dS,cd,ce⟩:=bs cc;refine zg 2 rfl (BX cd rfl rfl rfl ?_);obtain⟨cf,cg,ci⟩:=bs ce;refine zg 6 rfl (AA (v:=iV cf) rfl (fun ρ h=>J3 (h _ _ rfl) (h _ _ rfl) cg) ?_);obtain⟨Z,ck,cm⟩:=bs ci;refine zg 8 rfl (Bu (fun L s=>∃(av:LH) (f138:Ay),Jn b9 H av [bX O f138 133] [(0,.slice (AV O) V U),(1,iV Z.1),(2,iV Z.2.1),(3,iV p3),(4,(fV 134)),(10,.bool Z.2.2.1),(11,.bool aX.2.1)] L s (WL 133 Cg av O U V f138 Z.2.2.2)) ?_ ?_)
            ·rintro _ _ ⟨av,f138,rfl,rfl,cn,co,cp⟩;exact OA (Az (bp _ _ ⟨(Z.1,Z.2.1,Z.2.2.1,aX.2.1,Z.2.2.2),av,f138,(Option.some.inj cm).symm,rfl,rfl,((((((((ah.Ab ap).Ab aN).Ab aq).Ab au).Ab bZ).Ab aW).Ab ca).Ab cn),co,cp⟩) rfl)
            ·intro a0;refine AX ck (fun cq cr=>?_) (fun cq ct=>?_)
             ·obtain⟨dT,cu,cv⟩:=bs cr;refine zg 14 rfl (BS 0 (PW aY cu) rfl rfl KX aZ rfl ?_);rintro _ cw _ cy ⟨f150,rfl,rfl,cz⟩ cA;obtain⟨dU,cB,cC⟩:=bs cv;refine zg 3 rfl (Bh cB rfl rfl rfl ?_);refine zg 2 rfl ?_;obtain rfl:=oi cC;exact Az (a0 _ _ ⟨cw,f150,rfl,rfl,cy,cA,cz⟩) rfl
             ·obtain⟨dV,cD,cE⟩:=bs ct;refine zg 11 rfl (Bh cD rfl rfl rfl ?_);obtain⟨dW,cF,cG⟩:=bs cE;refine zg 3 rfl (BS 0 (PW aY cF) rfl rfl KX aZ rfl ?_);rintro _ cH _ cI ⟨f165,rfl,rfl,cJ⟩ cK;refine zg 5 rfl ?_;obtain rfl:=oi cG;exact Az (a0 _ _ ⟨cH,f165,rfl,rfl,cI,cK,cJ⟩) rfl
          ·intro a1;refine F9 (q:=0<K.1) (i:=83) rfl (fun aD=>?_) (fun aD=>?_)
           ·have cM:=ip aU aD;refine Bn ht rfl [3,4,5] rfl ?_;obtain⟨dX,cN,cO⟩:=bs cM;refine Bv 6 ht rfl rfl (fun ρ h s' hs=>Du (h _ _ rfl) (h _ _ rfl) cN) ?_;obtain⟨ab,a2,cP⟩:=bs cO;obtain⟨_,⟨_,_,rfl,rfl,⟨_,_,rfl,rfl,⟨a3,a4,rfl,cQ⟩⟩⟩,cR⟩:=WL.at ak a2;refine FK 7 ht (ak).2 a2 underlying130 AM ?_;refine DI 8 ht [iV ab.1,iV ab.2.1,sV a3 ab.2.2 a4] 0 aj cR B9 AM ?_;refine Bn ht rfl [9,10] rfl ?_;obtain⟨ae,a5,cT⟩:=bs cP;obtain⟨_,⟨_,_,rfl,rfl,⟨_,_,rfl,rfl,⟨a6,a7,rfl,cV⟩⟩⟩,cW⟩:=WL.at ak a5;refine FK 11 ht (ak).2 a5 underlying130 AM ?_;refine DI 12 ht [iV ae.1,iV ae.2.1,sV a6 ae.2.2 a7] 0 aj cW B9 AM ?_;obtain⟨cX,cY,cZ⟩:=bs cT;refine Hm (i:=13) ⟨⟨0,_,rfl⟩,trivial⟩ (vs:= [.agg #[iV ab.1,iV ab.2.1,sV a3 ab.2.2 a4],.agg #[iV ae.1,iV ae.2.1,sV a6 ae.2.2 a7]]) (GH cQ cV cY) (by decide+kernel) rfl rfl rfl rfl Gw rfl aj ?_;rintro _ c0 _ c1 ⟨rfl,rfl⟩ c2;refine Cm 14 ht rfl rfl ?_;refine Bv (v:= .bool (decide (¬(cX<0)))) 15 ht rfl rfl (fun ρ h s' hs=>Iq (h _ _ rfl)) ?_;refine Cm 16 ht rfl rfl ?_;obtain rfl:=oi cZ;refine DM ?_ (a1 _ _ ⟨c0,rfl,rfl,c1,c2⟩);exact⟨rfl,rfl,rfl,rfl,rfl,rfl,rfl,rfl,rfl,rfl,trivial⟩
           ·have c3:=im aU aD;refine Bn ht rfl [3,4,5,6,7,8,9,10,11,12,13,14,15,16] rfl ?_;obtain rfl:=oi c3;refine DM ?_ (a1 _ _ ⟨ai,rfl,rfl,Ap,aj⟩);exact⟨rfl,rfl,rfl,rfl,rfl,rfl,rfl,rfl,rfl,rfl,trivial⟩
         ·intro a8;refine BP bY (fun c4 c5=>?_) (fun c4 c6=>?_)
          ·obtain⟨c7,c8,c9⟩:=bs c5;refine zg 6 rfl (BS 0 (Qw (aP.Ai (aq.Ab au)) c8) rfl rfl (A5 func183 rfl) aS rfl ?_);rintro _ da _ a9 ⟨f205,rfl,rfl,ba⟩ bb;refine JL.done (BP c9 (fun db dc=>?_) (fun db dd=>?_))
           ·obtain rfl:=oi dc;have de:=elim_inl aT;obtain rfl:=oi de;have df:=elim_inl az;obtain rfl:=oi df;obtain rfl:=aJ _ an;have dg:=elim_inl aH;obtain rfl:=oi dg;exact AP func162 rfl rfl (aG ((((((ay.Ab ah).Ab ap).Ab aN).Ab aq).Ab au).Ab a9) rfl ⟨f205,rfl,(by first | rfl | simp | (simp [Value.cells])),ba⟩ bb)
           ·exact JL.skip (Az (a8 _ _ ⟨c7.2,da,f205,(Option.some.inj dd).symm,rfl,rfl,a9,bb,ba⟩) rfl)
          ·exact JL.skip (Az (a8 _ _ ⟨W.2.2,ar,f84,(Option.some.inj c6).symm,rfl,rfl,Ap,aS,(aP.Ai (aq.Ab au))⟩) rfl)
        ·intro bc;refine Dz 72 bU (fun dh di=>?_) (fun dh dj=>?_)
         ·refine zg 3 rfl ?_;obtain rfl:=oi di;exact Az (bc _ _ ⟨aB,rfl,rfl,Ap,aQ⟩) rfl
         ·refine zg 3 rfl ?_;obtain rfl:=oi dj;exact Az (bc _ _ ⟨aB,rfl,rfl,Ap,aQ⟩) rfl
       ·refine Dz 69 bR (fun dk dl=>?_) (fun dk dm=>?_)
        ·refine zg 2 rfl ?_;obtain rfl:=oi dl;exact aR Ap aO rfl
        ·refine zg 2 rfl ?_;obtain rfl:=oi dm;exact aR Ap aO rfl
      ·intro bd;refine AX bO (fun dn dp=>?_) (fun dn dq=>?_)
       ·obtain⟨dY,dr,dt⟩:=bs dp;refine zg 6 rfl (BS 0 (QT (am.Ai (ah.Ab ap)) dr) rfl rfl (A5 func182 rfl) aM rfl ?_);rintro _ du _ dv ⟨dw,rfl,rfl,dx⟩ dy;obtain⟨dZ,dz,dA⟩:=bs dt;refine zg 4 rfl (BX dz rfl rfl rfl ?_);obtain⟨ea,dB,dC⟩:=bs dA;refine zg 2 rfl (BX dB rfl rfl rfl ?_);obtain⟨eb,dD,dE⟩:=bs dC;refine BX dD rfl rfl rfl (zg 5 rfl ?_);obtain rfl:=oi dE;exact Az (bd _ _ ⟨du,dw,rfl,rfl,dv,dy,dx⟩) rfl
       ·refine JL.skip ?_;obtain rfl:=oi dq;exact Az (bd _ _ ⟨aL,f22,rfl,rfl,Ap,aM,(am.Ai (ah.Ab ap))⟩) rfl
     ·refine BP bI (fun dF dG=>?_) (fun dF dH=>?_)
      ·refine zg 6 rfl ?_;cases dG
      ·refine JL.skip ?_;obtain rfl:=oi dH;exact bL Ap aI rfl
def f133(fuel:Nat)(p0:List Bl):Option ((List Bl)):= (f163 fuel (CX (p0.length:Int))).bind fun K=> (f162 fuel p0 0 (p0.length:Int) K).bind fun O=> some O
theorem WJ{K:Nat}{O:Nat}{U:Nat}{V:Ay}{p0:List (Bl)}(hW:WL 133 Cg E K O U V p0){fuel:Nat}{r:(List Bl)}(W:f133 fuel p0=some r):AR J 133 [.slice (AV K) U O,(fV 134)] E [(K,.cells V 133 (0,0))] (fun w E' B'=>∃(Y:Ay),w= .tuple #[]∧B'= [(K,.cells Y 133 (0,0))]∧WL 133 Cg E' K O U Y r):=by
 refine Bg func133 fun Q ao cs H aa ab=>?_;unfold f133 at W;refine zg 3 rfl (AA (v:=iV (p0.length:Int)) rfl (fun ρ h=>P7 (hW).2 rfl underlying130 (h _ _ rfl)) ?_);refine zg 6 rfl (AA (v:= .int .u64 ((CX (p0.length:Int):Nat):Int)) rfl (fun ρ h=>Yl.CX underlying3 underlying156 (h _ _ rfl)) ?_);obtain⟨ap,ae,ah⟩:=bs W;refine BI (QB ae) rfl rfl (A5 func163 rfl) aa fun aq Z ai=>?_;obtain⟨ar,aj,ak⟩:=bs ah;refine zg 1 rfl (BS 0 (Ws (hW.Ai Z) aj) rfl rfl KX ai rfl ?_);rintro _ au _ al ⟨f12,rfl,rfl,am⟩ an;refine JL.done ?_;obtain rfl:=oi ak;exact JL.fin (v:= .tuple #[]) rfl rfl (BY.list func133 rfl (vs:= []) trivial) (ab (Z.Ab al) rfl ⟨f12,rfl,(by first | rfl | simp | (simp [Value.cells])),am⟩ an)
end Pal
namespace Pal
def A0{α:Type}(o:Option α)(Q:α→Prop):Prop:=∃a,o=some a∧Q a
section
variable {α β:Type}{Q R:α→Prop}
theorem Aq{a:α}(h:Q a):A0 (some a) Q:=⟨a,rfl,h⟩
theorem A0.Ai{o:Option α}(h:A0 o R)(k:∀a,R a→Q a):A0 o Q:=let ⟨a,K,O⟩:=h;⟨a,K,k a O⟩
theorem A0.of_eq{o:Option α}{a:α}(h:o=some a)(k:Q a):A0 o Q:=⟨a,h,k⟩
theorem AS{o:Option β}{f:β→Option α}{S:β→Prop}(h:A0 o S)(k:∀b,S b→A0 (f b) Q):A0 (o.bind f) Q:=by
 obtain⟨b,rfl,hb⟩:=h;obtain⟨a,K,O⟩:=k b hb;exact⟨a,K,O⟩
theorem AW{o:Option β}{f:β→Option α}{b:β}(h:o=some b)(k:A0 (f b) Q):A0 (o.bind f) Q:=by subst h;exact k
theorem A0.Xn{f:Int→Option α}{x:Int}(K: -9223372036854775808≤x)(O:x≤9223372036854775807)(k:A0 (f x) Q):A0 ((Au x).bind f) Q:=AW (if_pos ⟨K,O⟩) k
theorem CU{xs:List β}{i:Int}{m:Nat}{b:β}(h:i=(m:Int))(hb:xs[m]? =some b):ix xs i=some b:=by subst h;simpa [ix] using hb
theorem WO{xs:List β}{m:Nat}(h:m<xs.length):ix xs (m:Int)=some xs[m]:=CU rfl (List.getElem?_eq_getElem h)
theorem BN{f:β→Option α}{xs:List β}{i:Int}{m:Nat}(h:i=(m:Int))(hm:m<xs.length)(k:A0 (f xs[m]) Q):A0 ((ix xs i).bind f) Q:=AW (CU h (List.getElem?_eq_getElem hm)) k
theorem Hl{f:List β→Option α}{xs:List β}{x:β}(h:xs.length+1≤2 ^ 40)(k:A0 (f (xs++ [x])) Q):A0 ((room xs x).bind f) Q:=AW (if_pos h) k
theorem Cc{c:Prop} [Decidable c] {x y:Option α}(K:c→A0 x Q)(O:¬c→A0 y Q):A0 (if c then x else y) Q:=by
 by_cases h:c
 ·rw [if_pos h];exact K h
 ·rw [if_neg h];exact O h
theorem Ci{c:Prop} [Decidable c] {x y:Option α}(h:c)(k:A0 x Q):A0 (if c then x else y) Q:=by rw [if_pos h];exact k
theorem Br{c:Prop} [Decidable c] {x y:Option α}(h:¬c)(k:A0 y Q):A0 (if c then x else y) Q:=by rw [if_neg h];exact k
def Bj.sat{S A:Type}(I:S→Prop)(Q:A→Prop):Bj S A→Prop
 | .more s=>I s
 | .done a=>Q a
theorem Lt{S:Type}{body:S→Option (Bj S α)}(I:Nat→S→Prop)(round:∀m s,I m s→A0 (body s) (Bj.sat (fun s'=>∃m',m'<m∧I m' s') Q)):
  ∀{m fuel:Nat} {s:S},I m s→m<fuel→A0 (iter body fuel s) Q:=by
 intro m
 induction m using Nat.strongRecOn with
 | _ m O=>
  intro fuel s U Z;obtain⟨fuel,rfl⟩:∃k,fuel=k+1:=⟨fuel - 1,by omega⟩;obtain⟨st,V,K⟩:=round m s U;unfold Pal.iter;rw [V];cases st with
  | more s'=>
   obtain⟨m',W,Y⟩:=K;exact O m' W Y (by omega)
  | done a=>exact⟨a,rfl,K⟩
end
end Pal
namespace Pal
open Go.Sort
abbrev PT:=Int×Int×(List (Int×(List Int)×Nat))
def AJ(x y:PT):Bool:=decide (x.1<y.1)
theorem LC:SWO AJ:=⟨fun x=>by simp [AJ],fun x y z K O=>by simp [AJ] at*;omega,fun x y z K O=>by simp [AJ] at*;omega⟩
def KO(xs:List PT):Prop:=∀x∈xs,0≤x.1∧x.1≤1000
theorem J4{fuel:Nat}{x y:PT}(K:0≤x.1∧x.1≤1000)(O:0≤y.1∧y.1≤1000):f134 fuel x y=some (x.1 - y.1):=by
 unfold f134;rw [show Au (x.1 - y.1)=some (x.1 - y.1) from if_pos (by omega)];rfl
theorem I5(x y:PT):decide (x.1 - y.1<0)=AJ x y:=by unfold AJ;congr 1;apply propext;omega
theorem KO.get{xs:List PT}(h:KO xs){i:Nat}(hi:i<xs.length):0≤xs[i].1∧xs[i].1≤1000:=h _ (List.getElem_mem hi)
theorem KO.set{xs:List PT}(h:KO xs){i:Nat}{x:PT}(K:0≤x.1∧x.1≤1000):KO (xs.set i x):=fun y O=>by
 rcases List.mem_or_eq_of_mem_set O with q | q
 ·exact h y q
 ·subst q;exact K
theorem Ik{xs:List PT}{i j:Nat}(hi:i<xs.length)(K:j<xs.length):((xs.set i xs[j]).set j xs[i]).toArray=swp xs.toArray i j:=by
 unfold swp;rw [show xs.toArray[j]! =xs[j] by simp [getElem!_pos,K],show xs.toArray[i]! =xs[i] by simp [getElem!_pos,hi]];simp
theorem Gd{xs:List PT}{i:Nat}(hi:i<xs.length):xs.toArray[i]! =xs[i]:=by simp [getElem!_pos,hi]
section
variable {α:Type}{Q:α→Prop}
theorem A9{f:Int→Option α}{x:Int}(y:Int)(h:x=y)(K: -9223372036854775808≤y)(O:y≤9223372036854775807)(k:A0 (f y) Q):A0 ((Au x).bind f) Q:=by subst h;exact A0.Xn K O k
end
theorem UO{F:Nat}(a:Nat):∀(j fuel:Nat) (xs:List PT),j<fuel→j<xs.length→xs.length<1000→KO xs→
  A0 (iter (IX F (a:Int)) fuel ((j:Int),xs)) (fun ys=>ys.toArray=insInner AJ a j xs.toArray∧KO ys∧ys.length=xs.length):=by
 intro j
 induction j with
 | zero=>
  intro fuel xs aa U Y K;obtain⟨fuel,rfl⟩:∃k,fuel=k+1:=⟨fuel - 1,by omega⟩;refine⟨xs,?_,rfl,K,rfl⟩;have ab:¬((a:Int)<0):=by omega
  simp [iter,IX,ab]
 | succ j ae=>
  intro fuel xs aa U Y K;obtain⟨fuel,rfl⟩:∃k,fuel=k+1:=⟨fuel - 1,by omega⟩;have O:j<xs.length:=by omega
  have ah:A0 (IX F (a:Int) (((j+1:Nat):Int),xs)) (fun st=>st=if(decide (j+1>a)&&AJ xs[j+1] xs[j])=true then .more ((j:Int),(xs.set (j+1) xs[j]).set j xs[j+1]) else .done xs):=by
   unfold IX;refine AS (S:=fun c=>c=(decide (j+1>a)&&AJ xs[j+1] xs[j])) ?_ ?_
   ·refine Cc (fun h=>?_) (fun h=>?_)
    ·have W:a<j+1:=by simp at h;omega
     refine BN (m:=j+1) rfl U (A9 (j:Int) (by simp) (by omega) (by omega) ?_);refine BN (m:=j) rfl O (AW (J4 (K.get U) (K.get O)) ?_);refine Aq ?_;rw [I5];simp [W]
    ·have W:¬a<j+1:=by simp at h;omega
     refine Aq ?_;simp [W]
   ·rintro c rfl;refine Cc (fun h=>?_) (fun h=>?_)
    ·refine A9 (j:Int) (by simp) (by omega) (by omega) (A9 (j:Int) (by simp) (by omega) (by omega) ?_);refine BN (m:=j) rfl O (BN (m:=j+1) rfl U ?_);refine AW (b:=(xs.set (j+1) xs[j])[j]'(by simpa using O)) (CU rfl (List.getElem?_eq_getElem _)) ?_;refine A9 (j:Int) (by simp) (by omega) (by omega) (Aq ?_);rw [if_pos h];simp
    ·refine Aq ?_;rw [if_neg h]
  obtain⟨st,ai,rfl⟩:=ah;unfold iter;rw [ai];have V:insInner AJ a (j+1) xs.toArray=if(decide (j+1>a)&&AJ xs[j+1] xs[j])=true then insInner AJ a j (swp xs.toArray (j+1) j) else xs.toArray:=by
   rw [insInner,Gd U,Gd O]
  by_cases Z:(decide (j+1>a)&&AJ xs[j+1] xs[j])=true
  ·rw [if_pos Z] at V ⊢;have aj:KO ((xs.set (j+1) xs[j]).set j xs[j+1]):=(K.set (K.get O)).set (K.get U);refine(ae fuel ((xs.set (j+1) xs[j]).set j xs[j+1]) (by omega) (by simpa using O) (by simpa using Y) aj).Ai ?_;rintro ys ⟨ak,al,am⟩;refine⟨?_,al,by simpa using am⟩;rw [ak,Ik U O,V]
  ·rw [if_neg Z] at V ⊢;exact⟨xs,rfl,V.symm,K,rfl⟩
theorem Tz{F:Nat}(a b:Nat)(ah:2000<F):∀(m i fuel:Nat) (xs:List PT),b - i=m→m<fuel→b≤xs.length→xs.length<1000→KO xs→
  A0 (iter (Iu F (a:Int) (b:Int)) fuel ((i:Int),xs)) (fun ys=>ys.toArray=insOuter AJ a b i xs.toArray∧KO ys∧ys.length=xs.length):=by
 intro m
 induction m with
 | zero=>
  intro i fuel xs hm W hb V O;obtain⟨fuel,rfl⟩:∃k,fuel=k+1:=⟨fuel - 1,by omega⟩;have U:¬i<b:=by omega
  have K:A0 (Iu F (a:Int) (b:Int) ((i:Int),xs)) (fun st=>st= .done xs):=by
   unfold Iu;exact Br (show ¬(i:Int)<(b:Int) by omega) (Aq rfl)
  obtain⟨st,K,rfl⟩:=K;unfold iter;rw [K];refine⟨xs,rfl,?_,O,rfl⟩;rw [insOuter,if_neg U]
 | succ m Y=>
  intro i fuel xs hm W hb V O;obtain⟨fuel,rfl⟩:∃k,fuel=k+1:=⟨fuel - 1,by omega⟩;have U:i<b:=by omega
  obtain⟨ys,Z,aa,ab,ai⟩:=UO (F:=F) a i F xs (by omega) (by omega) V O;have K:A0 (Iu F (a:Int) (b:Int) ((i:Int),xs)) (fun st=>st= .more (((i+1:Nat):Int),ys)):=by
   unfold Iu;refine Ci (show(i:Int)<(b:Int) by omega) (AW Z ?_);exact A9 ((i+1:Nat):Int) (by simp) (by omega) (by omega) (Aq rfl)
  obtain⟨st,K,rfl⟩:=K;unfold iter;rw [K];refine(Y (i+1) fuel ys (by omega) (by omega) (by omega) (by omega) ab).Ai ?_;rintro aj ⟨k1,ae,ak⟩;refine⟨?_,ae,by omega⟩;rw [k1,aa,insOuter.eq_def AJ a b i,if_pos U]
theorem Qf{F a b:Nat}{xs:List PT}(K:2000<F)(hb:b≤xs.length)(O:xs.length<1000)(U:KO xs)(Z:a≤b):
  A0 (f178 F xs (a:Int) (b:Int)) (fun ys=>ys.toArray=insertionSort AJ xs.toArray a b∧KO ys∧ys.length=xs.length):=by
 unfold f178;refine A9 ((a+1:Nat):Int) (by simp) (by omega) (by omega) (AS (Tz (F:=F) a b K (b - (a+1)) (a+1) F xs rfl (by omega) hb O U) ?_);rintro ys ⟨V,W,Y⟩;exact⟨ys,rfl,V,W,Y⟩
end Pal
namespace Pal
open Go.Sort
theorem Nw{F a b sw:Nat}{xs:List PT}(O:a<xs.length)(hb:b<xs.length)(hs:sw<1000)(V:xs.length<1000)(U:KO xs):
  f200 F xs (a:Int) (b:Int) (sw:Int)=some ((((order2 AJ xs.toArray a b sw).1:Nat):Int),(((order2 AJ xs.toArray a b sw).2.1:Nat):Int),(((order2 AJ xs.toArray a b sw).2.2:Nat):Int)):=by
 have h:A0 (f200 F xs (a:Int) (b:Int) (sw:Int)) (fun r=>r=((((order2 AJ xs.toArray a b sw).1:Nat):Int),(((order2 AJ xs.toArray a b sw).2.1:Nat):Int),(((order2 AJ xs.toArray a b sw).2.2:Nat):Int))):=by
  unfold f200;refine BN (m:=b) rfl hb (BN (m:=a) rfl O ?_);refine AW (J4 (U.get hb) (U.get O)) ?_;have e:order2 AJ xs.toArray a b sw=if AJ xs[b] xs[a] then(b,a,sw+1) else(a,b,sw):=by unfold order2;rw [Gd O,Gd hb]
  refine Cc (fun h=>?_) (fun h=>?_)
  ·have K:AJ xs[b] xs[a]=true:=by rw [← I5];exact decide_eq_true h
   refine A9 ((sw+1:Nat):Int) (by simp) (by omega) (by omega) (Aq ?_);rw [e,if_pos K]
  ·have K:¬AJ xs[b] xs[a]=true:=by rw [← I5];simpa using h
   refine Aq ?_;rw [e,if_neg K]
 obtain⟨r,K,rfl⟩:=h;exact K
theorem OU{n a b sw:Nat}{d:Array PT}(K:a<n)(hb:b<n):(order2 AJ d a b sw).1<n∧(order2 AJ d a b sw).2.1<n∧(order2 AJ d a b sw).2.2≤sw+1:=by
 unfold order2;split
 ·exact⟨hb,K,Nat.le_refl _⟩
 ·exact⟨K,hb,Nat.le_succ _⟩
theorem Vi{F a b c sw:Nat}{xs:List PT}(U:a<xs.length)(hb:b<xs.length)(V:c<xs.length)(hs:sw<900)(K:xs.length<1000)(O:KO xs):
  f197 F xs (a:Int) (b:Int) (c:Int) (sw:Int)=some ((((median AJ xs.toArray a b c sw).1:Nat):Int),(((median AJ xs.toArray a b c sw).2:Nat):Int)):=by
 unfold f197 median;obtain⟨Y,W,aa⟩:=OU (sw:=sw) (d:=xs.toArray) U hb;rw [Nw U hb (by omega) K O];simp only [Option.bind_some];obtain⟨Z,ab,ae⟩:=OU (sw:=(order2 AJ xs.toArray a b sw).2.2) (d:=xs.toArray) W V;rw [Nw W V (by omega) K O];simp only [Option.bind_some];rw [Nw Y Z (by omega) K O];simp only [Option.bind_some]
def HX:Hint→Int | .unknown=>0 | .increasing=>1 | .decreasing=>2
theorem A0.quo{α:Type}{Q:α→Prop}{f:Int→Option α}{x:Int}(m k:Nat)(K:x=(m:Int))(hm:m<1000)(O:0<k)(h:A0 (f ((m / k:Nat):Int)) Q):A0 ((He x (k:Int)).bind f) Q:=by
 subst K;refine AW ?_ h;unfold He;rw [if_neg (by omega)];have e:((m:Int).tdiv (k:Int))=((m / k:Nat):Int):=by rw [Int.tdiv_eq_ediv_of_nonneg (by omega)];rfl
 have hle:m / k≤m:=Nat.div_le_self _ _;rw [e];generalize m / k=z at hle ⊢;exact if_pos (by omega)
theorem UZ{F a b:Nat}{xs:List PT}(ah:a+8≤b)(ai:b<a+50)(hb:b≤xs.length)(Y:xs.length<1000)(Z:KO xs):
  f181 F xs (a:Int) (b:Int)=some ((((choosePivot AJ xs.toArray a b).1:Nat):Int),HX (choosePivot AJ xs.toArray a b).2):=by
 have h:A0 (f181 F xs (a:Int) (b:Int)) (fun r=>r=((((choosePivot AJ xs.toArray a b).1:Nat):Int),HX (choosePivot AJ xs.toArray a b).2)):=by
  unfold f181;have aj:(b - a) / 4≤b - a:=Nat.div_le_self _ _;have ak:(b - a) / 4*3<b - a:=by omega
  refine A9 ((b - a:Nat):Int) (by omega) (by omega) (by omega) (A0.quo (b - a) 4 rfl (by omega) (by omega) ?_);refine A9 (((b - a) / 4*1:Nat):Int) (by push_cast;rfl) (by omega) (by omega) (A9 ((a+(b - a) / 4*1:Nat):Int) (by push_cast;rfl) (by omega) (by omega) ?_);refine A0.quo (b - a) 4 rfl (by omega) (by omega) (A9 (((b - a) / 4*2:Nat):Int) (by push_cast;rfl) (by omega) (by omega) ?_);refine A9 ((a+(b - a) / 4*2:Nat):Int) (by push_cast;rfl) (by omega) (by omega) (A0.quo (b - a) 4 rfl (by omega) (by omega) ?_);refine A9 (((b - a) / 4*3:Nat):Int) (by push_cast;rfl) (by omega) (by omega) (A9 ((a+(b - a) / 4*3:Nat):Int) (by push_cast;rfl) (by omega) (by omega) ?_);have aa:choosePivot AJ xs.toArray a b=((median AJ xs.toArray (a+(b - a) / 4*1) (a+(b - a) / 4*2) (a+(b - a) / 4*3) 0).1,if(median AJ xs.toArray (a+(b - a) / 4*1) (a+(b - a) / 4*2) (a+(b - a) / 4*3) 0).2=0 then .increasing else if(median AJ xs.toArray (a+(b - a) / 4*1) (a+(b - a) / 4*2) (a+(b - a) / 4*3) 0).2=12 then .decreasing else .unknown):=by
   unfold choosePivot;simp only;rw [if_pos (by omega),if_neg (by omega)]
  rw [aa];generalize ab:median AJ xs.toArray (a+(b - a) / 4*1) (a+(b - a) / 4*2) (a+(b - a) / 4*3) 0=K;refine AS (S:=fun r=>r=(((K.1:Nat):Int),((K.2:Nat):Int))) ?_ ?_
  ·refine Ci (by omega) (AS (S:=fun _=>True) (Br (by omega) (Aq trivial)) fun _ _=>?_);have W:=Vi (F:=F) (a:=a+(b - a) / 4*1) (b:=a+(b - a) / 4*2) (c:=a+(b - a) / 4*3) (sw:=0) (xs:=xs) (by omega) (by omega) (by omega) (by omega) Y Z;rw [ab] at W;exact AW W (Aq rfl)
  ·rintro r rfl;refine Cc (fun h=>?_) (fun h=>?_)
   ·have O:K.2=0:=by simp at h;omega
    rw [if_pos O];exact Aq rfl
   ·have O:¬K.2=0:=by simp at h;omega
    rw [if_neg O];refine Cc (fun U=>?_) (fun U=>?_)
    ·have V:K.2=12:=by simp at U;omega
     rw [if_pos V];exact Aq rfl
    ·have V:¬K.2=12:=by simp at U;omega
     rw [if_neg V];exact Aq rfl
 obtain⟨r,ae,rfl⟩:=h;exact ae
theorem Vt{F:Nat}:∀(m i j fuel:Nat) (xs:List PT),j - i≤m→m<fuel→(i<j→j<xs.length)→i≤xs.length→j≤xs.length→xs.length<1000→KO xs→
  A0 (iter (Hq F) fuel ((i:Int),(j:Int),xs)) (fun ys=>ys.toArray=reverseLoop i j xs.toArray∧KO ys∧ys.length=xs.length):=by
 intro m
 induction m with
 | zero=>
  intro i j fuel xs hm aa Y hi ab Z K;obtain⟨fuel,rfl⟩:∃k,fuel=k+1:=⟨fuel - 1,by omega⟩;have O:¬i<j:=by omega
  have U:A0 (Hq F ((i:Int),(j:Int),xs)) (fun st=>st= .done xs):=by
   unfold Hq;exact Br (show ¬(i:Int)<(j:Int) by omega) (Aq rfl)
  obtain⟨st,hb,rfl⟩:=U;unfold iter;rw [hb];refine⟨xs,rfl,?_,K,rfl⟩;rw [reverseLoop,if_neg O]
 | succ m ae=>
  intro i j fuel xs hm aa Y hi ab Z K;obtain⟨fuel,rfl⟩:∃k,fuel=k+1:=⟨fuel - 1,by omega⟩;by_cases O:i<j
  ·have V:=Y O;have W:i<xs.length:=by omega
   have U:A0 (Hq F ((i:Int),(j:Int),xs)) (fun st=>st= .more (((i+1:Nat):Int),((j - 1:Nat):Int),(xs.set i xs[j]).set j xs[i])):=by
    unfold Hq;refine Ci (show(i:Int)<(j:Int) by omega) (BN (m:=j) rfl V ?_);refine BN (m:=i) rfl W (A9 ((i+1:Nat):Int) (by simp) (by omega) (by omega) ?_);exact A9 ((j - 1:Nat):Int) (by simp;omega) (by omega) (by omega) (Aq rfl)
   obtain⟨st,hb,rfl⟩:=U;unfold iter;rw [hb];refine(ae (i+1) (j - 1) fuel ((xs.set i xs[j]).set j xs[i]) (by omega) (by omega) (by simp;omega) (by simp;omega) (by simp;omega) (by simpa using Z) ((K.set (K.get V)).set (K.get W))).Ai ?_;rintro ys ⟨ah,ai,aj⟩;refine⟨?_,ai,by simpa using aj⟩;rw [ah,Ik W V,reverseLoop.eq_def i j,if_pos O]
  ·have U:A0 (Hq F ((i:Int),(j:Int),xs)) (fun st=>st= .done xs):=by
    unfold Hq;exact Br (show ¬(i:Int)<(j:Int) by omega) (Aq rfl)
   obtain⟨st,hb,rfl⟩:=U;unfold iter;rw [hb];refine⟨xs,rfl,?_,K,rfl⟩;rw [reverseLoop,if_neg O]
theorem UE{F a b:Nat}{xs:List PT}(U:2000<F)(V:a<b)(hb:b≤xs.length)(K:xs.length<1000)(O:KO xs):
  A0 (f182 F xs (a:Int) (b:Int)) (fun ys=>ys.toArray=reverseRange xs.toArray a b∧KO ys∧ys.length=xs.length):=by
 unfold f182 reverseRange;refine A9 ((b - 1:Nat):Int) (by omega) (by omega) (by omega) (AS (Vt (F:=F) (b - 1 - a) a (b - 1) F xs (by omega) (by omega) (by omega) (by omega) (by omega) K O) ?_);rintro ys h;exact⟨ys,rfl,h⟩
theorem Vu{F b q1:Nat}{xs:List PT}(q2:Int)(hb:b≤xs.length)(ae:xs.length<1000)(Y:KO xs):∀(m i fuel:Nat),b - i≤m→m<fuel→1≤i→
  A0 (iter (It F (b:Int) (((q1:Nat):Int),q2,xs)) fuel (i:Int)) (fun r=>r=((scanSorted AJ xs.toArray b i:Nat):Int)):=by
 intro m
 induction m with
 | zero=>
  intro i fuel hm ab hi;obtain⟨fuel,rfl⟩:∃k,fuel=k+1:=⟨fuel - 1,by omega⟩;have K:¬i<b:=by omega
  have O:A0 (It F (b:Int) (((q1:Nat):Int),q2,xs) (i:Int)) (fun st=>st= .done (i:Int)):=by
   unfold It;refine AS (S:=fun c=>c=false) (Br (by omega) (Aq rfl)) ?_;rintro c rfl;exact Br (by simp) (Aq rfl)
  obtain⟨st,U,rfl⟩:=O;unfold iter;rw [U];refine⟨_,rfl,?_⟩;rw [scanSorted,if_neg (by simp [K])]
 | succ m Z=>
  intro i fuel hm ab hi;obtain⟨fuel,rfl⟩:∃k,fuel=k+1:=⟨fuel - 1,by omega⟩;by_cases K:i<b
  ·have V:i<xs.length:=by omega
   have W:i - 1<xs.length:=by omega
   have O:A0 (It F (b:Int) (((q1:Nat):Int),q2,xs) (i:Int)) (fun st=>st=if(!AJ xs[i] xs[i-1])=true then .more ((i+1:Nat):Int) else .done (i:Int)):=by
    unfold It;refine AS (S:=fun c=>c= !AJ xs[i] xs[i-1]) ?_ ?_
    ·refine Ci (by omega) (BN (m:=i) rfl V ?_);refine A9 ((i - 1:Nat):Int) (by omega) (by omega) (by omega) (BN (m:=i - 1) rfl W ?_);refine AW (J4 (Y.get V) (Y.get W)) (Aq ?_);rw [← I5];exact decide_not
    ·rintro c rfl;refine Cc (fun h=>?_) (fun h=>?_)
     ·refine A9 ((i+1:Nat):Int) (by simp) (by omega) (by omega) ?_;rw [if_pos h];exact Aq rfl
     ·rw [if_neg h];exact Aq rfl
   obtain⟨st,U,rfl⟩:=O;unfold iter;rw [U];have hs:scanSorted AJ xs.toArray b i=if(!AJ xs[i] xs[i-1])=true then scanSorted AJ xs.toArray b (i+1) else i:=by
    rw [scanSorted.eq_def AJ xs.toArray b i,Gd V,Gd W];simp [K]
   by_cases aa:(!AJ xs[i] xs[i-1])=true
   ·rw [if_pos aa] at hs ⊢;rw [hs];exact Z (i+1) fuel (by omega) (by omega) (by omega)
   ·rw [if_neg aa] at hs ⊢;exact⟨_,rfl,by rw [hs]⟩
  ·exact Z i (fuel+1) (by omega) (by omega) hi
theorem U8{F a b:Nat}{xs:List PT}(Z:2000<F)(aa:a<b)(ab:b<a+50)(hb:b≤xs.length)(O:xs.length<1000)(U:KO xs):
  f183 F xs (a:Int) (b:Int)=some ((partialInsertionSort AJ xs.toArray a b).2,xs)∧(partialInsertionSort AJ xs.toArray a b).1=xs.toArray:=by
 have e:partialInsertionSort AJ xs.toArray a b=if scanSorted AJ xs.toArray b (a+1)=b then(xs.toArray,true) else(xs.toArray,false):=by
  unfold partialInsertionSort partialIns;simp only;split
  ·rfl
  ·rw [if_pos (by omega)]
 have h:A0 (f183 F xs (a:Int) (b:Int)) (fun r=>r=((partialInsertionSort AJ xs.toArray a b).2,xs)):=by
  unfold f183;refine A9 ((a+1:Nat):Int) (by simp) (by omega) (by omega) (AS (S:=fun r=>r=Sum.inl ((partialInsertionSort AJ xs.toArray a b).2,xs)) ?_ ?_)
  ·obtain⟨K,rfl⟩:∃k,F=k+1:=⟨F - 1,by omega⟩;have V:A0 (LD (K+1) (a:Int) (b:Int) (((a+1:Nat):Int),0,xs)) (fun st=>st= .done (Sum.inl ((partialInsertionSort AJ xs.toArray a b).2,xs))):=by
    unfold LD;refine Ci (show(0:Int)<5 by omega) (AS (Vu (F:=K+1) (q1:=a+1) 0 hb O U (b - (a+1)) (a+1) (K+1) (by omega) (by omega) (by omega)) ?_);rintro r rfl;rw [e];refine Cc (fun h=>?_) (fun h=>?_)
    ·rw [if_pos (by omega)];exact Aq rfl
    ·rw [if_neg (by omega)];exact A9 ((b - a:Nat):Int) (by omega) (by omega) (by omega) (Ci (by omega) (Aq rfl))
   obtain⟨st,W,rfl⟩:=V;unfold iter;rw [W];exact⟨_,rfl,rfl⟩
  ·rintro r rfl;exact Aq rfl
 obtain⟨r,Y,rfl⟩:=h;refine⟨Y,?_⟩;rw [e];split <;> rfl
end Pal
namespace Pal
open Go.Sort
theorem OR{body:Int→Option (Bj Int Int)}{d:Array PT}{p:PT→Bool}{j:Nat}(V:j<900)
  (h:∀i:Nat,i≤j+2→body (i:Int)=some (if(decide (i≤j)&&p d[i]!)=true then .more ((i+1:Nat):Int) else .done (i:Int))):
  ∀(m i fuel:Nat),j+1 - i≤m→m<fuel→i≤j+2→iter body fuel (i:Int)=some ((scanUp p d j i:Nat):Int):=by
 intro m
 induction m with
 | zero=>
  intro i fuel hm O hi;obtain⟨fuel,rfl⟩:∃k,fuel=k+1:=⟨fuel - 1,by omega⟩;have K:¬(decide (i≤j)&&p d[i]!)=true:=by simp;omega
  unfold iter;rw [h i hi,if_neg K,scanUp,if_neg K]
 | succ m U=>
  intro i fuel hm O hi;obtain⟨fuel,rfl⟩:∃k,fuel=k+1:=⟨fuel - 1,by omega⟩;unfold iter;rw [h i hi,scanUp];by_cases K:(decide (i≤j)&&p d[i]!)=true
  ·rw [if_pos K,if_pos K];have:i≤j:=by simp at K;exact K.1
   exact U (i+1) fuel (by omega) (by omega) (by omega)
  ·rw [if_neg K,if_neg K]
theorem Ot{body:Int→Option (Bj Int Int)}{d:Array PT}{p:PT→Bool}{i:Nat}(hi:1≤i){n:Nat}
  (h:∀j:Nat,j<n→body (j:Int)=some (if(decide (i≤j)&&p d[j]!)=true then .more ((j - 1:Nat):Int) else .done (j:Int))):
  ∀(j fuel:Nat),j<n→j<fuel→iter body fuel (j:Int)=some ((scanDown p d i j:Nat):Int):=by
 intro j
 induction j with
 | zero=>
  intro fuel O U;obtain⟨fuel,rfl⟩:∃k,fuel=k+1:=⟨fuel - 1,by omega⟩;have K:¬(decide (i≤0)&&p d[0]!)=true:=by simp;omega
  unfold iter;rw [h 0 O,if_neg K];rfl
 | succ j V=>
  intro fuel O U;obtain⟨fuel,rfl⟩:∃k,fuel=k+1:=⟨fuel - 1,by omega⟩;unfold iter;rw [h (j+1) O,scanDown];by_cases K:(decide (i≤j+1)&&p d[j+1]!)=true
  ·rw [if_pos K,if_pos K];exact V fuel (by omega) (by omega)
  ·rw [if_neg K,if_neg K]
theorem A0.KE{α:Type}{o:Option α}{a:α}(h:A0 o (fun x=>x=a)):o=some a:=by obtain⟨x,K,rfl⟩:=h;exact K
theorem PZ{F a:Nat}{q2:Int}{j:Nat}{q1:Int}{ys:List PT}(K:a<ys.length)(W:j<ys.length)(Y:ys.length<900)(V:KO ys)(i:Nat)(hi:i≤j+2):
  I3 F (a:Int) (q1,(j:Int),ys) (i:Int)=some (if(decide (i≤j)&&AJ ys.toArray[i]! ys.toArray[a]!)=true then .more ((i+1:Nat):Int) else .done (i:Int)):=by
 refine A0.KE ?_;unfold I3;refine AS (S:=fun c=>c=(decide (i≤j)&&AJ ys.toArray[i]! ys.toArray[a]!)) ?_ ?_
 ·refine Cc (fun h=>?_) (fun h=>?_)
  ·have O:i≤j:=by simp at h;omega
   have U:i<ys.length:=by omega
   refine BN (m:=i) rfl U (BN (m:=a) rfl K ?_);refine AW (J4 (V.get U) (V.get K)) (Aq ?_);rw [I5,Gd U,Gd K];simp [O]
  ·have O:¬i≤j:=by simp at h;omega
   refine Aq ?_;simp [O]
 ·rintro c rfl;refine Cc (fun h=>?_) (fun h=>?_)
  ·refine A9 ((i+1:Nat):Int) (by simp) (by omega) (by omega) ?_;rw [if_pos h];exact Aq rfl
  ·rw [if_neg h];exact Aq rfl
theorem Pd{F a i:Nat}{q1 q2:Int}{ys:List PT}(O:a<ys.length)(W:ys.length<900)(V:KO ys)(hi:1≤i)(j:Nat)(U:j<ys.length):
  I4 F (a:Int) (q1,q2,ys) (i:Int) (j:Int)=some (if(decide (i≤j)&& !AJ ys.toArray[j]! ys.toArray[a]!)=true then .more ((j - 1:Nat):Int) else .done (j:Int)):=by
 refine A0.KE ?_;unfold I4;refine AS (S:=fun c=>c=(decide (i≤j)&& !AJ ys.toArray[j]! ys.toArray[a]!)) ?_ ?_
 ·refine Cc (fun h=>?_) (fun h=>?_)
  ·have K:i≤j:=by omega
   refine BN (m:=j) rfl U (BN (m:=a) rfl O ?_);refine AW (J4 (V.get U) (V.get O)) (Aq ?_);rw [Gd U,Gd O,← I5,← decide_not];simp [K]
  ·have K:¬i≤j:=by omega
   refine Aq ?_;simp [K]
 ·rintro c rfl;refine Cc (fun h=>?_) (fun h=>?_)
  ·have K:i≤j:=by simp at h;exact h.1
   refine A9 ((j - 1:Nat):Int) (by omega) (by omega) (by omega) ?_;rw [if_pos h];exact Aq rfl
  ·rw [if_neg h];exact Aq rfl
theorem Uw{F a b:Nat}(aw:2000<F)(ay:a<b):∀(m i j fuel:Nat) (ys:List PT),j+1 - i≤m→m<fuel→a<i→i≤j+2→j<b→b≤ys.length→ys.length<900→KO ys→
  A0 (iter (Iw F (a:Int)) fuel ((i:Int),(j:Int),ys)) (fun r=>r.1=(((partLoop AJ a i j ys.toArray).1:Nat):Int)∧r.2.toArray=(partLoop AJ a i j ys.toArray).2∧KO r.2∧r.2.length=ys.length):=by
 intro m
 induction m with
 | zero=>?_
 | succ m ak=>?_
 all_goals
  intro i j fuel ys hm az aA al aB hb V U;obtain⟨fuel,rfl⟩:∃k,fuel=k+1:=⟨fuel - 1,by omega⟩;have ae:a<ys.length:=by omega
  have ah:j<ys.length:=by omega
  have W:iter (I3 F (a:Int) ((i:Int),(j:Int),ys)) F (i:Int)=some ((scanUp (fun x=>AJ x ys.toArray[a]!) ys.toArray j i:Nat):Int):=
   OR (by omega) (fun am an=>PZ (q2:=0) ae ah V U am an) (j+1 - i) i F (by omega) (by omega) al
  have ao:=scanUp_ge (fun x=>AJ x ys.toArray[a]!) ys.toArray j i;have ap:=scanUp_spec (fun x=>AJ x ys.toArray[a]!) ys.toArray j _ i rfl;have O:=partLoop_eq AJ a i j ys.toArray;generalize aC:scanUp (fun x=>AJ x ys.toArray[a]!) ys.toArray j i=i2 at W ao ap O;have Y:iter (I4 F (a:Int) ((i:Int),(j:Int),ys) (i2:Int)) F (j:Int)=some ((scanDown (fun x=> !AJ x ys.toArray[a]!) ys.toArray i2 j:Nat):Int):=
   Ot (n:=ys.length) (by omega) (fun aq ar=>Pd ae V U (by omega) aq ar) j F ah (by omega)
  have hle:=scanDown_le (fun x=> !AJ x ys.toArray[a]!) ys.toArray i2 j;generalize hJ:scanDown (fun x=> !AJ x ys.toArray[a]!) ys.toArray i2 j=K at Y hle O;by_cases ai:i2>K
  ·have Z:Iw F (a:Int) ((i:Int),(j:Int),ys)=some (.done ((K:Int),ys)):=by
    refine A0.KE ?_;unfold Iw;refine AW W (AW Y ?_);exact Ci (by omega) (Aq rfl)
   unfold iter;rw [Z];rw [if_pos ai] at O;exact⟨_,rfl,by rw [O],by rw [O],U,rfl⟩
  ·first
    | (exfalso;omega)
    | (
     have aa:i2<ys.length:=by omega
     have ab:K<ys.length:=by omega
     have Z:Iw F (a:Int) ((i:Int),(j:Int),ys)=some (.more (((i2+1:Nat):Int),((K - 1:Nat):Int),(ys.set i2 ys[K]).set K ys[i2])):=by
      refine A0.KE ?_
      unfold Iw
      refine AW W ?_
      refine AW Y ?_
      refine Br (by omega) ?_
      refine BN (m:=K) rfl ab ?_
      refine BN (m:=i2) rfl aa ?_
      refine A9 ((i2+1:Nat):Int) (by simp) (by omega) (by omega) ?_
      refine A9 ((K - 1:Nat):Int) (by omega) (by omega) (by omega) ?_
      exact Aq rfl
     unfold iter;rw [Z]
     rw [if_neg ai] at O
     refine(ak (i2+1) (K - 1) fuel ((ys.set i2 ys[K]).set K ys[i2]) (by omega) (by omega) (by omega) (by omega) (by omega) (by simpa using hb) (by simpa using V) ((U.set (U.get ab)).set (U.get aa))).Ai ?_
     rintro r ⟨k1,aj,au,av⟩
     rw [Ik aa ab,← O] at k1 aj
     exact⟨k1,aj,au,by simpa using av⟩)
theorem T1{F a:Nat}{j p3:Nat}{xs ys:List PT}{K O:PT}(he:(xs.set a K).set p3 O=ys)(U:a<ys.length)(V:j<ys.length)(W:ys.length<900)(Y:KO ys)(i:Nat)(hi:i≤j+2):
  JZ F xs (a:Int) (p3:Int) K O (j:Int) (i:Int)=some (if(decide (i≤j)&&AJ ys.toArray[i]! ys.toArray[a]!)=true then .more ((i+1:Nat):Int) else .done (i:Int)):=by
 rw [← PZ (F:=F) (q1:=0) (q2:=0) U V W Y i hi];unfold JZ I3;simp only [Int.toNat_natCast,he]
theorem Sm{F a i p3:Nat}{xs ys:List PT}{K O:PT}(he:(xs.set a K).set p3 O=ys)(U:a<ys.length)(V:ys.length<900)(W:KO ys)(hi:1≤i)(j:Nat)(Y:j<ys.length):
  J1 F xs (a:Int) (p3:Int) K O (i:Int) (j:Int)=some (if(decide (i≤j)&& !AJ ys.toArray[j]! ys.toArray[a]!)=true then .more ((j - 1:Nat):Int) else .done (j:Int)):=by
 rw [← Pd (F:=F) (q1:=0) (q2:=0) U V W hi j Y];unfold J1 I4;simp only [Int.toNat_natCast,he]
theorem Sf(a:Nat):∀(n i j:Nat) (d:Array PT),j+1 - i≤n→(partLoop AJ a i j d).1≤j:=by
  intro n
  induction n with
  | zero=>?_
  | succ n V=>?_
  all_goals
    intro i j d Y;have K:=partLoop_eq AJ a i j d;have W:=scanUp_ge (fun x=>AJ x d[a]!) d j i;generalize Z:scanUp (fun x=>AJ x d[a]!) d j i=i2 at W K;have hle:=scanDown_le (fun x=> !AJ x d[a]!) d i2 j;generalize hJ:scanDown (fun x=> !AJ x d[a]!) d i2 j=O at hle K;by_cases U:i2>O
    ·rw [K,if_pos U];exact hle
    ·first
        | (exfalso;omega)
        | (rw [K,if_neg U]
           have:=V (i2+1) (O - 1) (swp d i2 O) (by omega)
           omega)
theorem Vv{F a b pv:Nat}(aq:2000<F){xs:List PT}(aD:a≤pv)(aE:pv<b)(hb:b≤xs.length)(aF:xs.length<900)(aa:KO xs):
  A0 (f185 F xs (a:Int) (b:Int) (pv:Int)) (fun r=>r.1=(((partition AJ xs.toArray a b pv).1:Nat):Int)∧r.2.1=(partition AJ xs.toArray a b pv).2.1∧r.2.2.toArray=(partition AJ xs.toArray a b pv).2.2∧KO r.2.2∧r.2.2.length=xs.length):=by
 have ab:a<xs.length:=by omega
 have ae:pv<xs.length:=by omega
 obtain⟨ys,V⟩:∃ys,(xs.set a xs[pv]).set pv xs[a]=ys:=⟨_,rfl⟩;have O:KO ys:=by rw [← V];exact(aa.set (aa.get ae)).set (aa.get ab)
 have an:ys.length=xs.length:=by rw [← V];simp
 have ar:ys.toArray=swp xs.toArray a pv:=by rw [← V,Ik ab ae]
 have Y:a<ys.length:=by omega
 have ao:b - 1<ys.length:=by omega
 unfold f185;refine BN (m:=pv) rfl ae (BN (m:=a) rfl ab ?_);refine A9 ((a+1:Nat):Int) (by simp) (by omega) (by omega) (A9 ((b - 1:Nat):Int) (by omega) (by omega) (by omega) ?_);have au:iter (JZ F xs (a:Int) (pv:Int) xs[pv] xs[a] ((b - 1:Nat):Int)) F ((a+1:Nat):Int)=some ((scanUp (fun x=>AJ x ys.toArray[a]!) ys.toArray (b - 1) (a+1):Nat):Int):=
  OR (by omega) (fun av aw=>T1 V Y ao (by omega) O av aw) (b - 1+1 - (a+1)) (a+1) F (by omega) (by omega) (by omega)
 refine AW au ?_;have ay:=scanUp_ge (fun x=>AJ x ys.toArray[a]!) ys.toArray (b - 1) (a+1);have U:partition AJ xs.toArray a b pv=if scanUp (fun x=>AJ x ys.toArray[a]!) ys.toArray (b - 1) (a+1)>scanDown (fun x=> !AJ x ys.toArray[a]!) ys.toArray (scanUp (fun x=>AJ x ys.toArray[a]!) ys.toArray (b - 1) (a+1)) (b - 1) then
   (scanDown (fun x=> !AJ x ys.toArray[a]!) ys.toArray (scanUp (fun x=>AJ x ys.toArray[a]!) ys.toArray (b - 1) (a+1)) (b - 1),true,swp ys.toArray (scanDown (fun x=> !AJ x ys.toArray[a]!) ys.toArray (scanUp (fun x=>AJ x ys.toArray[a]!) ys.toArray (b - 1) (a+1)) (b - 1)) a) else
   ((partLoop AJ a (scanUp (fun x=>AJ x ys.toArray[a]!) ys.toArray (b - 1) (a+1)+1) (scanDown (fun x=> !AJ x ys.toArray[a]!) ys.toArray (scanUp (fun x=>AJ x ys.toArray[a]!) ys.toArray (b - 1) (a+1)) (b - 1) - 1) (swp ys.toArray (scanUp (fun x=>AJ x ys.toArray[a]!) ys.toArray (b - 1) (a+1)) (scanDown (fun x=> !AJ x ys.toArray[a]!) ys.toArray (scanUp (fun x=>AJ x ys.toArray[a]!) ys.toArray (b - 1) (a+1)) (b - 1)))).1,false,
    swp (partLoop AJ a (scanUp (fun x=>AJ x ys.toArray[a]!) ys.toArray (b - 1) (a+1)+1) (scanDown (fun x=> !AJ x ys.toArray[a]!) ys.toArray (scanUp (fun x=>AJ x ys.toArray[a]!) ys.toArray (b - 1) (a+1)) (b - 1) - 1) (swp ys.toArray (scanUp (fun x=>AJ x ys.toArray[a]!) ys.toArray (b - 1) (a+1)) (scanDown (fun x=> !AJ x ys.toArray[a]!) ys.toArray (scanUp (fun x=>AJ x ys.toArray[a]!) ys.toArray (b - 1) (a+1)) (b - 1)))).2
     (partLoop AJ a (scanUp (fun x=>AJ x ys.toArray[a]!) ys.toArray (b - 1) (a+1)+1) (scanDown (fun x=> !AJ x ys.toArray[a]!) ys.toArray (scanUp (fun x=>AJ x ys.toArray[a]!) ys.toArray (b - 1) (a+1)) (b - 1) - 1) (swp ys.toArray (scanUp (fun x=>AJ x ys.toArray[a]!) ys.toArray (b - 1) (a+1)) (scanDown (fun x=> !AJ x ys.toArray[a]!) ys.toArray (scanUp (fun x=>AJ x ys.toArray[a]!) ys.toArray (b - 1) (a+1)) (b - 1)))).1 a):=by
  rw [ar];rfl
 generalize aG:scanUp (fun x=>AJ x ys.toArray[a]!) ys.toArray (b - 1) (a+1)=i2 at ay U ⊢;have az:iter (J1 F xs (a:Int) (pv:Int) xs[pv] xs[a] (i2:Int)) F ((b - 1:Nat):Int)=some ((scanDown (fun x=> !AJ x ys.toArray[a]!) ys.toArray i2 (b - 1):Nat):Int):=
  Ot (n:=ys.length) (by omega) (fun aA aB=>Sm V Y (by omega) O (by omega) aA aB) (b - 1) F ao (by omega)
 refine AW az ?_;have hle:=scanDown_le (fun x=> !AJ x ys.toArray[a]!) ys.toArray i2 (b - 1);generalize hJ:scanDown (fun x=> !AJ x ys.toArray[a]!) ys.toArray i2 (b - 1)=K at hle U ⊢;have W:K<ys.length:=by omega
 simp only [Int.toNat_natCast,V];refine Cc (fun h=>?_) (fun h=>?_)
 ·have ah:i2>K:=by omega
  rw [if_pos ah] at U;refine BN (m:=a) rfl Y (BN (m:=K) rfl W ?_);refine Aq ?_;rw [U];exact⟨rfl,rfl,Ik W Y,(O.set (O.get Y)).set (O.get W),by simp [an]⟩
 ·have ah:¬i2>K:=by omega
  have ai:i2<ys.length:=by omega
  rw [if_neg ah] at U;refine BN (m:=K) rfl W (BN (m:=i2) rfl ai ?_);refine A9 ((i2+1:Nat):Int) (by simp) (by omega) (by omega) (A9 ((K - 1:Nat):Int) (by omega) (by omega) (by omega) ?_);refine AS (Uw (F:=F) aq (show a<b by omega) (K - 1+1 - (i2+1)) (i2+1) (K - 1) F ((ys.set i2 ys[K]).set K ys[i2]) (by omega) (by omega) (by omega) (by omega) (by omega) (by simp;omega) (by simp;omega) ((O.set (O.get W)).set (O.get ai))) ?_;rintro r ⟨k1,aj,Z,ap⟩;rw [Ik ai W] at k1 aj;have aC:=Sf a _ (i2+1) (K - 1) (swp ys.toArray i2 K) (Nat.le_refl _);obtain⟨aH,ak⟩:=r;simp only at k1 aj Z ap ⊢;subst k1;rw [← aj] at U;have hlen:ak.length=ys.length:=by simpa using ap
  generalize (partLoop AJ a (i2+1) (K - 1) (swp ys.toArray i2 K)).1=pm at aC U ⊢;have al:pm<ak.length:=by omega
  have am:a<ak.length:=by omega
  refine BN (m:=a) rfl am (BN (m:=pm) rfl al ?_);refine Aq ?_;rw [U];exact⟨rfl,rfl,Ik al am,(Z.set (Z.get am)).set (Z.get al),by simp [hlen,an]⟩
end Pal
namespace Pal
open Go.Sort
theorem UY(F:Nat):∀n:Nat,n<13→∃l,f163 F (CX (n:Int))=some l:=by
 intro n K
 match n,K with
 | 0,_=>exact⟨_,rfl⟩
 | 1,_=>exact⟨_,rfl⟩
 | 2,_=>exact⟨_,rfl⟩
 | 3,_=>exact⟨_,rfl⟩
 | 4,_=>exact⟨_,rfl⟩
 | 5,_=>exact⟨_,rfl⟩
 | 6,_=>exact⟨_,rfl⟩
 | 7,_=>exact⟨_,rfl⟩
 | 8,_=>exact⟨_,rfl⟩
 | 9,_=>exact⟨_,rfl⟩
 | 10,_=>exact⟨_,rfl⟩
 | 11,_=>exact⟨_,rfl⟩
 | 12,_=>exact⟨_,rfl⟩
 | n+13,h=>omega
theorem Ud(F:Nat):f163 F (CX ((13:Nat):Int))=some 4:=rfl
def Is(xs:List PT)(d:Array PT)(ys:List PT):Prop:=ys.toArray=d∧KO ys∧ys.length=xs.length
theorem OF{F a b:Nat}{l:Int}{xs:List PT}(K:2000<F)(O:a≤b)(ae:b≤a+12)(hb:b≤xs.length)(ah:xs.length<900)(U:KO xs):
  A0 (HW F xs (a:Int) (b:Int) l) (Is xs (insertionSort AJ xs.toArray a b)):=by
 unfold HW;refine AS (S:=fun r=>∃ys,r=Sum.inl ys∧Is xs (insertionSort AJ xs.toArray a b) ys) ?_ ?_
 ·obtain⟨V,rfl⟩:∃k,F=k+1:=⟨F - 1,by omega⟩;obtain⟨ys,W,Y,Z,aa⟩:=Qf K hb (by omega) U O;have ab:Lw (V+1) xs (a:Int) (b:Int) l ()=some (.done (Sum.inl ys)):=by
   refine A0.KE ?_;unfold Lw;refine A9 ((b - a:Nat):Int) (by omega) (by omega) (by omega) (Ci (by omega) ?_);exact AW W (Aq rfl)
  unfold iter;rw [ab];exact⟨_,rfl,ys,rfl,Y,Z,aa⟩
 ·rintro r ⟨ys,rfl,h⟩;exact Aq h
theorem MQ{F a b:Nat}{l:Int}{wb wp:Bool}{xs:List PT}(K:2000<F)(O:a≤b)(aa:b≤a+12)(hb:b≤xs.length)(ab:xs.length<900)(U:KO xs):
  A0 (G3 F l ((a:Int),(b:Int),wb,wp,xs)) (fun st=>∃ys,st= .done (Sum.inl ys)∧Is xs (insertionSort AJ xs.toArray a b) ys):=by
 obtain⟨ys,V,W,Y,Z⟩:=Qf K hb (by omega) U O;unfold G3;refine AS (S:=fun r=>r=Sum.inl ys) ?_ ?_
 ·refine A9 ((b - a:Nat):Int) (by dsimp only;omega) (by omega) (by omega) (Ci (by omega) ?_);exact AW V (Aq rfl)
 ·rintro r rfl;exact Aq ⟨ys,rfl,W,Y,Z⟩
theorem Sv{F n:Nat}{l:Int}{xs:List PT}(O:2000<F)(Z:n=xs.length)(aa:n≤12)(U:KO xs):
  A0 (f162 F xs 0 (n:Int) l) (Is xs (insertionSort AJ xs.toArray 0 n)):=by
 unfold f162;refine AS (S:=fun r=>∃ys,r=Sum.inl ys∧Is xs (insertionSort AJ xs.toArray 0 n) ys) ?_ ?_
 ·obtain⟨K,rfl⟩:∃k,F=k+1:=⟨F - 1,by omega⟩;obtain⟨st,V,ys,rfl,W⟩:=MQ (F:=K+1) (a:=0) (b:=n) (l:=l) (wb:=true) (wp:=true) (xs:=xs) O (by omega) (by omega) (by omega) (by omega) U;have Y:G3 (K+1) l (0,(n:Int),true,true,xs)=some (.done (Sum.inl ys)):=V;unfold iter;rw [Y];exact⟨_,rfl,ys,rfl,W⟩
 ·rintro r ⟨ys,rfl,h⟩;exact Aq h
theorem TZ{S A:Type}{body:S→Option (Bj S A)}{F:Nat}{s s':S}(h:body s=some (.more s')){Q:A→Prop}(k:A0 (iter body F s') Q):A0 (iter body (F+1) s) Q:=by
 unfold iter;rw [h];exact k
theorem TB{S A:Type}{body:S→Option (Bj S A)}{F:Nat}{s:S}{Q:A→Prop}(h:A0 (body s) (fun st=>∃a,st= .done a∧Q a)):A0 (iter body (F+1) s) Q:=by
 obtain⟨st,K,a,rfl,O⟩:=h;unfold iter;rw [K];exact⟨a,rfl,O⟩
set_option maxHeartbeats 1000000 in
theorem UM{F:Nat}{xs:List PT}(bc:3000<F)(aJ:xs.length=13)(ao:KO xs):
  A0 (f162 F xs 0 ((13:Nat):Int) 4) (Is xs (pdq AJ xs.toArray 0 13 4 true true)):=by
 have aK:xs.toArray.size=13:=by simpa using aJ
 obtain⟨s1,B1,bd,s2,be,ap,bf,bg⟩:=rd_facts (lt:=AJ) (d:=xs.toArray) (a:=0) (b:=13) (limit:=4) (wb:=true) (wp:=true) LC partialInsertionSort_holds reverseRange_holds (by omega) (by rw [aK];omega) (.inl rfl);have aq:¬(13 - 0≤12):=by omega
 have aC:=UZ (F:=F) (a:=0) (b:=13) (xs:=xs) (by omega) (by omega) (by omega) (by omega) ao;have aL:choosePivot AJ xs.toArray 0 13=(rd AJ xs.toArray 0 13 4 true true).c:=rfl;rw [aL] at aC;generalize K:rd AJ xs.toArray 0 13 4 true true=R at*;have aM:R.lim=4:=by rw [← K];rfl
 have aN:R.c.2= .decreasing→R.d2=reverseRange xs.toArray 0 13∧R.pivot=(13 - 1) - (R.c.1 - 0)∧R.hint= .increasing:=by
  intro h;rw [← K] at h ⊢;exact rd_dec h
 have aO:R.c.2≠ .decreasing→R.d2=xs.toArray∧R.pivot=R.c.1∧R.hint=R.c.2:=by
  intro h;rw [← K] at h ⊢;exact rd_not h
 have aP:R.hint= .increasing→R.pi=partialInsertionSort AJ R.d2 0 13:=by
  intro h;rw [← K] at h ⊢;exact rd_pi_yes (by simp [h])
 have aQ:R.hint≠ .increasing→R.pi=(R.d2,false):=by
  intro h;rw [← K] at h ⊢;exact rd_pi_no (by simp [h])
 have aR:A0 (if HX R.c.2=2 then(f182 F xs 0 ((13:Nat):Int)).bind fun aS=>(Au (((13:Nat):Int) - 1)).bind fun aT=>(Au (((R.c.1:Nat):Int) - 0)).bind fun aU=>(Au (aT - aU)).bind fun aV=>some (aV,(1:Int),aS) else some (((R.c.1:Nat):Int),HX R.c.2,xs))
   (fun q=>q.1=((R.pivot:Nat):Int)∧q.2.1=HX R.hint∧Is xs R.d2 q.2.2):=by
  by_cases ai:R.c.2= .decreasing
  ·obtain⟨ab,e2,W⟩:=aN ai;refine Ci (by rw [ai];rfl) (AS (UE (F:=F) (a:=0) (b:=13) (xs:=xs) (by omega) (by omega) (by omega) (by omega) ao) ?_);rintro ys ⟨k1,U,V⟩;refine A9 12 (by omega) (by omega) (by omega) (A9 ((R.c.1:Nat):Int) (by omega) (by omega) (by omega) ?_);refine A9 ((12 - R.c.1:Nat):Int) (by omega) (by omega) (by omega) (Aq ⟨?_,?_,?_,U,V⟩)
   ·rw [e2];rfl
   ·rw [W];rfl
   ·rw [ab];exact k1
  ·obtain⟨ab,e2,W⟩:=aO ai;refine Br (by intro h;cases ar:R.c.2 <;> rw [ar] at h ai <;> first | (exact ai rfl) | (cases h)) ?_
   refine Aq ⟨?_,?_,?_,ao,rfl⟩
   ·rw [e2]
   ·rw [W]
   ·rw [ab]
 unfold f162;refine AS (S:=fun r=>∃ys,r=Sum.inl ys∧Is xs (pdq AJ xs.toArray 0 13 4 true true) ys) ?_ (by rintro r ⟨ys,rfl,h⟩;exact Aq h);have aW:∀(Y:List PT),Is xs R.pi.1 Y→R.pi.2=false→
   A0 ((f185 F Y 0 ((13:Nat):Int) ((R.pivot:Nat):Int)).bind fun O=>(Au (O.1 - 0)).bind fun aD=>(Au (((13:Nat):Int) - O.1)).bind fun aE=>(He (13:Int) (8)).bind fun aF=>
     Option.bind (
      if aD<aE then(
       (HW F O.2.2 0 O.1 4).bind fun aX=>
       (Au (O.1+1)).bind fun aY=>
       some (aY,((13:Nat):Int),decide (aF≤aD),aX)
      ) else(
       (Au (O.1+1)).bind fun aZ=>
       (HW F O.2.2 aZ ((13:Nat):Int) 4).bind fun a0=>
       some ((0:Int),O.1,decide (aF≤aE),a0)
      )
     ) fun am=>
     some (am.1,am.2.1,am.2.2.1,O.2.1,am.2.2.2))
    (fun st=>A0 (G3 F 4 st) (fun q=>∃a,q= .done a∧∃ys,a=Sum.inl ys∧Is xs (pdq AJ xs.toArray 0 13 4 true true) ys)):=by
  intro Y a1 aG;obtain⟨z1,a2,bh⟩:=a1;have bi:Y.length=13:=by omega
  refine AS (Vv (F:=F) (a:=0) (b:=13) (pv:=R.pivot) (xs:=Y) (by omega) (by omega) ap.2 (by omega) (by omega) a2) ?_;rw [z1];have Z:=partition_holds AJ LC R.pi.1 0 13 R.pivot ap.1 ap.2 (by omega);have aj:=fun au=>pdq_left (lt:=AJ) (d:=xs.toArray) (a:=0) (b:=13) (limit:=4) (wb:=true) (wp:=true) aq (by omega) (by rw [K];exact aG) (by simp) (by rw [K];exact⟨Z.1,Z.2.1⟩) au;have ak:=fun au=>pdq_right (lt:=AJ) (d:=xs.toArray) (a:=0) (b:=13) (limit:=4) (wb:=true) (wp:=true) aq (by omega) (by rw [K];exact aG) (by simp) (by rw [K];exact⟨Z.1,Z.2.1⟩) au;rw [K] at aj ak;rw [aM] at aj ak;generalize partition AJ R.pi.1 0 13 R.pivot=PA at Z aj ak ⊢;obtain⟨m,bj,d4⟩:=PA;rintro⟨bl,a3,aa⟩ ⟨k1,U,V,av,a4⟩;simp only at k1 U V av a4 Z aj ak ⊢;subst k1 U;have hm:m<13:=Z.2.1;have bm:aa.length=13:=by omega
  refine A9 (m:Int) (by omega) (by omega) (by omega) (A9 ((13 - m:Nat):Int) (by omega) (by omega) (by omega) ?_);refine AW (b:=1) rfl ?_;by_cases aH:m - 0<13 - m
  ·refine AS (S:=fun q=>∃us,q=(((m+1:Nat):Int),((13:Nat):Int),decide ((1:Int)≤(m:Int)),us)∧Is aa (insertionSort AJ aa.toArray 0 m) us) ?_ ?_
   ·refine Ci (by omega) (AS (OF (F:=F) (a:=0) (b:=m) (l:=4) (xs:=aa) (by omega) (by omega) (by omega) (by omega) (by omega) av) ?_);intro us aw;exact A9 ((m+1:Nat):Int) (by simp) (by omega) (by omega) (Aq ⟨us,rfl,aw⟩)
   ·rintro q ⟨us,rfl,u1,ay,a5⟩;refine Aq ?_;refine(MQ (F:=F) (a:=m+1) (b:=13) (l:=4) (xs:=us) (by omega) (by omega) (by omega) (by omega) (by omega) ay).Ai ?_;rintro st ⟨ys,rfl,v1,v2,a6⟩;refine⟨_,rfl,ys,rfl,?_,v2,by omega⟩;rw [v1,u1,V,aj aH,pdq_small (by omega),pdq_small (by omega)]
  ·refine AS (S:=fun q=>∃us,q=((0:Int),(m:Int),decide ((1:Int)≤((13 - m:Nat):Int)),us)∧Is aa (insertionSort AJ aa.toArray (m+1) 13) us) ?_ ?_
   ·refine Br (by omega) (A9 ((m+1:Nat):Int) (by simp) (by omega) (by omega) ?_);refine AS (OF (F:=F) (a:=m+1) (b:=13) (l:=4) (xs:=aa) (by omega) (by omega) (by omega) (by omega) (by omega) av) ?_;intro us aw;exact Aq ⟨us,rfl,aw⟩
   ·rintro q ⟨us,rfl,u1,ay,a5⟩;refine Aq ?_;have:=MQ (F:=F) (a:=0) (b:=m) (l:=4) (wb:=decide ((1:Int)≤((13 - m:Nat):Int))) (wp:=a3) (xs:=us) (by omega) (by omega) (by omega) (by omega) (by omega) ay;refine A0.Ai this ?_;rintro st ⟨ys,rfl,v1,v2,a6⟩;refine⟨_,rfl,ys,rfl,?_,v2,by omega⟩;rw [v1,u1,V,ak aH,pdq_small (by omega),pdq_small (by omega)]
 have a7:A0 (G3 F 4 (0,((13:Nat):Int),true,true,xs)) (fun st=>(∃a,st= .done a∧∃ys,a=Sum.inl ys∧Is xs (pdq AJ xs.toArray 0 13 4 true true) ys)∨
   ∃s',st= .more s'∧A0 (G3 F 4 s') (fun q=>∃a,q= .done a∧∃ys,a=Sum.inl ys∧Is xs (pdq AJ xs.toArray 0 13 4 true true) ys)):=by
  unfold G3;refine AS (S:=fun r=>(∃ys,r=Sum.inl ys∧Is xs (pdq AJ xs.toArray 0 13 4 true true) ys)∨∃s',r=Sum.inr s'∧A0 (G3 F 4 s') (fun q=>∃a,q= .done a∧∃ys,a=Sum.inl ys∧Is xs (pdq AJ xs.toArray 0 13 4 true true) ys)) ?_ ?_
  ·refine A9 13 (by dsimp only;omega) (by omega) (by omega) (Br (by omega) ?_);refine Br (by omega) (AS (S:=fun _=>True) (Br (by simp) (Aq trivial)) fun _ _=>?_);refine AW aC (AS aR ?_);rintro⟨q1,q2,ae⟩ ⟨ab,e2,W⟩;simp only at ab e2 W ⊢;subst ab e2;refine AW (b:=true) (by simp) (AW (b:=decide (HX R.hint=1)) (by simp) ?_);have a8:A0 (if(decide (HX R.hint=1))=true then(f183 F ae 0 ((13:Nat):Int)).bind fun az=>if az.1=true then some (Sum.inl az.2) else some (Sum.inr az.2) else some (Sum.inr ae))
     (fun r=>(R.pi.2=true∧∃ys,r=Sum.inl ys∧Is xs R.pi.1 ys)∨(R.pi.2=false∧∃ys,r=Sum.inr ys∧Is xs R.pi.1 ys)):=by
    by_cases hh:R.hint= .increasing
    ·refine Ci (by rw [hh];rfl) ?_;obtain⟨k1,U,V⟩:=W;obtain⟨aA,g2⟩:=U8 (F:=F) (a:=0) (b:=13) (xs:=ae) (by omega) (by omega) (by omega) (by omega) (by omega) U;rw [k1] at aA g2;rw [← aP hh] at aA g2;refine AW aA (Cc (fun h=>?_) (fun h=>?_))
     ·exact Aq (.inl ⟨h,ae,rfl,by rw [g2];exact k1,U,V⟩)
     ·exact Aq (.inr ⟨by simpa using h,ae,rfl,by rw [g2];exact k1,U,V⟩)
    ·refine Br (by intro h;cases ar:R.hint <;> rw [ar] at h hh <;> first | (exact hh rfl) | (simp [HX] at h)) ?_
     rw [aQ hh];exact Aq (.inr ⟨rfl,ae,rfl,W⟩)
   refine AS a8 ?_;rintro r (⟨p2,ys,rfl,aB⟩ | ⟨p2,Y,rfl,a9⟩)
   ·refine Aq (.inl ⟨ys,rfl,?_⟩);rw [pdq_done aq (by omega) (by rw [K];exact p2),K];exact aB
   ·rw [Sum.elim_inr];refine AS (S:=fun c=>c=false) (Br (by omega) (Aq rfl)) ?_;rintro c rfl;refine Br (by simp) ?_;obtain⟨s',ah,al⟩:=aW Y a9 p2;have bn:∀{α β:Type} (o:Option α) (f:α→Option β) (g:β→(List PT)⊕(Int×Int×Bool×Bool×List PT)),True:=fun _ _ _=>trivial;refine A0.of_eq (a:=Sum.inr s') ?_ (.inr ⟨s',rfl,al⟩);have key:∀(o:Option (Int×Int×Bool×Bool×List PT)),o=some s'→(o.bind fun x=>some (Sum.inr x:List PT⊕(Int×Int×Bool×Bool×List PT)))=some (Sum.inr s'):=fun o ba=>by rw [ba];rfl
    refine Eq.trans ?_ (key _ ah);simp only [Option.bind_assoc,Option.bind_some]
  ·rintro r (⟨ys,rfl,aB⟩ | ⟨s',rfl,bb⟩)
   ·exact Aq (.inl ⟨_,rfl,ys,rfl,aB⟩)
   ·exact Aq (.inr ⟨s',rfl,bb⟩)
 obtain⟨bo,aI⟩:∃k,F=k+2:=⟨F - 2,by omega⟩;obtain⟨st,ah,al | al⟩:=a7
 ·obtain⟨a,rfl,an⟩:=al;rw [aI] at ah ⊢;unfold iter;rw [ah];exact⟨a,rfl,an⟩
 ·obtain⟨s',rfl,an⟩:=al;rw [aI] at ah an ⊢;exact TZ ah (TB an)
end Pal
namespace Pal
open Go Go.Conc Go.Proofs
open Go.Proofs.Tryz
variable {J:Judge Tryz.prog}{E:LH}
def Pw(fuel:Nat)(p1:Int)(K:Int)(U:Unit):Option (Bj Unit Unit):= Option.bind (if p1<K then(none) else(some false)) fun O=> if O=true then((Au (K - 1)).bind fun V=> (Au (K - 1)).bind fun W=> none) else(some (.done ()))
def Pr(fuel:Nat)(p1:Int)(p2:Int)(K:Int):Option (Bj Int Unit):= if K<p2 then(Option.bind (iter (Pw fuel p1 K) fuel ()) fun U=> (Au (K+1)).bind fun O=> some (.more O)) else(some (.done ()))
def N1(fuel:Nat)(p1:Int)(p2:Int):Option Unit:= (Au (p1+1)).bind fun K=> Option.bind (iter (Pr fuel p1 p2) fuel K) fun O=> some ()
theorem Vd{p1:Int}{p2:Int}{fuel:Nat}{r:Unit}(V:N1 fuel p1 p2=some r):AR J 178 [nS,iV p1,iV p2,(fV 134)] E [] (fun w E' B'=>w= .tuple #[]∧B'= []):=by
 refine Bg func178 fun Q a0 cs H ak al=>?_;unfold N1 at V;obtain⟨a1,am,an⟩:=bs V;refine zg 3 rfl (Bh am rfl rfl rfl ?_);obtain⟨a2,ao,ap⟩:=bs an;refine zg 2 rfl (CB [] [] (fun a3 aq ar=>?_) (fun au=>?_))
 ·obtain rfl:=oi ap;exact JL.fin (v:= .tuple #[]) rfl rfl (BY.list func178 rfl (vs:= []) trivial) (al aq rfl ⟨rfl,rfl⟩ ar)
 ·refine JL.block (CC ao (fun K=> []) (fun K=> [(0,.slice none 0 0),(1,iV p1),(2,iV p2),(3,(fV 134)),(8,iV K)]) Ap ak ?_);rintro K a4 W Y av ⟨a5,O⟩ aw;have Z:=O;unfold Pr at Z;refine zg 7 rfl (AX Z (fun ay az=>?_) (fun ay aA=>?_))
  ·obtain⟨a6,aB,aC⟩:=bs az;refine zg 8 rfl (CB [] [(0,.slice none 0 0),(1,iV p1),(2,iV p2),(3,(fV 134)),(8,iV K)] (fun a7 aD aE=>?_) (fun aF=>?_))
   ·obtain⟨aG,aH,aI⟩:=bs aC;refine zg 3 rfl (Bh aH rfl rfl rfl ?_);refine zg 2 rfl ?_;obtain rfl:=oi aI;exact aw aG (W.Ab aD) aE rfl O
   ·refine JL.block (CC aB (fun aa=> []) (fun aa=> [(0,.slice none 0 0),(1,iV p1),(2,iV p2),(3,(fV 134)),(8,iV K),(9,iV K)]) Ap Y ?_);rintro aa ab aJ aK aL ⟨a8,ae⟩ a9;have ah:=ae;unfold Pw at ah;refine zg 2 rfl (EV 17 fun ht=>?_);refine Bn ht rfl [0,1,2,3] rfl ?_;obtain⟨aM,ai,aN⟩:=bs ah;refine FX 0 #[true,true,true,true,true,true,true,true,true,true,true,true,true,true,true,true,true] (fun L s=>∃(aj:LH),Jm ab H aj [] [(0,.slice none 0 0),(1,iV p1),(2,iV p2),(3,(fV 134)),(8,iV K),(9,iV K),(34,.bool aM)] L s) ?_ ?_
    ·rintro _ _ ⟨aj,rfl,rfl,aO,aP⟩;refine AQ.fin (by decide+kernel) (BP aN (fun aQ aR=>?_) (fun aQ aS=>?_))
     ·refine zg 3 rfl (EV 16 fun ht=>?_);refine Bn ht rfl [0,1,2,3] rfl ?_;obtain⟨ba,aT,aU⟩:=bs aR;refine Bv 4 ht rfl rfl (fun ρ h s' hs=>Du (h _ _ rfl) (h _ _ rfl) aT) (Bn ht rfl [5,6] rfl ?_);obtain⟨bb,aV,aW⟩:=bs aU;refine Bv 7 ht rfl rfl (fun ρ h s' hs=>Du (h _ _ rfl) (h _ _ rfl) aV) ?_;cases aW
     ·refine JL.exit rfl ?_;obtain rfl:=oi aS;obtain rfl:=aL _ ae;exact aF (aJ.Ab aO) aP rfl
    ·intro aX;refine F9 (q:=p1<K) (i:=21) rfl (fun U=>?_) (fun U=>?_)
     ·have aY:=ip ai U;refine Bn ht rfl [4,5,6] rfl ?_;cases aY
     ·have aZ:=im ai U;refine Bn ht rfl [4,5,6,7,8,9,10,11,12,13,14,15,16] rfl ?_;obtain rfl:=oi aZ;refine DM ?_ (aX _ _ ⟨ab,rfl,rfl,Ap,aK⟩);exact⟨rfl,rfl,rfl,rfl,rfl,rfl,rfl,trivial⟩
  ·refine JL.exit rfl ?_;obtain rfl:=oi aA;obtain rfl:=av _ O;exact au W Y rfl
def PI(fuel:Nat)(p1:Int)(p2:Int)(p3:Int)(O:Unit):Option (Bj Unit ((Unit)⊕(Unit))):= (Au (p2 - p1)).bind fun K=> if K≤12 then((N1 fuel p1 p2).bind fun U=> some (.done (Sum.inl ()))) else(if p3=0 then(none) else(none))
def NV(fuel:Nat)(p1:Int)(p2:Int)(p3:Int):Option Unit:= Option.bind (iter (PI fuel p1 p2 p3) fuel ()) fun K=> Sum.elim (fun r=>some r) (fun O=> none) K
theorem Ur{p1:Int}{p2:Int}{p3:Int}{fuel:Nat}{r:Unit}(K:NV fuel p1 p2 p3=some r):AR J 162 [nS,iV p1,iV p2,iV p3,(fV 134)] E [] (fun w E' B'=>w= .tuple #[]∧B'= []):=by
 refine Bg func162 fun Q az cs H W Y=>?_;unfold NV at K;obtain⟨aA,Z,aa⟩:=bs K;refine zg 8 rfl (Bu (fun L s=>False) ?_ ?_)
 ·intro _ _ ab;exact ab.elim
 ·intro aB;refine JL.block (CC Z (fun O=> []) (fun O=> [(0,.slice none 0 0),(1,iV p1),(2,iV p2),(3,iV p3),(4,(fV 134)),(10,.bool true),(11,.bool true)]) Ap W ?_);rintro O aC ae ah ai ⟨aD,U⟩ aE;have V:=U;unfold PI at V;obtain⟨aF,aj,ak⟩:=bs V;refine zg 5 rfl (BX aj rfl rfl rfl ?_);refine zg 8 rfl (AX ak (fun al am=>?_) (fun al an=>?_))
  ·obtain⟨aG,ao,ap⟩:=bs am;refine zg 6 rfl (BI (Vd ao) rfl rfl MJ ah fun aH aq ar=>?_);refine JL.done ?_;obtain rfl:=oi ap;obtain rfl:=ai _ U;have au:=elim_inl aa;obtain rfl:=oi au;exact AP func162 rfl rfl (Y (ae.Ab aq) rfl ⟨rfl,rfl⟩ ar)
  ·refine zg 7 rfl (AX an (fun av aw=>?_) (fun av ay=>?_))
   ·refine zg 6 rfl ?_;cases aw
   ·refine zg 5 rfl (AA (v:= .bool false) rfl (fun ρ h=>Yl.not (c:=true) (h _ _ rfl)) ?_);refine zg 9 rfl ?_;cases ay
def Rm(fuel:Nat):Option Unit:= (f163 fuel (CX ((0:Nat):Int))).bind fun K=> (NV fuel 0 ((0:Nat):Int) K).bind fun O=> some ()
theorem Uv{fuel:Nat}{r:Unit}(K:Rm fuel=some r):AR J 133 [nS,(fV 134)] E [] (fun w E' B'=>w= .tuple #[]∧B'= []):=by
 refine Bg func133 fun Q ai cs H O U=>?_;unfold Rm at K;refine zg 3 rfl (BA underlying130 rfl rfl rfl ?_);refine zg 6 rfl (AA (v:= .int .u64 ((CX ((0:Nat):Int):Nat):Int)) rfl (fun ρ h=>Yl.CX underlying3 underlying156 (h _ _ rfl)) ?_);obtain⟨aj,V,W⟩:=bs K;refine BI (QB V) rfl rfl (A5 func163 rfl) O fun ak Y Z=>?_;obtain⟨al,aa,ab⟩:=bs W;refine zg 1 rfl (BI (Ur aa) rfl rfl KX Z fun am ae ah=>?_);refine JL.done ?_;obtain rfl:=oi ab;exact JL.fin (v:= .tuple #[]) rfl rfl (BY.list func133 rfl (vs:= []) trivial) (U (Y.Ab ae) rfl ⟨rfl,rfl⟩ ah)
end Pal
namespace Pal
open Go Go.Conc Go.Proofs Go.Sort
theorem SN:∀(ys K:List PT),K.Perm ys→ys.Pairwise (fun p q=>p.1<q.1)→K.Pairwise (fun p q=>p.1≤q.1)→K=ys:=by
 intro ys
 induction ys with
 | nil=>intro K h _ _;exact h.eq_nil
 | cons y ys Y=>
  intro K h O U;cases K with
  | nil=>exact absurd h.symm.eq_nil (by simp)
  | cons z K=>
   rw [List.pairwise_cons] at O U;have V:z∈y::ys:=h.mem_iff.1 (by simp);have W:y∈z::K:=h.mem_iff.2 (by simp);have e:z=y:=by
    rcases List.mem_cons.1 V with e | V
    ·exact e
    ·rcases List.mem_cons.1 W with e | W
     ·exact e.symm
     ·have:=O.1 z V;have:=U.1 y W;omega
   subst e;rw [Y K ((List.perm_cons z).1 h) O.2 U.2]
theorem UI{F:Nat}{xs ys:List PT}(ah:3000<F)(ao:xs.length≤13)(W:KO xs)(ai:ys.Perm xs)(hs:ys.Pairwise (fun p q=>p.1<q.1)):f133 F xs=some ys:=by
 have fin:∀(d:Array PT) (K:List PT),PermIn 0 xs.toArray.size xs.toArray d→SortedIn AJ 0 xs.toArray.size d→K.toArray=d→K=ys:=by
  rintro d K Y aj rfl;have Z:K.Perm xs:=by
   have aa:=Y.2.2;have O:=Y.1;simp only [List.size_toArray] at O aa;have e2:(K.toArray.extract 0 xs.length).toList=K:=by simp [← O]
   have ak:(xs.toArray.extract 0 xs.length).toList=xs:=by simp
   rwa [e2,ak] at aa
  refine SN ys K (Z.trans ai.symm) hs ?_;rw [List.pairwise_iff_getElem];intro i j hi ab al;have h:=aj i j (Nat.zero_le _) al (by simpa using (Z.length_eq▸ab));rw [Gd hi,Gd ab] at h;simpa [AJ] using h
 have h:A0 (f133 F xs) (fun K=>K=ys):=by
  unfold f133;rcases Nat.lt_or_ge xs.length 13 with ae | ae
  ·obtain⟨l,O⟩:=UY F xs.length ae;refine AW O (AS (Sv (F:=F) (n:=xs.length) (l:=l) (by omega) rfl (by omega) W) ?_);rintro K ⟨k1,am,an⟩;obtain⟨V,g2⟩:=insertionSort_holds LC xs.toArray 0 xs.length (Nat.zero_le _) (by simp);exact Aq (fin _ K (by simpa using V) (by simpa using g2) k1)
  ·have U:xs.length=13:=by omega
   refine AW (b:=4) (by rw [U];exact Ud F) ?_;rw [U];refine AS (UM (F:=F) (xs:=xs) ah U W) ?_;rintro K ⟨k1,am,an⟩;obtain⟨V,g2⟩:=pdq_sorts AJ LC xs.toArray 0 13 4 true true (Nat.zero_le _) (by simp [U]) (.inl rfl);have e:xs.toArray.size=13:=by simpa using U
   exact Aq (fin _ K (by rw [e];exact V) (by rw [e];exact g2) k1)
 obtain⟨K,O,rfl⟩:=h;exact O
theorem WE{J:Judge Tryz.prog}{E:LH}{a:Option Addr}{c:Nat}{g:Seg}{xs ys:List PT}(U:xs.length≤13)(V:KO xs)(O:ys.Perm xs)(hs:ys.Pairwise (fun p q=>p.1<q.1))(W:OL 133 (rP rI (rP rI (rL (rP rI (rP (rL rI) (rN .u16)))))) E a c g xs):
  AR J 133 [.slice a xs.length c,.func (.func 134) #[] #[]] E g (fun w E' B'=>w= .tuple #[]∧OL 133 (rP rI (rP rI (rL (rP rI (rP (rL rI) (rN .u16)))))) E' a c B' ys):=by
 rcases W.cases with⟨rfl,rfl,rfl,rfl⟩ | ⟨bk,f,rfl,rfl,hW⟩
 ·obtain rfl:ys= []:=O.eq_nil;refine(Uv (fuel:=10) (r:=()) rfl).Ai ?_;rintro w E' B' hle ⟨K,rfl⟩;exact⟨K,OL.nil⟩
 ·refine(WJ hW (fuel:=4000) (UI (by omega) U V O hs)).Ai ?_;rintro w E' B' hle ⟨Z,K,rfl,Y⟩;exact⟨K,Y.1⟩
end Pal
namespace Pal
open Go Go.Conc Go.Proofs
open Go.Proofs.Tryz
open Go.Conc.Lib Go.ConcR.Gen
def CS(qs:Nat→Int×List (BU)):List (Bl):=((List.range 13).filter (fun j=>decide (0<(qs j).2.length))).map (partOf qs)
theorem Up
  {E:LH} {k1 an:Nat} {ao ap aq:Ao} {ar au av:Nat} {aw:Lv_} {U:BK} {aa:AT} (ab:At E k1 an (([sV ao U.1 ar,sV ap U.2.1 au]:Lv_)++aw)) (aC:An (rL rI) E ao ar U.1) (aD:An (rL rI) E ap au U.2.1) (aE:(rA 13 (rN .u16)).r E aw U.2.2) (aF:An By E aq av aa) {fuel:Nat} {qs:Nat→Int×List (BU)} (aG:∀j,j<13→Gj fuel U aa ((j:Nat):Int)=some (qs j)):
  AR (Dt Tryz.prog) 102 [pV k1 an,.slice aq aa.length av] E [] (fun w E' B'=>∃a c,w= .slice a (CS qs).length c∧B'= []∧An Cg E' a c (CS qs)):=by
 refine NN func102 rfl rfl fun Q bf cs H aH aI=>zg 2 rfl (CI aH fun aJ bg aK ae aL=>?_);refine CI aL fun rl bh ay aM aN=>?_;refine Ds (S':= []) (by simp) aN fun aO=>zg 4 rfl (JS.makeChan rfl rfl rfl underlying162 (Cs type133) aO fun ch aP=>?_);refine Cz aP (D6 type162) fun rc aQ=>?_;refine JS.store (v:= .chan (some ch)) (off:=0) 1 rfl rfl rfl aQ rfl rfl (Bf type162) (by simp [Value.cells,CK]) rfl (Nat.le_of_ble_eq_true rfl) fun aR=>C4 1 aR rfl fun V ah ai aS=>zg 3 rfl (Cz aS (D6 type171) fun wg aT=>?_);refine Ds (S':= [[(ch,.chan 0 #[] false 0 0 false)],[(wg,.cells #[.int .u64 0,.int .u32 0] 171 (0,0))]]) (by simp [Value.cells]) aT fun Z=>zg 7 rfl (IN ?_);refine HZ [(2,pV aJ 0),(3,pV rl 0),(5,pV rc 0),(6,pV wg 0),(11,iV ((0:Nat):Int))] rfl ?_;have aU:=aK.Ab ay;have W:=aU.Ab ah;have aj:=Nd.iff.1 Z;intro T aV;let F:Fam:=⟨wg,ch,171,13,fun j=>decide (0<(qs j).2.length),fun kk v E=>kk<13∧∃a c,v= .agg #[iV ((kk:Nat):Int),iV (qs kk).1,.slice a (qs kk).2.length c]∧An C8 E a c (qs kk).2,fun g s=>(Dt Tryz.prog).ok Q g s⟩;refine UU F (Nat.le_of_ble_eq_true rfl) (show 13<2147483647 by omega) ?_ ?_ (MD (j:=1) Z rfl) (MD (j:=0) Z rfl) ?_ (fun g s h=>h)
 ·rintro kk v bi bj ak ⟨Y,a,c,aW,ab⟩;exact⟨Y,a,c,aW,ab.Ai ak⟩
 ·intro e;have:=aj.1;simp at this;exact this e.symm
 have aX:=SE Z;show Way Tryz.prog true (Stop Tryz.prog F (.EX 0)) _ (⟨(Ak V H [[(ch,.chan 0 #[] false 0 0 false)],[(wg,.cells #[.int .u64 0,.int .u32 0] 171 (0,0))]]).E,HT (Ak V H [[(ch,.chan 0 #[] false 0 0 false)],[(wg,.cells #[.int .u64 0,.int .u32 0] 171 (0,0))]]).H wg ch,false⟩:St);rw [show(Ak V H [[(ch,.chan 0 #[] false 0 0 false)],[(wg,.cells #[.int .u64 0,.int .u32 0] 171 (0,0))]]).E=V from rfl,aX];have aY:As V H []:=trivial;refine Tj (F:=F) rfl (ab.Ai W) (aC.Ai W) (aD.Ai W) (Rp.Ai _ W aE) (aF.Ai W) (ae.Ai (ay.Ab ah)) (aM.Ai ah) ai aG (fun j _=>rfl) (fun j aZ E' a c a0=>⟨aZ,a,c,rfl,a0⟩) (fun az al bl=>?_) 13 0 rfl (by decide) V Ap aY T aV;refine zg 9 rfl ?_;refine AA (v:= .func (.func 131) #[] ([.pointer (some F.sA),pV rc 0]:Lv_).toArray) rfl (fun ρ h=>Ii (by simp) (by simp [h (.tmp 6) _ rfl,h (.tmp 5) _ rfl])) ?_;have aA:=TU (F:=F) (show 13<2147483648 by omega) (ai.Ai al);refine JL.Gs (fi:= #[]) rfl rfl rfl rfl rfl rfl rfl (by first | exact aA | (simp only [List.append_toArray,List.nil_append,Array.append_empty,Array.empty_append];exact aA)) ?_
 refine zg 8 rfl (AA (v:= .chan (some ch)) rfl (fun ρ h=>Yl.load KM (h _ _ rfl) (At.Rj (j:=0) (ai.Ai al) rfl)) ?_);refine zg 2 rfl (IN ?_);refine HZ [(8,.slice none 0 0),(18,.chan (some ch))] rfl ?_;have a1:As az H [[]]:=trivial;refine Tr (F:=F) (Q:=Q) rfl (fun g s h=>h) (qs:=qs) (fun kk v E' h=>h.2) (fun K bm a c g a2 aj aB a3 a4 a5=>?_) 13 [] [] az none 0 [] rfl List.nodup_nil (by simp) (by decide) Ap OL.nil a1;have am:(CS qs).Perm (K.map (partOf qs)):=by
  unfold CS;refine List.Perm.map _ ?_;refine(List.perm_ext_iff_of_nodup (List.nodup_range.filter _) aj).2 fun x=>?_;constructor
  ·intro O;simp at O;exact a3 x O.1 (by simpa [F] using O.2)
  ·intro O;have Y:=aB x O;simp;exact⟨Y.1,by simpa [F] using Y.2⟩
 have a6:(CS qs).Pairwise (fun p q=>p.1<q.1):=by
  unfold CS;rw [List.pairwise_map];refine List.Pairwise.filter _ (List.Pairwise.imp ?_ List.pairwise_lt_range);intro a b ak;exact Int.ofNat_lt.2 ak
 have hlen:(K.map (partOf qs)).length≤13:=by
  rw [← am.length_eq];unfold CS;rw [List.length_map];exact Nat.le_trans (List.length_filter_le _ _) (by simp)
 have a7:KO (K.map (partOf qs)):=by
  intro x O;obtain⟨j,ae,rfl⟩:=List.mem_map.1 O;have Y:=(aB j ae).1;simp only [partOf];omega
 have a8:(K.map (partOf qs)).length=(CS qs).length:=am.length_eq.symm;refine zg 3 rfl ?_;refine Nf (vs:= [.slice a (K.map (partOf qs)).length c,.func (.func 134) #[] #[]]) 0 (WE hlen a7 am a6 a4) rfl rfl rfl (A5 func133 rfl) rfl a5 rfl ?_;rintro _ bn g' a9 ⟨rfl,ba⟩ bb;refine zg 6 rfl ?_;refine Cf 0 ba bb rfl fun bo bc bd be=>?_;refine JL.ret (v:= .slice a (K.map (partOf qs)).length c) rfl rfl (BY.list func102 rfl (vs:= [.slice a (K.map (partOf qs)).length c]) ⟨rfl,trivial⟩) ?_;exact aI _ _ _ [] ((((W.Ab al).Ab a2).Ab a9).Ab bc) (by simp) ⟨a,c,by rw [a8],rfl,bd⟩ be
end Pal
namespace Pal
open Go Go.Conc Go.Proofs
open Go.Proofs.Tryz
open Go.Conc.Lib Go.ConcR.Gen
def Jb(fuel:Nat)(K:BK)(O:AT):Option (List (Bl)):=
 if(List.range 13).all (fun j=>(Gj fuel K O ((j:Nat):Int)).isSome)=true then some (CS fun j=>(Gj fuel K O ((j:Nat):Int)).getD (0,[])) else none
theorem Pk
  {E:LH} {k1 V:Nat} {W Y Z:Ao} {aa ab ae:Nat} {ah:Lv_} {K:BK} {O:AT} (al:At E k1 V (([sV W K.1 aa,sV Y K.2.1 ab]:Lv_)++ah)) (am:An (rL rI) E W aa K.1) (an:An (rL rI) E Y ab K.2.1) (ao:(rA 13 (rN .u16)).r E ah K.2.2) (ap:An By E Z ae O) {fuel:Nat} {r:List (Bl)} (U:Jb fuel K O=some r):
  AR (Dt Tryz.prog) 102 [pV k1 V,.slice Z O.length ae] E [] (fun w E' B'=>∃(ai:Ao) (aj:Nat),w= .slice ai r.length aj∧B'= []∧An Cg E' ai aj r):=by
 unfold Jb at U;split at U
 ·rename_i ak;cases U;refine(Up al am an ao ap (fuel:=fuel) (qs:=fun j=>(Gj fuel K O ((j:Nat):Int)).getD (0,[])) fun j aq=>?_).Ai ?_
  ·rw [List.all_eq_true] at ak;obtain⟨q,ar⟩:=Option.isSome_iff_exists.1 (ak j (List.mem_range.2 aq));rw [ar];rfl
  ·rintro w E' B' _ ⟨a,c,au,av,aw⟩;exact⟨a,c,au,av,aw⟩
 ·cases U
end Pal
namespace Pal
open Go Go.Conc Go.Proofs
open Go.Proofs.Tryz
def J9(fuel:Nat)(O:Bl)(K:Int×(List BU)×Int):Option (Bj (Int×(List BU)×Int) (Int×(List BU))):= if K.2.2<(O.2.2.length:Int) then((ix O.2.2 K.2.2).bind fun V=> (H3 fuel K.1 K.2.1 V O.2.1).bind fun U=> (Au (K.2.2+1)).bind fun W=> some (.more (U.1,U.2,W))) else(some (.done (K.1,K.2.1)))
def LZ(fuel:Nat)(O:(List Bl))(K:Int×(List BU)×Int):Option (Bj (Int×(List BU)×Int) (Int×(List BU))):= if K.2.2<(O.length:Int) then((ix O K.2.2).bind fun V=> Option.bind (iter (J9 fuel V) fuel (K.1,K.2.1,0)) fun U=> (Au (K.2.2+1)).bind fun W=> some (.more (U.1,U.2,W))) else(some (.done (K.1,K.2.1)))
def f93(fuel:Nat)(p0:BK)(p1:AT):Option ((Int×(List BU))):= (Jb fuel p0 p1).bind fun K=> Option.bind (iter (LZ fuel K) fuel (0,[],0)) fun O=> some O
theorem Mk{E:LH}{k1:Nat}{aH:Nat}{aI:Ao}{aJ:Nat}{aK:Ao}{aL:Nat}{aM:Lv_}{aN:Ao}{aO:Nat}{p0:BK}{p1:AT}(a3:At E k1 aH (([sV aI p0.1 aJ,sV aK p0.2.1 aL]:Lv_)++aM))(a4:An (rL rI) E aI aJ p0.1)(a5:An (rL rI) E aK aL p0.2.1)(a6:(rA 13 (rN .u16)).r E aM p0.2.2)(a7:An By E aN aO p1){fuel:Nat}{r:(Int×(List BU))}(aP:f93 fuel p0 p1=some r):AR (Dt Tryz.prog) 93 [pV k1 aH,sV aN p1 aO] E [] (fun w E' B'=>∃(aQ:Ao) (aR:Nat),w= .agg #[iV r.1,sV aQ r.2 aR]∧B'= []∧An C8 E' aQ aR r.2):=by
 refine Bg func93 fun Q cp cs H a8 a9=>?_;unfold f93 at aP;refine zg 2 rfl (Cz a8 FD fun O ba=>?_);refine zg 3 rfl (Cz ba FD fun U bb=>?_);obtain⟨Z,bc,bd⟩:=bs aP;refine zg 6 rfl (BM (Pk a3 a4 a5 a6 a7 bc) rfl rfl (A5 func102 rfl) bb ?_);rintro _ aw _ be ⟨ay,az,rfl,rfl,bf⟩ bg;refine BA underlying130 rfl rfl rfl ?_;obtain⟨K,bh,bi⟩:=bs bd;refine zg 2 rfl (Bu (fun L s=>∃(aA:LH) (V:Ao) (W:Nat) (aB:Seg),Jn aw H aA [bX O #[iV 0,nS] 97,bX U #[iV K.1,sV V K.2 W] 97,aB] [(4,pV O 0),(5,pV U 0)] L s (OL 104 C8 aA V W aB K.2)) ?_ ?_)
 ·rintro _ _ ⟨aA,V,W,aB,rfl,rfl,bj,aS,bl⟩;refine zg 2 rfl (AA rfl (fun ρ h=>FH (vs:= [iV K.1,sV V K.2 W]) HE C3 (h _ _ rfl) (FV (off:=0) 1 aS rfl rfl)) ?_);refine BJ 0 aS C3 fun bm=>?_;refine JL.done (Cf 2 bl bm rfl fun cq bn bo bp=>?_);refine JS.drop 1 bp rfl fun aT=>?_;obtain rfl:=oi bi;refine JL.ret (v:= .agg #[iV K.1,sV V K.2 W]) rfl rfl (BY.list func93 rfl (vs:= [.agg #[iV K.1,sV V K.2 W]]) ⟨⟨_,rfl,Ld.many (vs:= [iV K.1,sV V K.2 W]) HE C3 (FV (off:=0) 0 aT rfl rfl)⟩,trivial⟩) (Io 0 aT rfl fun bq=>?_);exact a9 ((be.Ab bj).Ab bn) rfl ⟨V,W,rfl,rfl,bo⟩ bq
 ·intro br;refine JL.block (CM bh (fun L s Y=>∃(aj:LH) (aa:Ao) (ab:Nat) (ae:Seg),Jn aw H aj [bX O #[iV 0,nS] 97,bX U #[iV Y.1,sV aa Y.2.1 ab] 97,ae] [(4,pV O 0),(5,pV U 0),(12,sV ay Z az),(13,iV (Z.length:Int)),(14,iV Y.2.2)] L s (OL 104 C8 aj aa ab ae Y.2.1)) ⟨aw,none,0,[],rfl,rfl,Ap,bg,OL.nil⟩ ?_);rintro _ _ Y ⟨aj,aa,ab,ae,rfl,rfl,aC,aU,aV⟩ bu ⟨cr,aD⟩ bv;have aW:=aD;unfold LZ at aW;refine zg 5 rfl (AX aW (fun bw bx=>?_) (fun bw bz=>?_))
  ·obtain⟨aX,bA,bB⟩:=bs bx;refine zg 5 rfl (Cj (bf.Ai aC) bA underlying130 AM ?_);rintro ct cu _ ⟨_,_,rfl,rfl,⟨_,_,rfl,rfl,⟨bC,bD,rfl,bE⟩⟩⟩ bF;refine Cd bF B9 AM rfl rfl (Cz aU HG fun bG bH=>?_);refine BJ 3 bH AM fun bI=>?_;refine C4 3 bI rfl fun aE aF aY bJ=>zg 3 rfl (Bz underlying133 C3 rfl rfl rfl ?_);refine JL.fl 2 aY underlying97 Dg Eu ?_;refine BA underlying95 rfl rfl rfl ?_;obtain⟨ah,bK,bL⟩:=bs bB;refine zg 2 rfl (Bu (fun L s=>∃(ak:LH) (al:Ao) (am:Nat) (an:Seg),Jn aE H ak [bX O #[iV 0,nS] 97,bX U #[iV ah.1,sV al ah.2 am] 97,an] [(4,pV O 0),(5,pV U 0),(12,sV ay Z az),(13,iV (Z.length:Int)),(14,iV Y.2.2)] L s (OL 104 C8 ak al am an ah.2)) ?_ ?_)
   ·rintro _ _ ⟨ak,al,am,an,rfl,rfl,bM,bN,bO⟩;obtain⟨bP,bQ,bR⟩:=bs bL;refine zg 2 rfl (Bh bQ rfl rfl rfl ?_);refine zg 2 rfl ?_;obtain rfl:=oi bR;exact Az (bv _ _ (ah.1,ah.2,bP) ⟨ak,al,am,an,rfl,rfl,((aC.Ab aF).Ab bM),bN,bO⟩ aD) rfl
   ·intro bS;refine JL.block (CM bK (fun L s ai=>∃(ao:LH) (ap:Ao) (aq:Nat) (ar:Seg),Jn aE H ao [bX O #[iV 0,nS] 97,bX U #[iV ai.1,sV ap ai.2.1 aq] 97,ar] [(4,pV O 0),(5,pV U 0),(7,pV bG 0),(12,sV ay Z az),(13,iV (Z.length:Int)),(14,iV Y.2.2),(20,sV bC aX.2.2 bD),(21,iV (aX.2.2.length:Int)),(22,iV ai.2.2)] L s (OL 104 C8 ao ap aq ar ai.2.1)) ⟨aE,aa,ab,ae,rfl,rfl,Ap,bJ,(aV.Ai aF)⟩ ?_);rintro _ _ ai ⟨ao,ap,aq,ar,rfl,rfl,au,aZ,a0⟩ bT ⟨cv,aG⟩ bU;have a1:=aG;unfold J9 at a1;refine zg 5 rfl (AX a1 (fun bV bW=>?_) (fun bV bY=>?_))
    ·obtain⟨bZ,b0,b1⟩:=bs bW;refine zg 5 rfl (Cj (bE.Ai (aF.Ab au)) b0 underlying95 Ca ?_);rintro cw cy _ ⟨_,_,rfl,rfl,⟨_,_,rfl,⟨cz,cA,rfl,b2⟩,rfl⟩⟩ b3;refine Cd b3 FA Ca rfl rfl (Cz aZ Gx fun cB b4=>?_);refine BJ 3 b4 Ca fun b5=>?_;refine C4 3 b5 rfl fun cC av b6 b7=>zg 2 rfl (Cd b6 FA Ca rfl rfl ?_);refine Bz underlying133 C3 rfl rfl rfl (JL.fl 1 (aY.Ai (au.Ab av)) underlying97 AU Bq ?_);obtain⟨a2,b8,b9⟩:=bs b1;refine JR 1 2 rfl rfl b7 fun ca=>BS 1 (WC (age:=0) (a0.Ai av) (tr:=bZ) (b2.Ai av) b8) rfl rfl (A5 func122 rfl) ca rfl ?_;rintro _ cb _ cc ⟨cd,ce,cf,rfl,rfl,cg⟩ ci;refine ET 1 rfl ci fun ck=>?_;obtain⟨cm,cn,co⟩:=bs b9;refine zg 3 rfl (Bh cn rfl rfl rfl ?_);refine zg 2 rfl ?_;obtain rfl:=oi co;exact Az (bU _ _ (a2.1,a2.2,cm) ⟨cb,cd,ce,cf,rfl,rfl,((au.Ab av).Ab cc),ck,cg⟩ aG) rfl
    ·refine JL.exit rfl ?_;obtain rfl:=oi bY;obtain rfl:=bT _ aG;exact Az (bS _ _ ⟨ao,ap,aq,ar,rfl,rfl,au,aZ,a0⟩) rfl
  ·refine JL.exit rfl ?_;obtain rfl:=oi bz;obtain rfl:=bu _ aD;exact Az (br _ _ ⟨aj,aa,ab,ae,rfl,rfl,aC,aU,aV⟩) rfl
def f78(fuel:Nat)(p0:BH)(p1:AT)(p2:Int)(p3:Bool):Option ((Option BK)×(Int×(List BU))×Int):= (f69 fuel p0 p1).bind fun O=> if O≠0 then(some (none,(0,[]),O)) else((Au ((p1.length:Int) - 1)).bind fun V=> (f101 fuel p2 (-1) V).bind fun W=> if W=true then(some (none,(0,[]),3)) else((f92 fuel p0).bind fun Y=> (Y).bind fun U=> (f93 fuel U p1).bind fun K=> Option.bind (if(K.2.length:Int)=0 then(some (!p3)) else(some false)) fun Z=> if Z=true then(some (none,K,11)) else(some (some U,K,0))))
theorem Km{E:LH}{an:Ao}{c2:Nat}{ao:Ao}{ap:Nat}{aq:Ao}{ar:Nat}{p0:BH}{p1:AT}{p2:Int}{p3:Bool}(au:An (rL rI) E an c2 p0.1)(av:An (rL rI) E ao ap p0.2)(aw:An By E aq ar p1){fuel:Nat}{r:(Option BK)×(Int×(List BU))×Int}(ay:f78 fuel p0 p1 p2 p3=some r):AR (Dt Tryz.prog) 78 [.agg #[sV an p0.1 c2,sV ao p0.2 ap],sV aq p1 ar,iV p2,.bool p3] E [] (fun w E' B'=>∃(az:Value) (aA:Ao) (aB:Nat),w= .tuple #[az,.agg #[iV r.2.1.1,sV aA r.2.1.2 aB],iV r.2.2]∧B'= []∧Jp (rP (rL (rL rI)) (rP (rL (rL rI)) (rA 13 (rN .u16)))) E' az r.1∧An C8 E' aA aB r.2.1.2):=by
 refine Bg func78 fun Q bI cs H aY ae=>?_;unfold f78 at ay;refine zg 2 rfl (CI aY fun bJ bK O aC aZ=>?_);refine zg 1 rfl (Cz aZ FD fun aD a0=>?_);refine zg 5 rfl (Cd aC Cv Cb rfl rfl ?_);obtain⟨aE,a1,a2⟩:=bs ay;refine zg 1 rfl (BI (Kn (au.Ai O) (av.Ai O) (aw.Ai O) a1) rfl rfl Jw a0 fun bL V aF=>?_);refine zg 7 rfl (AX a2 (fun a3 a4=>?_) (fun a3 a5=>?_))
 ·refine zg 2 rfl (AA (v:= .agg #[iV 0,nS]) rfl (fun ρ h=>CG [(0,1),(1,1)] h FD underlying97 ⟨rfl,Bf type3,rfl,Bf type95,trivial⟩ rfl rfl) ?_);refine zg 2 rfl (BJ 2 aF C3 fun aG=>?_);refine zg 2 rfl ?_;obtain rfl:=oi a4;refine JL.ret (v:= .tuple #[.pointer none,.agg #[iV 0,nS],iV aE]) rfl rfl (BY.list func78 rfl (vs:= [.pointer none,.agg #[iV 0,nS],iV aE]) ⟨rfl,⟨_,rfl,Ld.many (vs:= [iV 0,nS]) HE C3 (FV (off:=0) 2 aG rfl rfl)⟩,rfl,trivial⟩) (Io 2 aG rfl fun a6=>?_);exact ae (O.Ab V) rfl ⟨.pointer none,none,0,rfl,rfl,rfl,An.nil⟩ a6
 ·refine zg 6 rfl (BA underlying25 rfl rfl rfl ?_);obtain⟨bM,a7,a8⟩:=bs a5;refine BX a7 rfl rfl rfl ?_;obtain⟨bN,a9,ba⟩:=bs a8;refine BI (Iz a9) rfl rfl Ie aF fun bO aa aH=>JL.done (BP ba (fun bb bc=>?_) (fun bb bd=>?_))
  ·refine zg 2 rfl (AA (v:= .agg #[iV 0,nS]) rfl (fun ρ h=>CG [(0,1),(1,1)] h FD underlying97 ⟨rfl,Bf type3,rfl,Bf type95,trivial⟩ rfl rfl) ?_);refine zg 1 rfl (BJ 2 aH C3 fun aI=>?_);refine zg 2 rfl ?_;obtain rfl:=oi bc;refine JL.ret (v:= .tuple #[.pointer none,.agg #[iV 0,nS],iV 3]) rfl rfl (BY.list func78 rfl (vs:= [.pointer none,.agg #[iV 0,nS],iV 3]) ⟨rfl,⟨_,rfl,Ld.many (vs:= [iV 0,nS]) HE C3 (FV (off:=0) 2 aI rfl rfl)⟩,rfl,trivial⟩) (Io 2 aI rfl fun be=>?_);exact ae ((O.Ab V).Ab aa) rfl ⟨.pointer none,none,0,rfl,rfl,rfl,An.nil⟩ be
  ·refine zg 3 rfl (Cd (aC.Ai (V.Ab aa)) Cv Cb rfl rfl ?_);obtain⟨bP,bf,bg⟩:=bs bd;refine BM (Mr (au.Ai ((O.Ab V).Ab aa)) (av.Ai ((O.Ab V).Ab aa)) bf) rfl rfl K1 aH ?_;rintro bQ bR _ aj ⟨_,rfl,rfl,bh⟩ bi;obtain⟨ak,bj,bl⟩:=bs bg;have aJ:=bh;refine zg 6 rfl ?_;rw [bj] at aJ;obtain⟨ah,ai,_,rfl,aK,⟨_,_,rfl,⟨bm,bn,rfl,aL⟩,⟨_,aM,rfl,⟨aN,aO,rfl,aP⟩,aQ⟩⟩⟩:=aJ;obtain⟨K,bo,bp⟩:=bs bl;refine BM (Mk aK aL aP aQ (aw.Ai (((O.Ab V).Ab aa).Ab aj)) bo) rfl rfl K0 bi ?_;rintro _ bS _ ab ⟨W,Y,rfl,rfl,aR⟩ bq;refine Cz bq FD fun br bu=>?_;refine BJ 7 bu C3 fun bv=>?_;refine C4 7 bv rfl fun al Z am aS=>zg 4 rfl (JL.fl 1 am underlying97 Dg Eu ?_);refine BA underlying95 rfl rfl rfl ?_;obtain⟨bw,bx,bz⟩:=bs bp;refine zg 2 rfl (FG [] (fun L s=>∃(aT:LH),Jm al H aT [bX aD #[iV 0,nS] 97] [(9,pV aD 0),(12,pV ah ai),(13,pV br 0),(39,.bool bw)] L s) ?_ ?_)
   ·rintro _ _ ⟨aT,rfl,rfl,U,aU⟩;refine JL.done (BP bz (fun bA bB=>?_) (fun bA bC=>?_))
    ·refine JL.seq (EV 2 fun ht=>?_);refine J8 0 ht (am.Ai U) HE C3 rfl rfl rfl (Cm 1 ht rfl rfl ?_);refine Cy [2,3] (BJ 0 aU C3 fun aV=>?_);refine zg 2 rfl ?_;obtain rfl:=oi bB;refine JL.ret (v:= .tuple #[.pointer none,.agg #[iV K.1,sV W K.2 Y],iV 11]) rfl rfl (BY.list func78 rfl (vs:= [.pointer none,.agg #[iV K.1,sV W K.2 Y],iV 11]) ⟨rfl,⟨_,rfl,Ld.many (vs:= [iV K.1,sV W K.2 Y]) HE C3 (FV (off:=0) 0 aV rfl rfl)⟩,rfl,trivial⟩) (Io 0 aV rfl fun bD=>?_);exact ae ((((((O.Ab V).Ab aa).Ab aj).Ab ab).Ab Z).Ab U) rfl ⟨.pointer none,W,Y,rfl,rfl,rfl,(aR.Ai (Z.Ab U))⟩ bD
    ·refine zg 2 rfl (EV 3 fun ht=>?_);refine Cm 0 ht rfl rfl (J8 1 ht (am.Ai U) HE C3 rfl rfl rfl ?_);refine Cm 2 ht rfl rfl (Cy [3,4] ?_);refine BJ 0 aU C3 fun aW=>?_;refine zg 2 rfl ?_;obtain rfl:=oi bC;refine JL.ret (v:= .tuple #[pV ah ai,.agg #[iV K.1,sV W K.2 Y],iV 0]) rfl rfl (BY.list func78 rfl (vs:= [pV ah ai,.agg #[iV K.1,sV W K.2 Y],iV 0]) ⟨rfl,⟨_,rfl,Ld.many (vs:= [iV K.1,sV W K.2 Y]) HE C3 (FV (off:=0) 0 aW rfl rfl)⟩,rfl,trivial⟩) (Io 0 aW rfl fun bE=>?_);exact ae ((((((O.Ab V).Ab aa).Ab aj).Ab ab).Ab Z).Ab U) rfl ⟨pV ah ai,W,Y,rfl,rfl,⟨_,_,_,rfl,(aK.Ai ((ab.Ab Z).Ab U)),⟨[sV bm ak.1 bn],(([sV aN ak.2.1 aO]:Lv_)++aM),rfl,⟨_,_,rfl,(aL.Ai ((ab.Ab Z).Ab U))⟩,⟨[sV aN ak.2.1 aO],aM,rfl,⟨_,_,rfl,(aP.Ai ((ab.Ab Z).Ab U))⟩,(Rp.Ai _ ((ab.Ab Z).Ab U) aQ)⟩⟩⟩,(aR.Ai (Z.Ab U))⟩ bE
   ·intro aX;refine Ex 36 bx (fun bF bG=>?_) (fun bF bH=>?_)
    ·refine zg 1 rfl (AA (v:= .bool (!p3)) rfl (fun ρ h=>Yl.not (h _ _ rfl)) ?_);refine zg 1 rfl ?_;obtain rfl:=oi bG;exact Az (aX _ _ ⟨al,rfl,rfl,Ap,aS⟩) rfl
    ·refine zg 3 rfl ?_;obtain rfl:=oi bH;exact Az (aX _ _ ⟨al,rfl,rfl,Ap,aS⟩) rfl
def f47(fuel:Nat)(p0:BH)(p1:AT):Option (Int×Int):= (f78 fuel p0 p1 (-1) false).bind fun K=> some (K.2.1.1,K.2.2)
theorem Rl{E:LH}{O:Ao}{c2:Nat}{U:Ao}{V:Nat}{W:Ao}{Y:Nat}{p0:BH}{p1:AT}(aa:An (rL rI) E O c2 p0.1)(ab:An (rL rI) E U V p0.2)(ae:An By E W Y p1){fuel:Nat}{r:Int×Int}(Z:f47 fuel p0 p1=some r):AR (Dt Tryz.prog) 47 [.agg #[sV O p0.1 c2,sV U p0.2 V],sV W p1 Y] E [] (fun w E' B'=>w= .tuple #[iV r.1,iV r.2]∧B'= []):=by
 refine Bg func47 fun Q aw cs H ah ai=>?_;unfold f47 at Z;refine zg 2 rfl (CI ah fun ay az K aj ak=>?_);refine zg 5 rfl (Cd aj Cv Cb rfl rfl ?_);obtain⟨aA,al,am⟩:=bs Z;refine zg 1 rfl (BM (Km (aa.Ai K) (ab.Ai K) (ae.Ai K) al) rfl rfl Jx ak ?_);rintro _ aB _ an ⟨aC,aD,aE,rfl,rfl,aF,aG⟩ ao;refine zg 4 rfl (Cz ao FD fun aH ap=>?_);refine zg 1 rfl (BJ 3 ap C3 fun aq=>?_);refine C4 3 aq rfl fun aI ar au av=>zg 4 rfl (JL.fl 0 au underlying97 AU Bq ?_);refine zg 4 rfl ?_;obtain rfl:=oi am;exact AP func47 rfl rfl (ai ((K.Ab an).Ab ar) rfl ⟨rfl,rfl⟩ av)
def f28(fuel:Nat)(p0:BH)(p1:AT):Option (Int×Int):= (f78 fuel p0 p1 (-1) true).bind fun K=> some ((K.2.1.2.length:Int),K.2.2)
theorem N7{E:LH}{O:Ao}{c2:Nat}{U:Ao}{V:Nat}{W:Ao}{Y:Nat}{p0:BH}{p1:AT}(aa:An (rL rI) E O c2 p0.1)(ab:An (rL rI) E U V p0.2)(ae:An By E W Y p1){fuel:Nat}{r:Int×Int}(Z:f28 fuel p0 p1=some r):AR (Dt Tryz.prog) 28 [.agg #[sV O p0.1 c2,sV U p0.2 V],sV W p1 Y] E [] (fun w E' B'=>w= .tuple #[iV r.1,iV r.2]∧B'= []):=by
 refine Bg func28 fun Q aw cs H ah ai=>?_;unfold f28 at Z;refine zg 2 rfl (CI ah fun ay az K aj ak=>?_);refine zg 5 rfl (Cd aj Cv Cb rfl rfl ?_);obtain⟨aA,al,am⟩:=bs Z;refine zg 1 rfl (BM (Km (aa.Ai K) (ab.Ai K) (ae.Ai K) al) rfl rfl Jx ak ?_);rintro _ aB _ an ⟨aC,aD,aE,rfl,rfl,aF,aG⟩ ao;refine zg 4 rfl (Cz ao FD fun aH ap=>?_);refine zg 1 rfl (BJ 3 ap C3 fun aq=>?_);refine C4 3 aq rfl fun aI ar au av=>zg 4 rfl (JL.fl 1 au underlying97 Dg Eu ?_);refine BA underlying95 rfl rfl rfl (zg 4 rfl ?_);obtain rfl:=oi am;exact AP func28 rfl rfl (ai ((K.Ab an).Ab ar) rfl ⟨rfl,rfl⟩ av)
def f30(fuel:Nat)(p0:BH)(p1:AT):Option (Int×(List Int)×Int):= (f78 fuel p0 p1 (-1) false).bind fun K=> if K.2.2≠0 then(some (0,[],K.2.2)) else((ix K.2.1.2 (0)).bind fun O=> (ix K.2.1.2 (0)).bind fun U=> some (O.1,U.2.1,0))
theorem W7{E:LH}{U:Ao}{c2:Nat}{V:Ao}{W:Nat}{Y:Ao}{Z:Nat}{p0:BH}{p1:AT}(am:An (rL rI) E U c2 p0.1)(an:An (rL rI) E V W p0.2)(ao:An By E Y Z p1){fuel:Nat}{r:Int×(List Int)×Int}(aa:f30 fuel p0 p1=some r):AR (Dt Tryz.prog) 30 [.agg #[sV U p0.1 c2,sV V p0.2 W],sV Y p1 Z] E [] (fun w E' B'=>∃(ab:Ao) (ae:Nat),w= .tuple #[iV r.1,sV ab r.2.1 ae,iV r.2.2]∧B'= []∧An rI E' ab ae r.2.1):=by
 refine Bg func30 fun Q aM cs H ap ah=>?_;unfold f30 at aa;refine zg 2 rfl (CI ap fun aN aO K aq ar=>?_);refine zg 6 rfl (Cd aq Cv Cb rfl rfl ?_);obtain⟨aP,au,av⟩:=bs aa;refine zg 1 rfl (BM (Km (am.Ai K) (an.Ai K) (ao.Ai K) au) rfl rfl Jx ar ?_);rintro _ aQ _ ai ⟨aR,aS,aT,rfl,rfl,aU,aj⟩ aw;refine zg 4 rfl (Cz aw FD fun aV ay=>?_);refine zg 1 rfl (BJ 3 ay C3 fun az=>?_);refine C4 3 az rfl fun aW O ak al=>zg 8 rfl (AX av (fun aA aB=>?_) (fun aA aC=>?_))
 ·refine zg 7 rfl ?_;obtain rfl:=oi aB;exact AP func30 rfl rfl (ah ((K.Ab ai).Ab O) rfl ⟨none,0,rfl,rfl,An.nil⟩ al)
 ·refine zg 2 rfl (EV 11 fun ht=>?_);refine Ce 0 ht underlying97 Dg rfl rfl rfl rfl (EK 1 ht 1 ak Eu rfl rfl rfl rfl ?_);obtain⟨aX,aD,aE⟩:=bs aC;refine Ei 2 (aj.Ai O) aD ht underlying95 Ca ?_;rintro aY aZ _ ⟨_,_,rfl,rfl,⟨_,_,rfl,⟨a0,a1,rfl,a2⟩,rfl⟩⟩ aF;refine Ce 3 ht underlying104 AU rfl rfl rfl rfl (EK 4 ht 0 aF Bq rfl rfl rfl rfl ?_);refine Ce 5 ht underlying97 Dg rfl rfl rfl rfl (EK 6 ht 1 ak Eu rfl rfl rfl rfl ?_);obtain⟨a3,aG,aH⟩:=bs aE;refine Ei 7 (aj.Ai O) aG ht underlying95 Ca ?_;rintro a4 a5 _ ⟨_,_,rfl,rfl,⟨_,_,rfl,⟨aI,aJ,rfl,aK⟩,rfl⟩⟩ aL;refine Ce 8 ht underlying104 BL rfl rfl rfl rfl (EK 9 ht 1 aL Df rfl rfl rfl rfl ?_);refine Cm 10 ht rfl rfl (Cy [11,12] ?_);refine zg 3 rfl ?_;obtain rfl:=oi aH;exact AP func30 rfl rfl (ah ((K.Ab ai).Ab O) rfl ⟨aI,aJ,rfl,rfl,aK⟩ al)
def Mc(fuel:Nat)(p2:Int)(O:(List Bl))(K:(List Int)×Int):Option (Bj ((List Int)×Int) ((List Int))):= if K.2<(O.length:Int) then((ix O K.2).bind fun U=> Option.bind (if U.2.1≤p2 then((room K.1 U.1).bind fun V=> some V) else(some K.1)) fun W=> (Au (K.2+1)).bind fun Y=> some (.more (W,Y))) else(some (.done K.1))
def f43(fuel:Nat)(p0:BH)(p1:AT)(p2:Int):Option ((List Int)×Int):= (f69 fuel p0 p1).bind fun K=> if K≠0 then(some ([],K)) else((f101 fuel p2 0 4).bind fun U=> if U=true then(some ([],1)) else((f92 fuel p0).bind fun V=> (V).bind fun W=> (Jb fuel W p1).bind fun Y=> Option.bind (iter (Mc fuel p2 Y) fuel ([],0)) fun O=> if(O.length:Int)=0 then(some ([],11)) else(some (O,0))))
theorem NU{E:LH}{aA:Ao}{c2:Nat}{aB:Ao}{aC:Nat}{aD:Ao}{aE:Nat}{p0:BH}{p1:AT}{p2:Int}(aF:An (rL rI) E aA c2 p0.1)(aG:An (rL rI) E aB aC p0.2)(aH:An By E aD aE p1){fuel:Nat}{r:(List Int)×Int}(aI:f43 fuel p0 p1 p2=some r):AR (Dt Tryz.prog) 43 [.agg #[sV aA p0.1 c2,sV aB p0.2 aC],sV aD p1 aE,iV p2] E [] (fun w E' B'=>∃(aJ:Ao) (aK:Nat),w= .tuple #[sV aJ r.1 aK,iV r.2]∧B'= []∧An rI E' aJ aK r.1):=by
 refine Bg func43 fun Q b9 cs H a0 aa=>?_;unfold f43 at aI;refine zg 2 rfl (CI a0 fun ca cb K aL a1=>?_);refine zg 6 rfl (Cd aL Cv Cb rfl rfl ?_);obtain⟨cc,a2,a3⟩:=bs aI;refine zg 1 rfl (BI (Kn (aF.Ai K) (aG.Ai K) (aH.Ai K) a2) rfl rfl Jw a1 fun cd O aM=>?_);refine zg 7 rfl (AX a3 (fun a4 a5=>?_) (fun a4 a6=>?_))
 ·refine zg 6 rfl ?_;obtain rfl:=oi a5;exact AP func43 rfl rfl (aa (K.Ab O) rfl ⟨none,0,rfl,rfl,An.nil⟩ aM)
 ·obtain⟨ce,a7,a8⟩:=bs a6;refine zg 5 rfl (BI (Iz a7) rfl rfl Ie aM fun cf U aN=>?_);refine JL.done (BP a8 (fun a9 ba=>?_) (fun a9 bb=>?_))
  ·refine zg 5 rfl ?_;obtain rfl:=oi ba;exact AP func43 rfl rfl (aa ((K.Ab O).Ab U) rfl ⟨none,0,rfl,rfl,An.nil⟩ aN)
  ·refine zg 8 rfl (Cd (aL.Ai (O.Ab U)) Cv Cb rfl rfl ?_);obtain⟨cg,bc,bd⟩:=bs bb;refine BM (Mr (aF.Ai ((K.Ab O).Ab U)) (aG.Ai ((K.Ab O).Ab U)) bc) rfl rfl K1 aN ?_;rintro ci ck _ an ⟨_,rfl,rfl,be⟩ bf;obtain⟨cm,bg,bh⟩:=bs bd;have aO:=be;refine zg 1 rfl ?_;rw [bg] at aO;obtain⟨cn,co,_,rfl,bi,⟨_,_,rfl,⟨cp,cq,rfl,bj⟩,⟨_,cr,rfl,⟨ct,cu,rfl,bl⟩,bm⟩⟩⟩:=aO;obtain⟨ab,bn,bo⟩:=bs bh;refine BM (Pk bi bj bl bm (aH.Ai (((K.Ab O).Ab U).Ab an)) bn) rfl rfl (A5 func102 rfl) bf ?_;rintro _ ao _ aP ⟨aQ,aR,rfl,rfl,bp⟩ bq;refine BA underlying130 rfl rfl rfl ?_;obtain⟨aS,br,bu⟩:=bs bo;refine zg 2 rfl (Bu (fun L s=>∃(ap:LH) (ae:Ao) (ah:Nat) (aq:Seg),Jn ao H ap [aq] [(9,sV ae aS ah)] L s (OL 3 rI ap ae ah aq aS)) ?_ ?_)
   ·rintro _ _ ⟨ap,ae,ah,aq,rfl,rfl,aT,aU,bv⟩;refine zg 4 rfl (BA underlying28 rfl rfl rfl ?_);refine zg 2 rfl (AX bu (fun bw bx=>?_) (fun bw bz=>?_))
    ·refine zg 5 rfl (JS.drop 0 aU rfl fun bA=>?_);obtain rfl:=oi bx;exact AP func43 rfl rfl (aa (((((K.Ab O).Ab U).Ab an).Ab aP).Ab aT) rfl ⟨none,0,rfl,rfl,An.nil⟩ bA)
    ·refine zg 7 rfl (Cf 0 bv aU rfl fun cv bB bC bD=>?_);obtain rfl:=oi bz;exact AP func43 rfl rfl (aa ((((((K.Ab O).Ab U).Ab an).Ab aP).Ab aT).Ab bB) rfl ⟨ae,ah,rfl,rfl,bC⟩ bD)
   ·intro bE;refine JL.block (CM br (fun L s Y=>∃(ai:LH) (V:Ao) (W:Nat) (Z:Seg),Jn ao H ai [Z] [(2,iV p2),(9,sV V Y.1 W),(23,sV aQ ab aR),(24,iV (ab.length:Int)),(25,iV Y.2)] L s (OL 3 rI ai V W Z Y.1)) ⟨ao,none,0,[],rfl,rfl,Ap,bq,OL.nil⟩ ?_);rintro _ _ Y ⟨ai,V,W,Z,rfl,rfl,ar,aV,au⟩ bF ⟨cw,av⟩ bG;have aW:=av;unfold Mc at aW;refine zg 5 rfl (AX aW (fun bH bI=>?_) (fun bH bJ=>?_))
    ·obtain⟨bK,bL,bM⟩:=bs bI;refine zg 5 rfl (Cj (bp.Ai ar) bL underlying130 AM ?_);rintro cy cz _ ⟨_,_,rfl,rfl,⟨_,_,rfl,rfl,⟨cA,cB,rfl,cC⟩⟩⟩ bN;refine Cd bN B9 AM rfl rfl (Cz aV HG fun cD bO=>?_);refine BJ 1 bO AM fun bP=>?_;refine C4 1 bP rfl fun aw ay aX aY=>zg 3 rfl (Bz underlying133 C3 rfl rfl rfl ?_);refine JL.fl 1 aX underlying97 AU Bq ?_;obtain⟨az,bQ,bR⟩:=bs bM;refine zg 3 rfl (Bu (fun L s=>∃(aj:LH) (ak:Ao) (al:Nat) (am:Seg),Jn aw H aj [am] [(2,iV p2),(9,sV ak az al),(23,sV aQ ab aR),(24,iV (ab.length:Int)),(25,iV Y.2)] L s (OL 3 rI aj ak al am az)) ?_ ?_)
     ·rintro _ _ ⟨aj,ak,al,am,rfl,rfl,bS,bT,bU⟩;obtain⟨bV,bW,bY⟩:=bs bR;refine zg 2 rfl (Bh bW rfl rfl rfl ?_);refine zg 2 rfl ?_;obtain rfl:=oi bY;exact Az (bG _ _ (az,bV) ⟨aj,ak,al,am,rfl,rfl,((ar.Ab ay).Ab bS),bT,bU⟩ av) rfl
     ·intro aZ;refine AX bQ (fun bZ b0=>?_) (fun bZ b1=>?_)
      ·refine zg 2 rfl (JL.fl 0 aX underlying133 AU Bq ?_);obtain⟨cE,b2,b3⟩:=bs b0;refine JS.app (pp:=rI) (v:=iV bK.1) (a:=V) (c:=W) 0 b2 rfl rfl rfl rfl (fun _=>rfl) rfl (fun _=>rfl) rfl rfl rfl underlying28 underlying28 underlying28 AU (Cs type3) Cp rfl (by decide) (by decide) (by decide) (by decide) (au.Ai ay) rfl aY rfl fun cF b4 b5 b6 b7 b8=>zg 2 rfl ?_;obtain rfl:=oi b3;exact Az (aZ _ _ ⟨aw,b4,b5,b6,rfl,rfl,Ap,b8,b7⟩) rfl
      ·refine JL.skip ?_;obtain rfl:=oi b1;exact Az (aZ _ _ ⟨aw,V,W,Z,rfl,rfl,Ap,aY,(au.Ai ay)⟩) rfl
    ·refine JL.exit rfl ?_;obtain rfl:=oi bJ;obtain rfl:=bF _ av;exact Az (bE _ _ ⟨ai,V,W,Z,rfl,rfl,ar,aV,au⟩) rfl
end Pal
namespace Pal
open Go Go.Conc Go.Proofs
open Go.Proofs.Tryz
variable {J:Judge Tryz.prog}{E:LH}
def Mj(fuel:Nat)(p0:AT):Option ((AT)):= (DC ([]:AT) p0).bind fun K=> some K
theorem UK{ad:Addr}{c2:Nat}{p0:AT}(V:An By E (some ad) c2 p0){fuel:Nat}{r:(AT)}(K:Mj fuel p0=some r):AR J 123 [.slice (some ad) p0.length c2] E [] (fun w E' B'=>∃(O:Ao) (U:Nat) (g0:Seg),w= sV O r U∧B'=g0∧OL 27 By E' O U g0 r):=by
 refine Bg func123 fun Q am cs H W Y=>?_;unfold Mj at K;refine zg 8 rfl (AA (v:= .bool false) rfl (fun ρ h=>Lo (a:=(some ad)) underlying25 (h _ _ rfl) (h _ _ rfl)) ?_);refine zg 5 rfl (Nt (pp:=By) rfl rfl rfl underlying25 CF W fun an g2 Z aa=>?_);obtain⟨ao,ab,ae⟩:=bs K;refine zg 1 rfl (Ns (pp:=By) 1 ab rfl rfl rfl rfl rfl rfl rfl underlying25 underlying25 CF (Cs type27) FC rfl (by decide) (by decide) Z V aa rfl fun ah ai aj ak al=>?_);refine zg 2 rfl ?_;obtain rfl:=oi ae;exact AP func123 rfl rfl (Y Ap rfl ⟨ah,ai,aj,rfl,(by first | rfl | simp | (simp [Value.cells])),ak⟩ al)
def Rt(fuel:Nat)(p0:AT):Option ((AT)):= some ([])
theorem Vl{c2:Nat}{p0:AT}(Y:An By E none c2 p0){fuel:Nat}{r:(AT)}(K:Rt fuel p0=some r):AR J 123 [sV none p0 c2] E [] (fun w E' B'=>∃(O:Ao) (U:Nat) (g0:Seg),w= sV O r U∧B'=g0∧OL 27 By E' O U g0 r):=by
 refine Bg func123 fun Q Z cs H V W=>?_;unfold Rt at K;refine zg 8 rfl (AA (v:= .bool true) rfl (fun ρ h=>Lo (a:=none) underlying25 (h _ _ rfl) (h _ _ rfl)) ?_);refine zg 6 rfl ?_;obtain rfl:=oi K;exact AP func123 rfl rfl (W Ap rfl ⟨none,0,[],rfl,rfl,OL.nil⟩ V)
def f123(fuel:Nat)(p0:AT):Option AT:=Mj fuel p0
theorem Wx{O:Ao}{c2:Nat}{p0:AT}(U:An By E O c2 p0){fuel:Nat}{r:AT}(K:f123 fuel p0=some r):AR J 123 [.slice O p0.length c2] E [] (fun w E' B'=>∃(V:Ao) (W:Nat) (g0:Seg),w= .slice V r.length W∧B'=g0∧OL 27 By E' V W g0 r):=by
 cases O with
 | some ad=>exact UK U K
 | none=>
  have Y:p0= []:=by
   rcases U.2 with h | ⟨_,_,h,_⟩
   ·exact h.1
   ·cases h
  subst Y;have Z:r= []:=by
   have aa:Mj fuel []=some []:=rfl;unfold f123 at K;rw [aa] at K;exact(Option.some.inj K).symm
  subst Z;exact Vl (fuel:=fuel) U rfl
end Pal
namespace Pal
open Go Go.Conc Go.Proofs
open Go.Proofs.Tryz
variable {J:Judge Tryz.prog}{E:LH}
def f125(fuel:Nat)(p0:Int×Int)(p1:Int×Int):Option Int:= (Au (p0.1 - p1.1)).bind fun K=> some K
theorem V9{p0:Int×Int}{p1:Int×Int}{fuel:Nat}{r:Int}(K:f125 fuel p0 p1=some r):AR J 125 [.agg #[iV p0.1,iV p0.2],.agg #[iV p1.1,iV p1.2]] E [] (fun w E' B'=>w=iV r∧B'= []):=by
 refine Bg func125 fun Q ai cs H U V=>?_;unfold f125 at K;refine zg 2 rfl (CI U fun aj ak W Y Z=>?_);refine CI Z fun al am O aa ab=>?_;refine zg 4 rfl (JL.fl 0 (Y.Ai O) underlying27 AU Bq ?_);refine JL.fl 0 aa underlying27 AU Bq ?_;obtain⟨an,ae,ah⟩:=bs K;refine BX ae rfl rfl rfl (zg 2 rfl ?_);obtain rfl:=oi ah;exact AP func125 rfl rfl (V (W.Ab O) rfl ⟨rfl,rfl⟩ ab)
def Qk(fuel:Nat)(p1:Int)(K:Int×(AT)):Option (Bj (Int×(AT)) ((AT))):= Option.bind (if p1<K.1 then((ix K.2 K.1).bind fun V=> (Au (K.1 - 1)).bind fun W=> (ix K.2 W).bind fun Y=> (f125 fuel V Y).bind fun Z=> some (decide (Z<0))) else(some false)) fun aa=> if aa=true then((Au (K.1 - 1)).bind fun O=> (Au (K.1 - 1)).bind fun ab=> (ix K.2 ab).bind fun U=> (ix K.2 K.1).bind fun ae=> (ix (K.2.set (Int.toNat K.1) U) O).bind fun ai=> (Au (K.1 - 1)).bind fun ah=> some (.more (ah,((K.2.set (Int.toNat K.1) U).set (Int.toNat O) ae)))) else(some (.done K.2))
def Qm(fuel:Nat)(p1:Int)(p2:Int)(K:Int×(AT)):Option (Bj (Int×(AT)) ((AT))):= if K.1<p2 then(Option.bind (iter (Qk fuel p1) fuel K) fun O=> (Au (K.1+1)).bind fun U=> some (.more (U,O))) else(some (.done K.2))
def f168(fuel:Nat)(p0:AT)(p1:Int)(p2:Int):Option ((AT)):= (Au (p1+1)).bind fun K=> Option.bind (iter (Qm fuel p1 p2) fuel (K,p0)) fun O=> some O
theorem QA{K:Nat}{U:Nat}{V:Nat}{aq:Ay}{p0:AT}{p1:Int}{p2:Int}(hW:WL 27 By E K U V aq p0){fuel:Nat}{r:(AT)}(az:f168 fuel p0 p1 p2=some r):AR J 168 [.slice (AV K) V U,iV p1,iV p2,(fV 125)] E [(K,.cells aq 27 (0,0))] (fun w E' B'=>∃(aA:Ay),w= .tuple #[]∧B'= [(K,.cells aA 27 (0,0))]∧WL 27 By E' K U V aA r):=by
 refine Bg func168 fun Q bQ cs H aP aQ=>?_;unfold f168 at az;obtain⟨bR,aR,aS⟩:=bs az;refine zg 3 rfl (Bh aR rfl rfl rfl ?_);obtain⟨aT,aU,aV⟩:=bs aS;refine zg 2 rfl (Bu (fun L s=>∃(ar:LH) (f17:Ay),Jn E H ar [bX K f17 27] [] L s (WL 27 By ar K U V f17 aT)) ?_ ?_)
 ·rintro _ _ ⟨ar,f17,rfl,rfl,aW,aX,aY⟩;obtain rfl:=oi aV;exact JL.fin (v:= .tuple #[]) rfl rfl (BY.list func168 rfl (vs:= []) trivial) (aQ aW rfl ⟨f17,rfl,(by first | rfl | simp | (simp [Value.cells])),aY⟩ aX)
 ·intro aZ;refine JL.block (CM aU (fun L s ab=>∃(aa:LH) (f25:Ay),Jn E H aa [bX K f25 27] [(0,.slice (AV K) V U),(1,iV p1),(2,iV p2),(3,(fV 125)),(8,iV ab.1)] L s (WL 27 By aa K U V f25 ab.2)) ⟨E,aq,rfl,rfl,Ap,aP,hW⟩ ?_);rintro _ _ ab ⟨aa,f25,rfl,rfl,aB,aC,aD⟩ a0 ⟨bS,au⟩ a1;have aE:=au;unfold Qm at aE;refine zg 7 rfl (AX aE (fun a2 a3=>?_) (fun a2 a4=>?_))
  ·obtain⟨aF,a5,a6⟩:=bs a3;refine zg 8 rfl (Bu (fun L s=>∃(ak:LH) (f48:Ay),Jn aa H ak [bX K f48 27] [(0,.slice (AV K) V U),(1,iV p1),(2,iV p2),(3,(fV 125)),(8,iV ab.1)] L s (WL 27 By ak K U V f48 aF)) ?_ ?_)
   ·rintro _ _ ⟨ak,f48,rfl,rfl,a7,a8,a9⟩;obtain⟨ba,bb,bc⟩:=bs a6;refine zg 3 rfl (Bh bb rfl rfl rfl ?_);refine zg 2 rfl ?_;obtain rfl:=oi bc;exact Az (a1 _ _ (ba,aF) ⟨ak,f48,rfl,rfl,(aB.Ab a7),a8,a9⟩ au) rfl
   ·intro bd;refine JL.block (CM a5 (fun L s W=>∃(ah:LH) (f58:Ay),Jn aa H ah [bX K f58 27] [(0,.slice (AV K) V U),(1,iV p1),(2,iV p2),(3,(fV 125)),(8,iV ab.1),(9,iV W.1)] L s (WL 27 By ah K U V f58 W.2)) ⟨aa,f25,rfl,rfl,Ap,aC,aD⟩ ?_);rintro _ _ W ⟨ah,f58,rfl,rfl,aG,ai,O⟩ be ⟨bT,av⟩ bf;have aH:=av;unfold Qk at aH;refine zg 2 rfl (CY 17 [K] ⟨⟨0,_,rfl⟩,trivial⟩ ai fun ht=>?_);refine Bn ht rfl [0,1,2,3] rfl ?_;obtain⟨bg,aI,bh⟩:=bs aH;refine FX 0 #[true,true,true,true,true,true,true,true,true,true,true,true,true,true,true,true,true] (fun L s=>∃(al:LH),Jm ah H al [bX K f58 27] [(0,.slice (AV K) V U),(1,iV p1),(2,iV p2),(3,(fV 125)),(8,iV ab.1),(9,iV W.1),(34,.bool bg)] L s) ?_ ?_
    ·rintro _ _ ⟨al,rfl,rfl,ae,am⟩;refine AQ.fin (by decide+kernel) (BP bh (fun bi bj=>?_) (fun bi bl=>?_))
     ·refine zg 3 rfl (GF [15,17] [K] mixed rfl ?_);refine Bi 0 rfl rfl (Bi 1 rfl rfl ?_);refine Bi 2 rfl rfl (Bi 3 rfl rfl ?_);obtain⟨aJ,bm,bn⟩:=bs bj;refine Gm 4 true rfl rfl (fun ρ h s' hs=>Du (h _ _ rfl) (h _ _ rfl) bm) (Bi 5 rfl rfl ?_);refine Bi 6 rfl rfl ?_;obtain⟨bU,bo,bp⟩:=bs bn;refine Gm 7 true rfl rfl (fun ρ h s' hs=>Du (h _ _ rfl) (h _ _ rfl) bo) ?_;obtain⟨Y,aK,bq⟩:=bs bp;obtain⟨_,⟨_,_,rfl,rfl,rfl⟩,br⟩:=WL.at (O.Ai ae) aK;refine Ck 8 O.2 aK underlying25 CF ?_;refine DW 9 [iV Y.1,iV Y.2] 0 am br Ic CF ?_;refine Bi 10 rfl rfl (Bi 11 rfl rfl ?_);obtain⟨Z,an,bu⟩:=bs bq;obtain⟨_,⟨_,_,rfl,rfl,rfl⟩,bv⟩:=WL.at (O.Ai ae) an;refine Ck 12 O.2 an underlying25 CF ?_;refine DW 13 [iV Z.1,iV Z.2] 0 am bv Ic CF ?_;refine Ck 14 O.2 an underlying25 CF ?_;have aj:=WL.put (x':=Y) (ws':= [iV Y.1,iV Y.2]) (O.Ai ae) O.2 an ⟨_,_,rfl,rfl,rfl⟩;refine DU 15 0 am CF aj.2 fun bw=>?_;obtain⟨bV,aw,bx⟩:=bs bu;obtain⟨_,⟨_,_,rfl,rfl,rfl⟩,bW⟩:=WL.at aj.1 aw;refine Ck 16 (aj.1).2 aw underlying25 CF ?_;have aL:=WL.put (x':=Z) (ws':= [iV Z.1,iV Z.2]) aj.1 (aj.1).2 aw ⟨_,_,rfl,rfl,rfl⟩;refine DU 17 0 bw CF aL.2 fun bz=>?_;refine JB.fin (by decide+kernel) ?_;obtain⟨bA,bB,bC⟩:=bs bx;refine zg 3 rfl (BX bB rfl rfl rfl ?_);refine zg 2 rfl ?_;obtain rfl:=oi bC;exact Az (bf _ _ (bA,((W.2.set (Int.toNat W.1) Y).set (Int.toNat aJ) Z)) ⟨al,(Ba (Ba f58 (Int.toNat (W.1)*2) [iV Y.1,iV Y.2]) (Int.toNat (aJ)*2) [iV Z.1,iV Z.2]),rfl,rfl,(aG.Ab ae),bz,aL.1⟩ av) rfl
     ·refine JL.exit rfl ?_;obtain rfl:=oi bl;obtain rfl:=be _ av;exact Az (bd _ _ ⟨al,f58,rfl,rfl,(aG.Ab ae),am,(O.Ai ae)⟩) rfl
    ·intro aM;refine F9 (q:=p1<W.1) (i:=21) rfl (fun ay=>?_) (fun ay=>?_)
     ·have bD:=ip aI ay;refine Bn ht rfl [4,5,6] rfl ?_;obtain⟨ao,aN,bE⟩:=bs bD;obtain⟨_,⟨_,_,rfl,rfl,rfl⟩,bF⟩:=WL.at O aN;refine FK 7 ht (O).2 aN underlying25 CF ?_;refine DI 8 ht [iV ao.1,iV ao.2] 0 ai bF Ic CF ?_;refine Bn ht rfl [9,10] rfl ?_;obtain⟨bY,bG,bH⟩:=bs bE;refine Bv 11 ht rfl rfl (fun ρ h s' hs=>Du (h _ _ rfl) (h _ _ rfl) bG) ?_;obtain⟨ap,aO,bI⟩:=bs bH;obtain⟨_,⟨_,_,rfl,rfl,rfl⟩,bJ⟩:=WL.at O aO;refine FK 12 ht (O).2 aO underlying25 CF ?_;refine DI 13 ht [iV ap.1,iV ap.2] 0 ai bJ Ic CF ?_;obtain⟨bZ,bK,bL⟩:=bs bI;refine Hm (i:=14) ⟨⟨0,_,rfl⟩,trivial⟩ (vs:= [.agg #[iV ao.1,iV ao.2],.agg #[iV ap.1,iV ap.2]]) (V9 bK) (by decide+kernel) rfl rfl rfl rfl (A5 func125 rfl) rfl ai ?_;rintro _ bM _ bN ⟨rfl,rfl⟩ bO;refine Bn ht rfl [15,16] rfl ?_;obtain rfl:=oi bL;refine DM ?_ (aM _ _ ⟨bM,rfl,rfl,bN,bO⟩);exact⟨rfl,rfl,rfl,rfl,rfl,rfl,rfl,trivial⟩
     ·have bP:=im aI ay;refine Bn ht rfl [4,5,6,7,8,9,10,11,12,13,14,15,16] rfl ?_;obtain rfl:=oi bP;refine DM ?_ (aM _ _ ⟨ah,rfl,rfl,Ap,ai⟩);exact⟨rfl,rfl,rfl,rfl,rfl,rfl,rfl,trivial⟩
  ·refine JL.exit rfl ?_;obtain rfl:=oi a4;obtain rfl:=a0 _ au;exact Az (aZ _ _ ⟨aa,f25,rfl,rfl,aB,aC,aD⟩) rfl
def P8(fuel:Nat)(p1:Int)(K:Int×Int×(AT)):Option (Bj (Int×Int×(AT)) (Int×(AT))):= if K.2.1≤p1 then((f168 fuel K.2.2 K.1 K.2.1).bind fun O=> (Au (K.2.1+20)).bind fun U=> some (.more (K.2.1,U,O))) else(some (.done (K.1,K.2.2)))
def Qc(fuel:Nat)(p1:Int)(K:Int)(O:Int)(U:Unit):Option (Bj Unit Unit):= if O≤p1 then((Au (0+K)).bind fun V=> none) else(some (.done ()))
def P5(fuel:Nat)(p1:Int)(K:Int):Option (Bj Int Unit):= if K<p1 then((Au (2*K)).bind fun O=> Option.bind (iter (Qc fuel p1 K O) fuel ()) fun W=> (Au (0+K)).bind fun U=> Option.bind (if U<p1 then(none) else(some ())) fun Y=> (Au (K*2)).bind fun V=> some (.more V)) else(some (.done ()))
def f138(fuel:Nat)(p0:AT)(p1:Int):Option ((AT)):= Option.bind (iter (P8 fuel p1) fuel (0,20,p0)) fun K=> (f168 fuel K.2 K.1 p1).bind fun O=> Option.bind (iter (P5 fuel p1) fuel 20) fun U=> some O
theorem We{K:Nat}{O:Nat}{U:Nat}{Z:Ay}{p0:AT}{p1:Int}(hW:WL 27 By E K O U Z p0){fuel:Nat}{r:(AT)}(ah:f138 fuel p0 p1=some r):AR J 138 [.slice (AV K) U O,iV p1,(fV 125)] E [(K,.cells Z 27 (0,0))] (fun w E' B'=>∃(ai:Ay),w= .tuple #[]∧B'= [(K,.cells ai 27 (0,0))]∧WL 27 By E' K O U ai r):=by
 refine Bg func138 fun Q bG cs H ay az=>?_;unfold f138 at ah;obtain⟨aj,aA,aB⟩:=bs ah;refine zg 11 rfl (Bu (fun L s=>∃(aa:LH) (f15:Ay),Jn E H aa [bX K f15 27] [(0,.slice (AV K) U O),(1,iV p1),(2,(fV 125)),(6,iV 20),(7,iV aj.1)] L s (WL 27 By aa K O U f15 aj.2)) ?_ ?_)
 ·rintro _ _ ⟨aa,f15,rfl,rfl,aC,aD,aE⟩;obtain⟨bH,aF,aG⟩:=bs aB;refine zg 6 rfl (BS 0 (QA aE aF) rfl rfl KZ aD rfl ?_);rintro _ bI _ aH ⟨f23,rfl,rfl,aI⟩ aJ;obtain⟨bJ,aK,aL⟩:=bs aG;refine JL.done (CB [bX K f23 27] [] (fun bK ak aM=>?_) (fun aN=>?_))
  ·obtain rfl:=oi aL;exact JL.fin (v:= .tuple #[]) rfl rfl (BY.list func138 rfl (vs:= []) trivial) (az ((aC.Ab aH).Ab ak) rfl ⟨f23,rfl,(by first | rfl | simp | (simp [Value.cells])),(aI.Ai ak)⟩ aM)
  ·refine JL.block (CC aK (fun V=> [bX K f23 27]) (fun V=> [(0,.slice (AV K) U O),(1,iV p1),(2,(fV 125)),(6,iV V)]) Ap aJ ?_);rintro V bL al am aO ⟨bM,ab⟩ aP;have an:=ab;unfold P5 at an;refine zg 7 rfl (AX an (fun aQ aR=>?_) (fun aQ aS=>?_))
   ·obtain⟨aT,aU,aV⟩:=bs aR;refine zg 5 rfl (AA rfl (fun ρ h=>Ip (h _ _ rfl) (h _ _ rfl) aU) ?_);obtain⟨bN,aW,aX⟩:=bs aV;refine zg 4 rfl (CB [bX K f23 27] [(0,.slice (AV K) U O),(1,iV p1),(2,(fV 125)),(6,iV V),(7,iV 0)] (fun bO aY aZ=>?_) (fun a0=>?_))
    ·obtain⟨bP,a1,a2⟩:=bs aX;refine zg 5 rfl (Bh a1 rfl rfl rfl ?_);obtain⟨bQ,a3,a4⟩:=bs a2;refine zg 8 rfl (CB [bX K f23 27] [(0,.slice (AV K) U O),(1,iV p1),(2,(fV 125)),(6,iV V)] (fun bR a5 a6=>?_) (fun a7=>?_))
     ·obtain⟨a8,a9,ba⟩:=bs a4;refine zg 2 rfl (AA rfl (fun ρ h=>Ip (h _ _ rfl) (h _ _ rfl) a9) ?_);refine zg 3 rfl ?_;obtain rfl:=oi ba;exact aP a8 ((al.Ab aY).Ab a5) a6 rfl ab
     ·refine AX a3 (fun bb bc=>?_) (fun bb bd=>?_)
      ·refine zg 6 rfl ?_;cases bc
      ·refine JL.skip ?_;obtain rfl:=oi bd;exact a7 Ap aZ rfl
    ·refine JL.block (CC aW (fun ao=> [bX K f23 27]) (fun ao=> [(0,.slice (AV K) U O),(1,iV p1),(2,(fV 125)),(6,iV V),(7,iV 0),(8,iV aT)]) Ap am ?_);rintro ao bS be bf bg ⟨bT,ap⟩ bU;have aq:=ap;unfold Qc at aq;refine zg 7 rfl (AX aq (fun bh bi=>?_) (fun bh bj=>?_))
     ·obtain⟨bV,bl,bm⟩:=bs bi;refine zg 8 rfl (Bh bl rfl rfl rfl ?_);refine zg 2 rfl ?_;cases bm
     ·refine JL.exit rfl ?_;obtain rfl:=oi bj;obtain rfl:=bg _ ap;exact a0 be bf rfl
   ·refine JL.exit rfl ?_;obtain rfl:=oi aS;obtain rfl:=aO _ ab;exact aN al am rfl
 ·intro bn;refine JL.block (CM aA (fun L s W=>∃(Y:LH) (f104:Ay),Jn E H Y [bX K f104 27] [(0,.slice (AV K) U O),(1,iV p1),(2,(fV 125)),(6,iV 20),(7,iV W.1),(8,iV W.2.1)] L s (WL 27 By Y K O U f104 W.2.2)) ⟨E,Z,rfl,rfl,Ap,ay,hW⟩ ?_);rintro _ _ W ⟨Y,f104,rfl,rfl,ar,au,av⟩ bo ⟨bW,ae⟩ bp;have aw:=ae;unfold P8 at aw;refine zg 7 rfl (AX aw (fun bq br=>?_) (fun bq bu=>?_))
  ·obtain⟨bv,bw,bx⟩:=bs br;refine zg 8 rfl (BS 0 (QA av bw) rfl rfl KZ au rfl ?_);rintro _ bz _ bA ⟨f119,rfl,rfl,bB⟩ bC;obtain⟨bD,bE,bF⟩:=bs bx;refine zg 9 rfl (Bh bE rfl rfl rfl ?_);refine zg 3 rfl ?_;obtain rfl:=oi bF;exact Az (bp _ _ (W.2.1,bD,bv) ⟨bz,f119,rfl,rfl,(ar.Ab bA),bC,bB⟩ ae) rfl
  ·refine JL.exit rfl ?_;obtain rfl:=oi bu;obtain rfl:=bo _ ae;exact Az (bn _ _ ⟨Y,f104,rfl,rfl,ar,au,av⟩) rfl
def f124(fuel:Nat)(p0:AT):Option ((AT)):= (f138 fuel p0 (p0.length:Int)).bind fun K=> some K
theorem Wt{K:Nat}{O:Nat}{U:Nat}{V:Ay}{p0:AT}(hW:WL 27 By E K O U V p0){fuel:Nat}{r:(AT)}(W:f124 fuel p0=some r):AR J 124 [.slice (AV K) U O,(fV 125)] E [(K,.cells V 27 (0,0))] (fun w E' B'=>∃(Y:Ay),w= .tuple #[]∧B'= [(K,.cells Y 27 (0,0))]∧WL 27 By E' K O U Y r):=by
 refine Bg func124 fun Q ak cs H Z aa=>?_;unfold f124 at W;refine zg 3 rfl (AA (v:=iV (p0.length:Int)) rfl (fun ρ h=>P7 (hW).2 rfl underlying25 (h _ _ rfl)) ?_);obtain⟨al,ab,ae⟩:=bs W;refine zg 1 rfl (BS 0 (We hW ab) rfl rfl (A5 func138 rfl) Z rfl ?_);rintro _ am _ ah ⟨f7,rfl,rfl,ai⟩ aj;refine JL.done ?_;obtain rfl:=oi ae;exact JL.fin (v:= .tuple #[]) rfl rfl (BY.list func124 rfl (vs:= []) trivial) (aa ah rfl ⟨f7,rfl,(by first | rfl | simp | (simp [Value.cells])),ai⟩ aj)
def PH(fuel:Nat)(p1:Int)(K:Int)(U:Unit):Option (Bj Unit Unit):= Option.bind (if p1<K then(none) else(some false)) fun O=> if O=true then((Au (K - 1)).bind fun V=> (Au (K - 1)).bind fun W=> none) else(some (.done ()))
def PN(fuel:Nat)(p1:Int)(p2:Int)(K:Int):Option (Bj Int Unit):= if K<p2 then(Option.bind (iter (PH fuel p1 K) fuel ()) fun U=> (Au (K+1)).bind fun O=> some (.more O)) else(some (.done ()))
def Ml(fuel:Nat)(p1:Int)(p2:Int):Option Unit:= (Au (p1+1)).bind fun K=> Option.bind (iter (PN fuel p1 p2) fuel K) fun O=> some ()
theorem PR{p1:Int}{p2:Int}{fuel:Nat}{r:Unit}(V:Ml fuel p1 p2=some r):AR J 168 [nS,iV p1,iV p2,(fV 125)] E [] (fun w E' B'=>w= .tuple #[]∧B'= []):=by
 refine Bg func168 fun Q a0 cs H ak al=>?_;unfold Ml at V;obtain⟨a1,am,an⟩:=bs V;refine zg 3 rfl (Bh am rfl rfl rfl ?_);obtain⟨a2,ao,ap⟩:=bs an;refine zg 2 rfl (CB [] [] (fun a3 aq ar=>?_) (fun au=>?_))
 ·obtain rfl:=oi ap;exact JL.fin (v:= .tuple #[]) rfl rfl (BY.list func168 rfl (vs:= []) trivial) (al aq rfl ⟨rfl,rfl⟩ ar)
 ·refine JL.block (CC ao (fun K=> []) (fun K=> [(0,.slice none 0 0),(1,iV p1),(2,iV p2),(3,(fV 125)),(8,iV K)]) Ap ak ?_);rintro K a4 W Y av ⟨a5,O⟩ aw;have Z:=O;unfold PN at Z;refine zg 7 rfl (AX Z (fun ay az=>?_) (fun ay aA=>?_))
  ·obtain⟨a6,aB,aC⟩:=bs az;refine zg 8 rfl (CB [] [(0,.slice none 0 0),(1,iV p1),(2,iV p2),(3,(fV 125)),(8,iV K)] (fun a7 aD aE=>?_) (fun aF=>?_))
   ·obtain⟨aG,aH,aI⟩:=bs aC;refine zg 3 rfl (Bh aH rfl rfl rfl ?_);refine zg 2 rfl ?_;obtain rfl:=oi aI;exact aw aG (W.Ab aD) aE rfl O
   ·refine JL.block (CC aB (fun aa=> []) (fun aa=> [(0,.slice none 0 0),(1,iV p1),(2,iV p2),(3,(fV 125)),(8,iV K),(9,iV K)]) Ap Y ?_);rintro aa ab aJ aK aL ⟨a8,ae⟩ a9;have ah:=ae;unfold PH at ah;refine zg 2 rfl (EV 17 fun ht=>?_);refine Bn ht rfl [0,1,2,3] rfl ?_;obtain⟨aM,ai,aN⟩:=bs ah;refine FX 0 #[true,true,true,true,true,true,true,true,true,true,true,true,true,true,true,true,true] (fun L s=>∃(aj:LH),Jm ab H aj [] [(0,.slice none 0 0),(1,iV p1),(2,iV p2),(3,(fV 125)),(8,iV K),(9,iV K),(34,.bool aM)] L s) ?_ ?_
    ·rintro _ _ ⟨aj,rfl,rfl,aO,aP⟩;refine AQ.fin (by decide+kernel) (BP aN (fun aQ aR=>?_) (fun aQ aS=>?_))
     ·refine zg 3 rfl (EV 16 fun ht=>?_);refine Bn ht rfl [0,1,2,3] rfl ?_;obtain⟨ba,aT,aU⟩:=bs aR;refine Bv 4 ht rfl rfl (fun ρ h s' hs=>Du (h _ _ rfl) (h _ _ rfl) aT) (Bn ht rfl [5,6] rfl ?_);obtain⟨bb,aV,aW⟩:=bs aU;refine Bv 7 ht rfl rfl (fun ρ h s' hs=>Du (h _ _ rfl) (h _ _ rfl) aV) ?_;cases aW
     ·refine JL.exit rfl ?_;obtain rfl:=oi aS;obtain rfl:=aL _ ae;exact aF (aJ.Ab aO) aP rfl
    ·intro aX;refine F9 (q:=p1<K) (i:=21) rfl (fun U=>?_) (fun U=>?_)
     ·have aY:=ip ai U;refine Bn ht rfl [4,5,6] rfl ?_;cases aY
     ·have aZ:=im ai U;refine Bn ht rfl [4,5,6,7,8,9,10,11,12,13,14,15,16] rfl ?_;obtain rfl:=oi aZ;refine DM ?_ (aX _ _ ⟨ab,rfl,rfl,Ap,aK⟩);exact⟨rfl,rfl,rfl,rfl,rfl,rfl,rfl,trivial⟩
  ·refine JL.exit rfl ?_;obtain rfl:=oi aA;obtain rfl:=av _ O;exact au W Y rfl
def Pl(fuel:Nat)(p1:Int)(K:Int×Int):Option (Bj (Int×Int) Int):= if K.2≤p1 then((Ml fuel K.1 K.2).bind fun U=> (Au (K.2+20)).bind fun O=> some (.more (K.2,O))) else(some (.done K.1))
def Pt(fuel:Nat)(p1:Int)(K:Int)(O:Int)(U:Unit):Option (Bj Unit Unit):= if O≤p1 then((Au (0+K)).bind fun V=> none) else(some (.done ()))
def PL(fuel:Nat)(p1:Int)(K:Int):Option (Bj Int Unit):= if K<p1 then((Au (2*K)).bind fun O=> Option.bind (iter (Pt fuel p1 K O) fuel ()) fun W=> (Au (0+K)).bind fun U=> Option.bind (if U<p1 then(none) else(some ())) fun Y=> (Au (K*2)).bind fun V=> some (.more V)) else(some (.done ()))
def NY(fuel:Nat)(p1:Int):Option Unit:= Option.bind (iter (Pl fuel p1) fuel (0,20)) fun K=> (Ml fuel K p1).bind fun O=> Option.bind (iter (PL fuel p1) fuel 20) fun U=> some ()
theorem UB{p1:Int}{fuel:Nat}{r:Unit}(W:NY fuel p1=some r):AR J 138 [nS,iV p1,(fV 125)] E [] (fun w E' B'=>w= .tuple #[]∧B'= []):=by
 refine Bg func138 fun Q bq cs H al am=>?_;unfold NY at W;obtain⟨an,ao,ap⟩:=bs W;refine zg 11 rfl (CB [] [(0,.slice none 0 0),(1,iV p1),(2,(fV 125)),(6,iV 20),(7,iV an)] (fun br aq ar=>?_) (fun au=>?_))
 ·obtain⟨bu,av,aw⟩:=bs ap;refine zg 6 rfl (BI (PR av) rfl rfl KZ ar fun bv ay az=>?_);obtain⟨bw,aA,aB⟩:=bs aw;refine JL.done (CB [] [] (fun bx aC aD=>?_) (fun aE=>?_))
  ·obtain rfl:=oi aB;exact JL.fin (v:= .tuple #[]) rfl rfl (BY.list func138 rfl (vs:= []) trivial) (am ((aq.Ab ay).Ab aC) rfl ⟨rfl,rfl⟩ aD)
  ·refine JL.block (CC aA (fun K=> []) (fun K=> [(0,.slice none 0 0),(1,iV p1),(2,(fV 125)),(6,iV K)]) Ap az ?_);rintro K bz Y Z aF ⟨bA,U⟩ aG;have aa:=U;unfold PL at aa;refine zg 7 rfl (AX aa (fun aH aI=>?_) (fun aH aJ=>?_))
   ·obtain⟨aK,aL,aM⟩:=bs aI;refine zg 5 rfl (AA rfl (fun ρ h=>Ip (h _ _ rfl) (h _ _ rfl) aL) ?_);obtain⟨bB,aN,aO⟩:=bs aM;refine zg 4 rfl (CB [] [(0,.slice none 0 0),(1,iV p1),(2,(fV 125)),(6,iV K),(7,iV 0)] (fun bC aP aQ=>?_) (fun aR=>?_))
    ·obtain⟨bD,aS,aT⟩:=bs aO;refine zg 5 rfl (Bh aS rfl rfl rfl ?_);obtain⟨bE,aU,aV⟩:=bs aT;refine zg 8 rfl (CB [] [(0,.slice none 0 0),(1,iV p1),(2,(fV 125)),(6,iV K)] (fun bF aW aX=>?_) (fun aY=>?_))
     ·obtain⟨aZ,a0,a1⟩:=bs aV;refine zg 2 rfl (AA rfl (fun ρ h=>Ip (h _ _ rfl) (h _ _ rfl) a0) ?_);refine zg 3 rfl ?_;obtain rfl:=oi a1;exact aG aZ ((Y.Ab aP).Ab aW) aX rfl U
     ·refine AX aU (fun a2 a3=>?_) (fun a2 a4=>?_)
      ·refine zg 6 rfl ?_;cases a3
      ·refine JL.skip ?_;obtain rfl:=oi a4;exact aY Ap aQ rfl
    ·refine JL.block (CC aN (fun ab=> []) (fun ab=> [(0,.slice none 0 0),(1,iV p1),(2,(fV 125)),(6,iV K),(7,iV 0),(8,iV aK)]) Ap Z ?_);rintro ab bG a5 a6 a7 ⟨bH,ae⟩ bI;have ah:=ae;unfold Pt at ah;refine zg 7 rfl (AX ah (fun a8 a9=>?_) (fun a8 ba=>?_))
     ·obtain⟨bJ,bb,bc⟩:=bs a9;refine zg 8 rfl (Bh bb rfl rfl rfl ?_);refine zg 2 rfl ?_;cases bc
     ·refine JL.exit rfl ?_;obtain rfl:=oi ba;obtain rfl:=a7 _ ae;exact aR a5 a6 rfl
   ·refine JL.exit rfl ?_;obtain rfl:=oi aJ;obtain rfl:=aF _ U;exact aE Y Z rfl
 ·refine JL.block (CC ao (fun O=> []) (fun O=> [(0,.slice none 0 0),(1,iV p1),(2,(fV 125)),(6,iV 20),(7,iV O.1),(8,iV O.2)]) Ap al ?_);rintro O bK ai aj bd ⟨bL,V⟩ be;have ak:=V;unfold Pl at ak;refine zg 7 rfl (AX ak (fun bf bg=>?_) (fun bf bh=>?_))
  ·obtain⟨bM,bi,bj⟩:=bs bg;refine zg 8 rfl (BI (PR bi) rfl rfl KZ aj fun bN bl bm=>?_);obtain⟨bn,bo,bp⟩:=bs bj;refine zg 9 rfl (Bh bo rfl rfl rfl ?_);refine zg 3 rfl ?_;obtain rfl:=oi bp;exact be (O.2,bn) (ai.Ab bl) bm rfl V
  ·refine JL.exit rfl ?_;obtain rfl:=oi bh;obtain rfl:=bd _ V;exact au ai aj rfl
def Rg(fuel:Nat):Option Unit:= (NY fuel ((0:Nat):Int)).bind fun K=> some ()
theorem U0{fuel:Nat}{r:Unit}(K:Rg fuel=some r):AR J 124 [nS,(fV 125)] E [] (fun w E' B'=>w= .tuple #[]∧B'= []):=by
 refine Bg func124 fun Q aa cs H O U=>?_;unfold Rg at K;refine zg 3 rfl (BA underlying25 rfl rfl rfl ?_);obtain⟨ab,V,W⟩:=bs K;refine zg 1 rfl (BI (UB V) rfl rfl (A5 func138 rfl) O fun ae Y Z=>?_);refine JL.done ?_;obtain rfl:=oi W;exact JL.fin (v:= .tuple #[]) rfl rfl (BY.list func124 rfl (vs:= []) trivial) (U Y rfl ⟨rfl,rfl⟩ Z)
theorem Vn{J:Judge Tryz.prog}{E:LH}{a:Ao}{c:Nat}{g:Seg}{p0:AT}(V:OL 27 By E a c g p0){fuel:Nat}{r:AT}(K:f124 fuel p0=some r):
  AR J 124 [.slice a p0.length c,.func (.func 125) #[] #[]] E g (fun w E' B'=>w= .tuple #[]∧OL 27 By E' a c B' r∧r.length=p0.length):=by
 rcases V.cases with⟨rfl,rfl,rfl,rfl⟩ | ⟨bk,f,rfl,rfl,hW⟩
 ·have W:r= []:=by
   cases fuel with
   | zero=>exact absurd K (by simp [f124,f138,iter])
   | succ fuel=>
    cases fuel with
    | zero=>exact(Option.some.inj (K.symm.trans (by rfl:f124 1 []=some []))).trans rfl
    | succ fuel=>exact(Option.some.inj (K.symm.trans (by rfl:f124 (fuel+2) []=some []))).trans rfl
  subst W;refine(U0 (fuel:=10) (r:=()) rfl).Ai ?_;rintro w E' B' hle ⟨O,rfl⟩;exact⟨O,OL.nil,rfl⟩
 ·refine(Wt hW K).Ai ?_;rintro w E' B' hle ⟨Y,O,rfl,U⟩;exact⟨O,U.1,U.2⟩
end Pal
namespace Pal
open Go Go.Conc Go.Proofs
open Go.Proofs.Tryz
def f94(fuel:Nat)(p0:AT)(p1:AT):Option ((AT)):= (DC p0 p1).bind fun K=> (f123 fuel K).bind fun O=> (f124 fuel O).bind fun U=> some U
theorem Xa{E:LH}{K:Ao}{c2:Nat}{O:Ao}{U:Nat}{p0:AT}{p1:AT}(Y:An By E K c2 p0)(al:An By E O U p1){fuel:Nat}{r:(AT)}(ab:f94 fuel p0 p1=some r):AR (Dt Tryz.prog) 94 [sV K p0 c2,sV O p1 U] E [] (fun w E' B'=>∃(ae:Ao) (ah:Nat),w= sV ae r ah∧B'= []∧An By E' ae ah r):=by
 refine Bg func94 fun Q aJ cs H am an=>?_;unfold f94 at ab;refine zg 8 rfl (BA underlying25 rfl rfl rfl ?_);refine zg 1 rfl (BA underlying25 rfl rfl rfl ?_);refine AA (v:= .slice K p0.length p0.length) rfl (fun ρ h=>Sn (An.spot Y) (And.left Y) underlying25 CF (h _ _ rfl) (h _ _ rfl) (h _ _ rfl)) ?_;obtain⟨ai,ao,ap⟩:=bs ab;refine zg 1 rfl (Ss (pp:=By) ao rfl rfl rfl rfl rfl rfl rfl underlying25 underlying25 CF (Cs type27) FC rfl (by decide) (by decide) Y al am fun aK aj ak aq ar au=>?_);obtain⟨aL,av,aw⟩:=bs ap;refine zg 5 rfl (BM (Wx ar av) rfl rfl (A5 func123 rfl) au ?_);rintro _ aM _ ay ⟨V,W,aN,rfl,rfl,az⟩ aA;obtain⟨Z,aB,aC⟩:=bs aw;refine zg 5 rfl (BS 2 (Vn az aB) rfl rfl (A5 func124 rfl) aA rfl ?_);rintro _ aO aP aD ⟨rfl,aE,aa⟩ aF;refine GD (L':= [(17,.tuple #[]),(0,.slice K p0.length c2),(1,.slice O p1.length U),(4,.slice none 0 0),(6,.slice K p0.length c2),(7,.slice K p0.length c2),(8,iV (p0.length:Int)),(9,.slice K p0.length c2),(10,iV (p0.length:Int)),(11,.slice K p0.length p0.length),(12,.slice O p1.length U),(13,.slice aj ai.length ak),(5,.slice V Z.length W),(14,.slice aj ai.length ak),(15,.slice V Z.length W),(16,.slice V Z.length W)]) ⟨rfl,rfl,rfl,rfl,rfl,rfl,rfl,rfl,rfl,rfl,rfl,rfl,by rw [aa];rfl,rfl,by rw [aa];rfl,by rw [aa];rfl,trivial⟩ ?_;refine zg 6 rfl (Cf 2 aE aF rfl fun aQ aG aH aI=>?_);obtain rfl:=oi aC;exact AP func94 rfl rfl (an (((aq.Ab ay).Ab aD).Ab aG) rfl ⟨V,W,rfl,rfl,aH⟩ aI)
def f37(fuel:Nat)(p0:BH)(p1:AT)(p2:AT):Option (Bool×Int):= (f69 fuel p0 p1).bind fun O=> if O≠0 then(some (false,O)) else((f69 fuel p0 p2).bind fun U=> if U≠0 then(some (false,U)) else((f92 fuel p0).bind fun Z=> (Z).bind fun K=> (f93 fuel K p1).bind fun V=> (f93 fuel K p2).bind fun W=> Option.bind (if(V.2.length:Int)=0 then(some true) else(some (decide ((W.2.length:Int)=0)))) fun aa=> if aa=true then(some (false,0)) else((f94 fuel p1 p2).bind fun ab=> (f93 fuel K ab).bind fun Y=> Option.bind (if 0<(Y.2.length:Int) then((Au (V.1+W.1)).bind fun ae=> some (decide (Y.1≤ae))) else(some false)) fun ah=> some (ah,0))))
theorem WY{E:LH}{aB:Ao}{c2:Nat}{aC:Ao}{aD:Nat}{ai:Ao}{aj:Nat}{ak:Ao}{al:Nat}{p0:BH}{p1:AT}{p2:AT}(am:An (rL rI) E aB c2 p0.1)(an:An (rL rI) E aC aD p0.2)(ao:An By E ai aj p1)(ap:An By E ak al p2){fuel:Nat}{r:Bool×Int}(aE:f37 fuel p0 p1 p2=some r):AR (Dt Tryz.prog) 37 [.agg #[sV aB p0.1 c2,sV aC p0.2 aD],sV ai p1 aj,sV ak p2 al] E [] (fun w E' B'=>w= .tuple #[.bool r.1,iV r.2]∧B'= []):=by
 refine Bg func37 fun Q bZ cs H aS ah=>?_;unfold f37 at aE;refine zg 2 rfl (CI aS fun b0 b1 K aq aT=>?_);refine zg 6 rfl (Cd aq Cv Cb rfl rfl ?_);obtain⟨b2,aU,aV⟩:=bs aE;refine zg 1 rfl (BI (Kn (am.Ai K) (an.Ai K) (ao.Ai K) aU) rfl rfl Jw aT fun b3 O aF=>?_);refine zg 7 rfl (AX aV (fun aW aX=>?_) (fun aW aY=>?_))
 ·refine zg 6 rfl ?_;obtain rfl:=oi aX;exact AP func37 rfl rfl (ah (K.Ab O) rfl ⟨rfl,rfl⟩ aF)
 ·refine zg 4 rfl (Cd (aq.Ai O) Cv Cb rfl rfl ?_);obtain⟨b4,aZ,a0⟩:=bs aY;refine zg 1 rfl (BI (Kn (am.Ai (K.Ab O)) (an.Ai (K.Ab O)) (ap.Ai (K.Ab O)) aZ) rfl rfl Jw aF fun b5 V a1=>?_);refine BR (S':= [[],[],[],[]]) rfl a1 fun aG=>zg 7 rfl (AX a0 (fun a2 a3=>?_) (fun a2 a4=>?_))
  ·refine zg 6 rfl ?_;obtain rfl:=oi a3;exact AP func37 rfl rfl (ah ((K.Ab O).Ab V) rfl ⟨rfl,rfl⟩ aG)
  ·refine zg 3 rfl (Cd (aq.Ai (O.Ab V)) Cv Cb rfl rfl ?_);obtain⟨b6,a5,a6⟩:=bs a4;refine BM (Mr (am.Ai ((K.Ab O).Ab V)) (an.Ai ((K.Ab O).Ab V)) a5) rfl rfl K1 aG ?_;rintro b7 b8 _ ae ⟨_,rfl,rfl,a7⟩ a8;obtain⟨b9,a9,ba⟩:=bs a6;have aH:=a7;refine zg 6 rfl ?_;rw [a9] at aH;obtain⟨bb,bc,_,rfl,ar,⟨_,_,rfl,⟨ca,cb,rfl,au⟩,⟨_,cc,rfl,⟨cd,ce,rfl,av⟩,aw⟩⟩⟩:=aH;obtain⟨cf,bd,be⟩:=bs ba;refine BM (Mk ar au av aw (ao.Ai (((K.Ab O).Ab V).Ab ae)) bd) rfl rfl K0 a8 ?_;rintro _ cg _ U ⟨ci,ck,rfl,rfl,cm⟩ bf;obtain⟨cn,bg,bh⟩:=bs be;refine zg 2 rfl (BM (Mk (ar.Ai U) (au.Ai U) (av.Ai U) (Rp.Ai _ U aw) (ap.Ai ((((K.Ab O).Ab V).Ab ae).Ab U)) bg) rfl rfl K0 bf ?_);rintro _ co _ Z ⟨cp,cq,rfl,rfl,cr⟩ bi;refine BR (S':= [[],[],[],[],[],[],[]]) rfl bi fun bj=>Cz bj FD fun bl bm=>?_;refine Cz bm FD fun aI bn=>?_;refine BJ 7 bn C3 fun bo=>?_;refine C4 7 bo rfl fun ct aa aJ bp=>BR (S':= [[],[],[],[],[],[],[],[],[(aI,.cells #[iV 0,nS] 97 (0,0))]]) rfl bp fun bq=>BJ 8 bq C3 fun br=>?_;refine C4 8 br rfl fun ay W aK aL=>zg 4 rfl (JL.fl 1 (aJ.Ai W) underlying97 Dg Eu ?_);refine BA underlying95 rfl rfl rfl ?_;obtain⟨bu,bv,bw⟩:=bs bh;refine zg 2 rfl (FG [] (fun L s=>∃(aM:LH),Jm ay H aM [] [(1,sV ai p1 aj),(2,sV ak p2 al),(10,pV bb bc),(11,pV bl 0),(12,pV aI 0),(43,.bool bu)] L s) ?_ ?_)
   ·rintro _ _ ⟨aM,rfl,rfl,Y,aN⟩;refine JL.done (BP bw (fun bx bz=>?_) (fun bx bA=>?_))
    ·refine zg 5 rfl ?_;obtain rfl:=oi bz;exact AP func37 rfl rfl (ah ((((((((K.Ab O).Ab V).Ab ae).Ab U).Ab Z).Ab aa).Ab W).Ab Y) rfl ⟨rfl,rfl⟩ aN)
    ·obtain⟨cu,bB,bC⟩:=bs bA;refine zg 6 rfl (BM (Xa (ao.Ai ((((((((K.Ab O).Ab V).Ab ae).Ab U).Ab Z).Ab aa).Ab W).Ab Y)) (ap.Ai ((((((((K.Ab O).Ab V).Ab ae).Ab U).Ab Z).Ab aa).Ab W).Ab Y)) bB) rfl rfl (A5 func94 rfl) aN ?_);rintro _ cv _ ab ⟨cw,cy,rfl,rfl,bD⟩ bE;obtain⟨cz,bF,bG⟩:=bs bC;refine BM (Mk (ar.Ai (((((U.Ab Z).Ab aa).Ab W).Ab Y).Ab ab)) (au.Ai (((((U.Ab Z).Ab aa).Ab W).Ab Y).Ab ab)) (av.Ai (((((U.Ab Z).Ab aa).Ab W).Ab Y).Ab ab)) (Rp.Ai _ (((((U.Ab Z).Ab aa).Ab W).Ab Y).Ab ab) aw) bD bF) rfl rfl K0 bE ?_;rintro _ cA _ az ⟨cB,cC,rfl,rfl,cD⟩ bH;refine BR (S':= [[],[]]) rfl bH fun bI=>Cz bI FD fun cE bJ=>?_;refine BJ 2 bJ C3 fun bK=>?_;refine C4 2 bK rfl fun cF aA aO aP=>zg 3 rfl (JL.fl 1 aO underlying97 Dg Eu ?_);refine BA underlying95 rfl rfl rfl ?_;obtain⟨bL,bM,bN⟩:=bs bG;refine zg 2 rfl (C7 14 2 [] [(62,.bool bL)] (fun cG bO bP=>?_) (fun aQ=>?_))
     ·refine zg 3 rfl ?_;obtain rfl:=oi bN;exact AP func37 rfl rfl (ah ((((((((((((K.Ab O).Ab V).Ab ae).Ab U).Ab Z).Ab aa).Ab W).Ab Y).Ab ab).Ab az).Ab aA).Ab bO) rfl ⟨rfl,rfl⟩ bP)
     ·refine Ex 53 bM (fun bQ bR=>?_) (fun bQ bS=>?_)
      ·refine JL.fl 0 aO underlying97 AU Bq ?_;refine JL.fl 0 (aJ.Ai ((((W.Ab Y).Ab ab).Ab az).Ab aA)) underlying97 AU Bq ?_;refine JL.fl 0 (aK.Ai (((Y.Ab ab).Ab az).Ab aA)) underlying97 AU Bq ?_;obtain⟨cH,bT,bU⟩:=bs bR;refine Bh bT rfl rfl rfl (zg 2 rfl ?_);obtain rfl:=oi bU;exact aQ Ap aP rfl
      ·refine zg 9 rfl ?_;obtain rfl:=oi bS;exact aQ Ap aP rfl
   ·intro aR;refine Ex 38 bv (fun bV bW=>?_) (fun bV bY=>?_)
    ·refine zg 5 rfl ?_;obtain rfl:=oi bW;exact Az (aR _ _ ⟨ay,rfl,rfl,Ap,aL⟩) rfl
    ·refine JL.fl 1 aK underlying97 Dg Eu ?_;refine BA underlying95 rfl rfl rfl (zg 2 rfl ?_);obtain rfl:=oi bY;exact Az (aR _ _ ⟨ay,rfl,rfl,Ap,aL⟩) rfl
end Pal
namespace Pal
open Go Go.Conc Go.Proofs
open Go.Proofs.Tryz
def Mw:List Nat:= [0,1,1,2,1,2,2,3,1,2,2,3,2,3,3,4,1,2,2,3,2,3,3,4,2,3,3,4,3,4,4,5,1,2,2,3,2,3,3,4,2,3,3,4,3,4,4,5,2,3,3,4,3,4,4,5,3,4,4,5,4,5,5,6,1,2,2,3,2,3,3,4,2,3,3,4,3,4,4,5,2,3,3,4,3,4,4,5,3,4,4,5,4,5,5,6,2,3,3,4,3,4,4,5,3,4,4,5,4,5,5,6,3,4,4,5,4,5,5,6,4,5,5,6,5,6,6,7,1,2,2,3,2,3,3,4,2,3,3,4,3,4,4,5,2,3,3,4,3,4,4,5,3,4,4,5,4,5,5,6,2,3,3,4,3,4,4,5,3,4,4,5,4,5,5,6,3,4,4,5,4,5,5,6,4,5,5,6,5,6,6,7,2,3,3,4,3,4,4,5,3,4,4,5,4,5,5,6,3,4,4,5,4,5,5,6,4,5,5,6,5,6,6,7,3,4,4,5,4,5,5,6,4,5,5,6,5,6,6,7,4,5,5,6,5,6,6,7,5,6,6,7,6,7,7,8]
def f86(fuel:Nat)(p0:Nat):Option Int:= (Kw Mw ((((p0>>>8):Nat):Int))).bind fun K=> (Jj p0 (255)).bind fun O=> (Kw Mw ((((O):Nat):Int))).bind fun U=> (Au ((((K+U) % 256):Nat):Int)).bind fun V=> some V
theorem W8{E:LH}{p0:Nat}{fuel:Nat}{r:Int}(K:f86 fuel p0=some r):AR (Dt Tryz.prog) 86 [uV p0] E [] (fun w E' B'=>w=iV r∧B'= []):=by
 refine Bg func86 fun Q am cs H V W=>?_;unfold f86 at K;refine zg 5 rfl (EV 6 fun ht=>?_);refine Cm 0 ht rfl rfl (Bv (v:= .int .u16 ((p0>>>8:Nat):Int)) 1 ht rfl rfl (fun ρ h s' hs=>TG 8 (h _ _ rfl) (h _ _ rfl) (by decide)) ?_);obtain⟨O,Y,Z⟩:=bs K;refine Bv (v:= .int .u8 ((O:Nat):Int)) 2 ht rfl rfl (fun ρ h s' hs=>M9 (l:=Mw) (by decide+kernel) underlying9 (h _ _ rfl) (h _ _ rfl) Y) (Cm 3 ht rfl rfl ?_);obtain⟨aa,ab,ae⟩:=bs Z;refine Bv (v:= uV aa) 4 ht rfl rfl (fun ρ h s' hs=>Na (h _ _ rfl) (h _ _ rfl) ab) ?_;obtain⟨U,ah,ai⟩:=bs ae;refine Bv (v:= .int .u8 ((U:Nat):Int)) 5 ht rfl rfl (fun ρ h s' hs=>M9 (l:=Mw) (by decide+kernel) underlying9 (h _ _ rfl) (h _ _ rfl) ah) (Cy [6,7,8] ?_);refine AA (v:= .int .u8 (((O+U) % 256:Nat):Int)) rfl (fun ρ h=>T0 (h _ _ rfl) (h _ _ rfl)) ?_;obtain⟨aj,ak,al⟩:=bs ai;refine AA (v:=iV aj) rfl (fun ρ h=>P1 underlying5 underlying3 (h _ _ rfl) ak) (zg 2 rfl ?_);obtain rfl:=oi al;exact AP func86 rfl rfl (W Ap rfl ⟨rfl,rfl⟩ V)
end Pal
namespace Pal
open Go Go.Conc Go.Proofs
open Go.Proofs.Tryz
def f85(fuel:Nat)(p0:Nat):Option Int:= (f86 fuel p0).bind fun K=> some K
theorem Rh{E:LH}{p0:Nat}{fuel:Nat}{r:Int}(K:f85 fuel p0=some r):AR (Dt Tryz.prog) 85 [uV p0] E [] (fun w E' B'=>w=iV r∧B'= []):=by
 refine Bg func85 fun Q aa cs H O U=>?_;unfold f85 at K;obtain⟨ab,V,W⟩:=bs K;refine zg 7 rfl (BI (W8 V) rfl rfl (A5 func86 rfl) O fun ae Y Z=>?_);refine zg 2 rfl ?_;obtain rfl:=oi W;exact AP func85 rfl rfl (U Y rfl ⟨rfl,rfl⟩ Z)
end Pal
namespace Pal
open Go Go.Conc Go.Proofs
open Go.Proofs.Tryz
def Q7(fuel:Nat)(V:BU)(U:(List Int))(K:(List Nat)×Int):Option (Bj ((List Nat)×Int) ((List Nat))):= if K.2<(U.length:Int) then((ix U K.2).bind fun O=> (ix K.1 O).bind fun W=> (f90 fuel W V.1).bind fun Y=> (ix K.1 O).bind fun aa=> (Au (K.2+1)).bind fun Z=> some (.more ((K.1.set (Int.toNat O) Y),Z))) else(some (.done K.1))
def QD(fuel:Nat)(O:(Option BK)×(Int×(List BU))×Int)(V:BK)(W:Int×Int×Int)(K:(List Nat)×Int):Option (Bj ((List Nat)×Int) ((List Nat))):= if K.2<(O.2.1.2.length:Int) then((ix O.2.1.2 K.2).bind fun U=> (f88 fuel V U W.2.2).bind fun Y=> (f89 fuel Y).bind fun Z=> Option.bind (iter (Q7 fuel U Z) fuel (K.1,0)) fun aa=> (Au (K.2+1)).bind fun ab=> some (.more (aa,ab))) else(some (.done K.1))
def Q1(fuel:Nat)(O:(List Nat))(K:Int×Int):Option (Bj (Int×Int) Int):= if K.2<8 then((ix O K.2).bind fun U=> (f85 fuel U).bind fun V=> (Au (K.2+1)).bind fun W=> some (.more (max K.1 V,W))) else(some (.done K.1))
def QR(fuel:Nat)(V:(Option BK)×(Int×(List BU))×Int)(W:BK)(K:Int×Int×Int):Option (Bj (Int×Int×Int) (Int×Int)):= if K.2.2<7 then(Option.bind (iter (QD fuel V W K) fuel ((List.replicate 8 (0:Nat)),0)) fun Y=> Option.bind (iter (Q1 fuel Y) fuel (0,0)) fun O=> Option.bind (if O<K.2.1 then(some (K.2.2,O)) else(some (K.1,K.2.1))) fun U=> (Au (K.2.2+1)).bind fun Z=> some (.more (U.1,U.2,Z))) else(some (.done (K.1,K.2.1)))
def f35(fuel:Nat)(p0:BH)(p1:AT):Option (Int×Int×Int):= (f78 fuel p0 p1 (-1) false).bind fun K=> if K.2.2≠0 then(some (0,0,K.2.2)) else((f87 fuel K.2.1.2).bind fun U=> (f85 fuel U).bind fun V=> (K.1).bind fun W=> Option.bind (iter (QR fuel K W) fuel ((-1),V,0)) fun O=> if O.1<0 then(some (0,0,11)) else(some (O.1,O.2,0)))
theorem Xg{E:LH}{aU:Ao}{c2:Nat}{aV:Ao}{aW:Nat}{aX:Ao}{aY:Nat}{p0:BH}{p1:AT}(bv:An (rL rI) E aU c2 p0.1)(bw:An (rL rI) E aV aW p0.2)(bx:An By E aX aY p1){fuel:Nat}{r:Int×Int×Int}(aZ:f35 fuel p0 p1=some r):AR (Dt Tryz.prog) 35 [.agg #[sV aU p0.1 c2,sV aV p0.2 aW],sV aX p1 aY] E [] (fun w E' B'=>w= .tuple #[iV r.1,iV r.2.1,iV r.2.2]∧B'= []):=by
 refine Bg func35 fun Q dL cs H bz aG=>?_;unfold f35 at aZ;refine zg 2 rfl (CI bz fun dM dN ae bA bB=>?_);refine zg 6 rfl (Cd bA Cv Cb rfl rfl ?_);obtain⟨ah,bC,bD⟩:=bs aZ;refine zg 1 rfl (BM (Km (bv.Ai ae) (bw.Ai ae) (bx.Ai ae) bC) rfl rfl Jx bB ?_);rintro _ dO _ aH ⟨dP,aI,aJ,rfl,rfl,bE,a0⟩ bF;refine zg 4 rfl (Cz bF FD fun U bG=>?_);refine zg 1 rfl (BJ 3 bG C3 fun bH=>?_);refine C4 3 bH rfl fun dQ ai a1 a2=>zg 8 rfl (AX bD (fun bI bJ=>?_) (fun bI bK=>?_))
 ·refine zg 7 rfl ?_;obtain rfl:=oi bJ;exact AP func35 rfl rfl (aG ((ae.Ab aH).Ab ai) rfl ⟨rfl,rfl⟩ a2)
 ·refine zg 8 rfl (JL.fl 1 a1 underlying97 Dg Eu ?_);obtain⟨bL,bM,bN⟩:=bs bK;refine BI (W5 (a0.Ai ai) bM) rfl rfl (A5 func87 rfl) a2 fun dR an bO=>?_;obtain⟨dS,bP,bQ⟩:=bs bN;refine JV (vs:= [uV bL]) (Rh bP) rfl rfl rfl rfl (A5 func85 rfl) rfl bO ?_;rintro _ dT _ ao ⟨rfl,rfl⟩ bR;obtain⟨dU,bS,bT⟩:=bs bQ;have a3:=(bE.Ai ((ai.Ab an).Ab ao));refine zg 11 rfl ?_;rw [bS] at a3;obtain⟨V,W,_,rfl,bU,⟨_,_,rfl,⟨dV,dW,rfl,bV⟩,⟨_,dX,rfl,⟨dY,dZ,rfl,bW⟩,bY⟩⟩⟩:=a3;obtain⟨a4,bZ,b0⟩:=bs bT;refine CB [] [(4,iV a4.1),(10,iV a4.2)] (fun ea a5 a6=>?_) (fun b1=>?_)
  ·refine zg 6 rfl (AX b0 (fun b2 b3=>?_) (fun b2 b4=>?_))
   ·refine zg 6 rfl ?_;obtain rfl:=oi b3;exact AP func35 rfl rfl (aG (((((ae.Ab aH).Ab ai).Ab an).Ab ao).Ab a5) rfl ⟨rfl,rfl⟩ a6)
   ·refine zg 9 rfl ?_;obtain rfl:=oi b4;exact AP func35 rfl rfl (aG (((((ae.Ab aH).Ab ai).Ab an).Ab ao).Ab a5) rfl ⟨rfl,rfl⟩ a6)
  ·refine JL.block (CC bZ (fun K=> []) (fun K=> [(4,iV K.1),(7,pV V W),(8,pV U 0),(9,(fV 85)),(10,iV K.2.1),(35,iV K.2.2)]) Ap bR ?_);rintro K aw Y a7 b5 ⟨eb,aK⟩ b6;have a8:=aK;unfold QR at a8;refine zg 5 rfl (AX a8 (fun b7 b8=>?_) (fun b7 b9=>?_))
   ·refine zg 10 rfl (Cz a7 (D6 type114) fun O ca=>?_);refine zg 4 rfl (JL.fl 1 (a1.Ai ((an.Ab ao).Ab Y)) underlying97 Dg Eu ?_);refine BA underlying95 rfl rfl rfl ?_;obtain⟨cb,cc,cd⟩:=bs b8;refine zg 2 rfl (Bu (fun L s=>∃(aL:LH) (ap:Lv_),Jn aw H aL [bX O (([]:Lv_)++ap).toArray 114] [(4,iV K.1),(7,pV V W),(8,pV U 0),(9,(fV 85)),(10,iV K.2.1),(11,iV K.2.2),(12,pV O 0),(35,iV K.2.2)] L s ((rA 8 (rN .u16)).r aL ap cb)) ?_ ?_)
    ·rintro _ _ ⟨aL,ap,rfl,rfl,ce,a9,ba⟩;refine zg 7 rfl (AA (v:= .agg ap.toArray) rfl (fun ρ h=>JP (kk:=8) (pp:=(rN .u16)) ba (D1 underlying114) (Bf type114) (h _ _ rfl) (Lu (l:= []) 0 a9 rfl)) ?_);obtain⟨cf,cg,ci⟩:=bs cd;refine zg 2 rfl (CB [] [(4,iV K.1),(7,pV V W),(8,pV U 0),(9,(fV 85)),(10,iV K.2.1),(11,iV K.2.2),(17,iV cf),(35,iV K.2.2)] (fun ec ck bb=>?_) (fun cm=>?_))
     ·obtain⟨ay,cn,co⟩:=bs ci;refine zg 6 rfl (CB [] [(4,iV ay.1),(7,pV V W),(8,pV U 0),(9,(fV 85)),(10,iV ay.2),(35,iV K.2.2)] (fun ed cp cq=>?_) (fun bc=>?_))
      ·obtain⟨cr,ct,cu⟩:=bs co;refine zg 2 rfl (Bh ct rfl rfl rfl ?_);refine zg 2 rfl ?_;obtain rfl:=oi cu;exact b6 (ay.1,ay.2,cr) (((Y.Ab ce).Ab ck).Ab cp) cq rfl aK
      ·refine AX cn (fun cv cw=>?_) (fun cv cy=>?_)
       ·refine zg 6 rfl ?_;obtain rfl:=oi cw;exact bc Ap bb rfl
       ·refine JL.skip ?_;obtain rfl:=oi cy;exact bc Ap bb rfl
     ·refine JL.block (JS.drop 0 a9 rfl fun cz=>?_);refine CC cg (fun aj=> []) (fun aj=> [(4,iV K.1),(7,pV V W),(8,pV U 0),(9,(fV 85)),(10,iV K.2.1),(11,iV K.2.2),(17,iV aj.1),(35,iV K.2.2),(65,.agg ap.toArray),(66,iV aj.2)]) Ap cz ?_;rintro aj ee aM bd cA ⟨ef,aN⟩ cB;have be:=aN;unfold Q1 at be;refine zg 5 rfl (AX be (fun cC cD=>?_) (fun cC cE=>?_))
      ·obtain⟨cF,cG,cH⟩:=bs cD;refine zg 5 rfl (VF (Rp.Ai _ aM ba) cG rfl rfl rfl rfl rfl underlying114 DZ Gv ?_ (fun _=>rfl));rintro _ rfl;obtain⟨bf,cI,cJ⟩:=bs cH;refine zg 6 rfl (JV (vs:= [uV cF]) (Rh cI) rfl rfl rfl rfl (A5 func85 rfl) rfl bd ?_);rintro _ eg _ cK ⟨rfl,rfl⟩ cM;refine AA (v:=iV (max aj.1 bf)) rfl (fun ρ h=>Yl.max2 (h _ _ rfl) (h _ _ rfl)) ?_;obtain⟨cN,cO,cP⟩:=bs cJ;refine zg 4 rfl (Bh cO rfl rfl rfl ?_);refine zg 2 rfl ?_;obtain rfl:=oi cP;exact cB (max aj.1 bf,cN) (aM.Ab cK) cM rfl aN
      ·refine JL.exit rfl ?_;obtain rfl:=oi cE;obtain rfl:=cA _ aN;exact cm aM bd rfl
    ·intro cQ;refine JL.block (CM cc (fun L s aq=>∃(az:LH) (ar:Lv_),Jn aw H az [bX O (([]:Lv_)++ar).toArray 114] [(4,iV K.1),(7,pV V W),(8,pV U 0),(9,(fV 85)),(10,iV K.2.1),(11,iV K.2.2),(12,pV O 0),(35,iV K.2.2),(39,sV aI ah.2.1.2 aJ),(40,iV (ah.2.1.2.length:Int)),(41,iV aq.2)] L s ((rA 8 (rN .u16)).r az ar aq.1)) ⟨aw,(List.replicate 8 (uV 0):Lv_),rfl,rfl,Ap,ca,(I9 (E:=aw) (pp:=(rN .u16)) rfl)⟩ ?_);rintro _ _ aq ⟨az,ar,rfl,rfl,Z,bg,bh⟩ cR ⟨eh,aO⟩ cT;have bi:=aO;unfold QD at bi;refine zg 5 rfl (AX bi (fun cV cW=>?_) (fun cV cX=>?_))
     ·obtain⟨cY,cZ,c0⟩:=bs cW;refine zg 5 rfl (Cj (a0.Ai ((((ai.Ab an).Ab ao).Ab Y).Ab Z)) cZ underlying95 Ca ?_);rintro ei ej _ ⟨_,_,rfl,rfl,⟨_,_,rfl,⟨ek,el,rfl,c1⟩,rfl⟩⟩ c3;refine Cd c3 FA Ca rfl rfl (Cz bg Gx fun c4 c5=>?_);refine BJ 1 c5 Ca fun c6=>?_;refine C4 1 c6 rfl fun em aa bj c7=>zg 4 rfl (Cd bj FA Ca rfl rfl ?_);obtain⟨en,c8,c9⟩:=bs c0;refine zg 1 rfl (BI (Xi (bU.Ai ((Y.Ab Z).Ab aa)) (bV.Ai ((Y.Ab Z).Ab aa)) (bW.Ai ((Y.Ab Z).Ab aa)) (Rp.Ai _ ((Y.Ab Z).Ab aa) bY) (c1.Ai aa) c8) rfl rfl (A5 func88 rfl) c7 fun eo aP da=>?_);obtain⟨bl,db,dc⟩:=bs c9;refine BM (IA db) rfl rfl Ig da ?_;rintro _ aQ _ aR ⟨dd,de,rfl,rfl,df⟩ dg;refine BA underlying28 rfl rfl rfl ?_;obtain⟨bm,dh,di⟩:=bs dc;refine zg 2 rfl (Bu (fun L s=>∃(aA:LH) (aB:Lv_),Jn aQ H aA [bX O (([]:Lv_)++aB).toArray 114] [(4,iV K.1),(7,pV V W),(8,pV U 0),(9,(fV 85)),(10,iV K.2.1),(11,iV K.2.2),(12,pV O 0),(35,iV K.2.2),(39,sV aI ah.2.1.2 aJ),(40,iV (ah.2.1.2.length:Int)),(41,iV aq.2)] L s ((rA 8 (rN .u16)).r aA aB bm)) ?_ ?_)
      ·rintro _ _ ⟨aA,aB,rfl,rfl,dj,dk,dl⟩;obtain⟨dm,dn,dp⟩:=bs di;refine zg 2 rfl (Bh dn rfl rfl rfl ?_);refine zg 2 rfl ?_;obtain rfl:=oi dp;exact Az (cT _ _ (bm,dm) ⟨aA,aB,rfl,rfl,((((Z.Ab aa).Ab aP).Ab aR).Ab dj),dk,dl⟩ aO) rfl
      ·intro dq;refine JL.block (CM dh (fun L s au=>∃(aC:LH) (ak:Lv_),Jn aQ H aC [bX O (([]:Lv_)++ak).toArray 114] [(4,iV K.1),(7,pV V W),(8,pV U 0),(9,(fV 85)),(10,iV K.2.1),(11,iV K.2.2),(12,pV O 0),(14,pV c4 0),(35,iV K.2.2),(39,sV aI ah.2.1.2 aJ),(40,iV (ah.2.1.2.length:Int)),(41,iV aq.2),(49,sV dd bl de),(50,iV (bl.length:Int)),(51,iV au.2)] L s ((rA 8 (rN .u16)).r aC ak au.1)) ⟨aQ,ar,rfl,rfl,Ap,dg,(Rp.Ai _ ((aa.Ab aP).Ab aR) bh)⟩ ?_);rintro _ _ au ⟨aC,ak,rfl,rfl,aD,av,al⟩ dr ⟨ep,aS⟩ dt;have bn:=aS;unfold Q7 at bn;refine zg 5 rfl (AX bn (fun du dv=>?_) (fun du dw=>?_))
       ·obtain⟨am,dx,dy⟩:=bs dv;refine zg 5 rfl (Cj (df.Ai aD) dx underlying28 AU ?_);rintro eq er _ rfl dz;refine B4 0 dz Bq rfl rfl rfl (zg 2 rfl ?_);refine CY 7 [O] ⟨⟨0,_,rfl⟩,trivial⟩ av fun ht=>Bn ht rfl [0,1] rfl ?_;obtain⟨bo,bp,dA⟩:=bs dy;obtain⟨_,rfl,_,_,dB⟩:=HO (kk:=8) (pp:=(rN .u16)) al bp;refine Bv (v:= .pointer (some ⟨O,0+Int.toNat (am)*1,none⟩)) 2 ht rfl rfl (fun ρ h s' hs=>IQ (kk:=8) (pp:=(rN .u16)) al bp underlying114 DZ (h _ _ rfl) (h _ _ rfl)) (Bv (v:= uV bo) 3 ht rfl rfl (fun ρ h s' hs=>Yl.load Gv (h _ _ rfl) (SV (l:= []) 0 av rfl (by simp [AZ]) hs (dB 0 _ rfl))) ?_);refine Ce 4 ht underlying104 AU rfl rfl rfl rfl (JG.lp 5 ht 0 (bj.Ai ((aP.Ab aR).Ab aD)) av ⟨⟨0,_,rfl⟩,trivial⟩ Bq ?_);obtain⟨ab,dC,dD⟩:=bs dA;refine Ly (i:=6) ⟨⟨0,_,rfl⟩,trivial⟩ (vs:= [uV bo,iV cY.1]) (Mv dC) (by decide+kernel) rfl rfl rfl K9 rfl av ?_;rintro _ bq _ aE ⟨rfl,rfl⟩ dE;refine Cy [7,8] ?_;obtain⟨et,aT,dF⟩:=bs dD;obtain⟨_,rfl,_,_,eu⟩:=HO (kk:=8) (pp:=(rN .u16)) (Rp.Ai _ aE al) aT;refine AA (v:= .pointer (some ⟨O,0+Int.toNat (am)*1,none⟩)) rfl (fun ρ h=>IQ (kk:=8) (pp:=(rN .u16)) (Rp.Ai _ aE al) aT underlying114 DZ (h _ _ rfl) (h _ _ rfl)) ?_;have aF:=NS (us:= [uV ab]) (y:=ab) (Rp.Ai _ aE al) aT rfl;refine JK (v:= uV ab) (l:= []) (ws:=ak) (us:= [uV ab]) (o:=Int.toNat (am)*1) 0 rfl rfl rfl dE rfl rfl rfl DZ (by simp [Value.cells,CK]) rfl aF.2 fun br=>?_;replace aF:=aF.1;generalize dG:Hh ak (Int.toNat (am)*1) [uV ab]=bu at br ⊢;have dH:(rA 8 (rN .u16)).r bq bu (au.1.set (Int.toNat am) ab):=by rw [← dG];exact aF
        obtain⟨dI,dJ,dK⟩:=bs dF;refine zg 3 rfl (Bh dJ rfl rfl rfl ?_);refine zg 2 rfl ?_;obtain rfl:=oi dK;exact Az (dt _ _ ((au.1.set (Int.toNat am) ab),dI) ⟨bq,bu,rfl,rfl,(aD.Ab aE),br,dH⟩ aS) rfl
       ·refine JL.exit rfl ?_;obtain rfl:=oi dw;obtain rfl:=dr _ aS;exact Az (dq _ _ ⟨aC,ak,rfl,rfl,aD,av,al⟩) rfl
     ·refine JL.exit rfl ?_;obtain rfl:=oi cX;obtain rfl:=cR _ aO;exact Az (cQ _ _ ⟨az,ar,rfl,rfl,Z,bg,bh⟩) rfl
   ·refine JL.exit rfl ?_;obtain rfl:=oi b9;obtain rfl:=b5 _ aK;exact b1 Y a7 rfl
end Pal
namespace Pal
open Go Go.Conc Go.Proofs
open Go.Proofs.Tryz
def L6(fuel:Nat)(p2:Int)(O:(Option BK)×(Int×(List BU))×Int)(K:Int×Int):Option (Bj (Int×Int) Int):= if K.2<(O.2.1.2.length:Int) then((ix O.2.1.2 K.2).bind fun U=> (f103 fuel U.2.2 p2).bind fun V=> Option.bind (if V=true then((Au (K.1+1)).bind fun W=> some W) else(some K.1)) fun Y=> (Au (K.2+1)).bind fun Z=> some (.more (Y,Z))) else(some (.done K.1))
def f49(fuel:Nat)(p0:BH)(p1:AT)(p2:Int):Option (Int×Int):= (f69 fuel p0 p1).bind fun U=> if U≠0 then(some (0,U)) else((Au ((p1.length:Int) - 1)).bind fun V=> (f101 fuel p2 0 V).bind fun W=> if W=true then(some (0,3)) else((f78 fuel p0 p1 p2 false).bind fun K=> if K.2.2≠0 then(some (0,K.2.2)) else(Option.bind (iter (L6 fuel p2 K) fuel (0,0)) fun O=> Option.bind (Option.bind (Option.bind (if 0<O then(some (decide (O<(K.2.1.2.length:Int)))) else(some false)) fun Y=> if Y=true then((Au (0+1)).bind fun Z=> (Au (Z+1)).bind fun aa=> some aa) else(if O=0 then((Au (0+1)).bind fun ab=> some ab) else(some 0))) fun ae=> (Au (ae+1)).bind fun ah=> some ah) fun ai=> some (ai,0))))
theorem NW{E:LH}{ak:Ao}{c2:Nat}{al:Ao}{am:Nat}{an:Ao}{ao:Nat}{p0:BH}{p1:AT}{p2:Int}(ap:An (rL rI) E ak c2 p0.1)(aq:An (rL rI) E al am p0.2)(ar:An By E an ao p1){fuel:Nat}{r:Int×Int}(au:f49 fuel p0 p1 p2=some r):AR (Dt Tryz.prog) 49 [.agg #[sV ak p0.1 c2,sV al p0.2 am],sV an p1 ao,iV p2] E [] (fun w E' B'=>w= .tuple #[iV r.1,iV r.2]∧B'= []):=by
 refine Bg func49 fun Q cf cs H aN W=>?_;unfold f49 at au;refine zg 2 rfl (CI aN fun cg ci K av aO=>?_);refine zg 6 rfl (Cd av Cv Cb rfl rfl ?_);obtain⟨ck,aP,aQ⟩:=bs au;refine zg 1 rfl (BI (Kn (ap.Ai K) (aq.Ai K) (ar.Ai K) aP) rfl rfl Jw aO fun cm O aw=>?_);refine zg 7 rfl (AX aQ (fun aR aS=>?_) (fun aR aT=>?_))
 ·refine zg 6 rfl ?_;obtain rfl:=oi aS;exact AP func49 rfl rfl (W (K.Ab O) rfl ⟨rfl,rfl⟩ aw)
 ·refine zg 6 rfl (BA underlying25 rfl rfl rfl ?_);obtain⟨cn,aU,aV⟩:=bs aT;refine BX aU rfl rfl rfl ?_;obtain⟨co,aW,aX⟩:=bs aV;refine BI (Iz aW) rfl rfl Ie aw fun cp U ay=>JL.done (BP aX (fun aY aZ=>?_) (fun aY a0=>?_))
  ·refine zg 5 rfl ?_;obtain rfl:=oi aZ;exact AP func49 rfl rfl (W ((K.Ab O).Ab U) rfl ⟨rfl,rfl⟩ ay)
  ·refine zg 3 rfl (Cd (av.Ai (O.Ab U)) Cv Cb rfl rfl ?_);obtain⟨Y,a1,a2⟩:=bs a0;refine zg 2 rfl (BM (Km (ap.Ai ((K.Ab O).Ab U)) (aq.Ai ((K.Ab O).Ab U)) (ar.Ai ((K.Ab O).Ab U)) a1) rfl rfl Jx ay ?_);rintro _ cq _ az ⟨cr,aA,aB,rfl,rfl,ct,a3⟩ a4;refine zg 4 rfl (Cz a4 FD fun Z a5=>?_);refine zg 1 rfl (BJ 5 a5 C3 fun a6=>?_);refine C4 5 a6 rfl fun cu aa aC aD=>zg 8 rfl (AX a2 (fun a7 a8=>?_) (fun a7 a9=>?_))
   ·refine zg 6 rfl ?_;obtain rfl:=oi a8;exact AP func49 rfl rfl (W ((((K.Ab O).Ab U).Ab az).Ab aa) rfl ⟨rfl,rfl⟩ aD)
   ·refine zg 8 rfl (JL.fl 1 aC underlying97 Dg Eu ?_);refine BA underlying95 rfl rfl rfl ?_;obtain⟨aE,ba,bb⟩:=bs a9;refine zg 2 rfl (CB [] [(10,pV Z 0),(12,iV aE)] (fun cv aF aG=>?_) (fun bc=>?_))
    ·obtain⟨bd,be,bf⟩:=bs bb;refine zg 5 rfl (CB [] [(15,iV bd)] (fun cw bg bh=>?_) (fun bi=>?_))
     ·refine zg 6 rfl ?_;obtain rfl:=oi bf;exact AP func49 rfl rfl (W ((((((K.Ab O).Ab U).Ab az).Ab aa).Ab aF).Ab bg) rfl ⟨rfl,rfl⟩ bh)
     ·obtain⟨bj,bl,bm⟩:=bs be;refine zg 2 rfl (CB [] [(15,iV bj)] (fun cy bn bo=>?_) (fun ab=>?_))
      ·obtain⟨cz,bp,bq⟩:=bs bm;refine zg 3 rfl (Bh bp rfl rfl rfl ?_);refine zg 3 rfl ?_;obtain rfl:=oi bq;exact bi bn bo rfl
      ·obtain⟨br,bu,bv⟩:=bs bl;refine zg 12 rfl (C7 9 1 [] [(12,iV aE),(15,iV 0),(61,.bool br)] (fun cA ae ah=>?_) (fun aH=>?_))
       ·refine zg 2 rfl (BP bv (fun bw bx=>?_) (fun bw bz=>?_))
        ·obtain⟨cB,bA,bB⟩:=bs bx;refine zg 3 rfl (Bh bA rfl rfl rfl ?_);obtain⟨cC,bC,bD⟩:=bs bB;refine zg 5 rfl (Bh bC rfl rfl rfl ?_);refine zg 3 rfl ?_;obtain rfl:=oi bD;exact ab ae ah rfl
        ·refine zg 7 rfl (AX bz (fun bE bF=>?_) (fun bE bG=>?_))
         ·obtain⟨cD,bH,bI⟩:=bs bF;refine zg 3 rfl (Bh bH rfl rfl rfl ?_);refine zg 3 rfl ?_;obtain rfl:=oi bI;exact ab ae ah rfl
         ·refine zg 2 rfl ?_;obtain rfl:=oi bG;exact ab ae ah rfl
       ·refine Ex 55 bu (fun bJ bK=>?_) (fun bJ bL=>?_)
        ·refine zg 1 rfl (JL.fl 1 (aC.Ai aF) underlying97 Dg Eu ?_);refine BA underlying95 rfl rfl rfl (zg 2 rfl ?_);obtain rfl:=oi bK;exact aH Ap aG rfl
        ·refine zg 6 rfl ?_;obtain rfl:=oi bL;exact aH Ap aG rfl
    ·refine JL.block (CC ba (fun V=> []) (fun V=> [(2,iV p2),(10,pV Z 0),(12,iV V.1),(39,sV aA Y.2.1.2 aB),(40,iV (Y.2.1.2.length:Int)),(41,iV V.2)]) Ap aD ?_);rintro V cE ai aI bM ⟨cF,aj⟩ bN;have aJ:=aj;unfold L6 at aJ;refine zg 5 rfl (AX aJ (fun bO bP=>?_) (fun bO bQ=>?_))
     ·obtain⟨cG,bR,bS⟩:=bs bP;refine zg 5 rfl (Cj (a3.Ai (aa.Ab ai)) bR underlying95 Ca ?_);rintro cH cI _ ⟨_,_,rfl,rfl,⟨_,_,rfl,⟨cJ,cK,rfl,cM⟩,rfl⟩⟩ bT;refine Cd bT FA Ca rfl rfl (Cz aI Gx fun cN bU=>?_);refine BJ 0 bU Ca fun bV=>?_;refine C4 0 bV rfl fun cO bW bY bZ=>zg 3 rfl (JL.fl 2 bY underlying104 DZ Gv ?_);obtain⟨cP,b0,b1⟩:=bs bS;refine zg 1 rfl (BI (NC b0) rfl rfl MH bZ fun cQ b2 aK=>?_);obtain⟨aL,b3,b4⟩:=bs b1;refine JL.done (CB [] [(2,iV p2),(10,pV Z 0),(12,iV aL),(39,sV aA Y.2.1.2 aB),(40,iV (Y.2.1.2.length:Int)),(41,iV V.2)] (fun cR b5 b6=>?_) (fun aM=>?_))
      ·obtain⟨b7,b8,b9⟩:=bs b4;refine zg 2 rfl (Bh b8 rfl rfl rfl ?_);refine zg 2 rfl ?_;obtain rfl:=oi b9;exact bN (aL,b7) (((ai.Ab bW).Ab b2).Ab b5) b6 rfl aj
      ·refine BP b3 (fun ca cb=>?_) (fun ca cc=>?_)
       ·obtain⟨cT,cd,ce⟩:=bs cb;refine zg 2 rfl (Bh cd rfl rfl rfl ?_);refine zg 2 rfl ?_;obtain rfl:=oi ce;exact aM Ap aK rfl
       ·refine JL.skip ?_;obtain rfl:=oi cc;exact aM Ap aK rfl
     ·refine JL.exit rfl ?_;obtain rfl:=oi bQ;obtain rfl:=bM _ aj;exact bc ai aI rfl
end Pal
namespace Pal
open Go Go.Conc Go.Proofs
open Go.Proofs.Tryz
def f22(fuel:Nat):Option Bool:= (f71 fuel).bind fun ab=> (f51 fuel ab 4).bind fun U=> (f71 fuel).bind fun ae=> (f57 fuel ae 5).bind fun V=> (f71 fuel).bind fun ah=> (f72 fuel).bind fun ai=> (f43 fuel ah ai 2).bind fun W=> (f71 fuel).bind fun aj=> (f28 fuel aj ([])).bind fun Y=> (f71 fuel).bind fun ak=> (f73 fuel).bind fun al=> (f49 fuel ak al 1).bind fun Z=> (f71 fuel).bind fun am=> (f35 fuel am ([])).bind fun K=> (f71 fuel).bind fun an=> (f72 fuel).bind fun ao=> (f72 fuel).bind fun ap=> (f37 fuel an ao ap).bind fun aa=> (f71 fuel).bind fun aq=> (f73 fuel).bind fun ar=> (f30 fuel aq ar).bind fun O=> Option.bind (if U.2=0 then(some (decide (V.2=0))) else(some false)) fun au=> Option.bind (if au=true then(some (decide (W.2=0))) else(some false)) fun av=> Option.bind (if av=true then(some (decide (Y.2=0))) else(some false)) fun aw=> Option.bind (if aw=true then(some (decide (Z.2=0))) else(some false)) fun ay=> Option.bind (if ay=true then(some (decide (K.2.2=0))) else(some false)) fun az=> Option.bind (if az=true then(some (decide (aa.2=0))) else(some false)) fun aA=> Option.bind (if aA=true then(some (decide (O.2.2=0))) else(some false)) fun aB=> Option.bind (if aB=true then(some (decide (V.1=3))) else(some false)) fun aC=> Option.bind (if aC=true then(some (decide (Y.1=15))) else(some false)) fun aD=> Option.bind (if aD=true then(some (decide (Z.1=1))) else(some false)) fun aE=> Option.bind (if aE=true then(some (decide (K.1=0))) else(some false)) fun aF=> Option.bind (if aF=true then(some (decide (K.2.1=9))) else(some false)) fun aG=> Option.bind (if aG=true then(some aa.1) else(some false)) fun aH=> Option.bind (if aH=true then(some (decide (O.1=3))) else(some false)) fun aI=> Option.bind (if aI=true then((f32 fuel U.1 ([4,5]:List Int)).bind fun aJ=> some aJ) else(some false)) fun aK=> Option.bind (if aK=true then((f32 fuel W.1 ([2,3,4]:List Int)).bind fun aL=> some aL) else(some false)) fun aM=> Option.bind (if aM=true then((f32 fuel O.2.1 ([3,4]:List Int)).bind fun aN=> some aN) else(some false)) fun aO=> some aO
theorem Xk{E:LH}{fuel:Nat}{r:Bool}(aS:f22 fuel=some r):AR (Dt Tryz.prog) 22 [] E [] (fun w E' B'=>w= .bool r∧B'= []):=by
 refine Bg func22 fun Q fC cs H bD bE=>?_;unfold f22 at aS;obtain⟨fD,bF,bG⟩:=bs aS;refine zg 6 rfl (BM (HY bF) rfl rfl HF bD ?_);rintro _ fE _ bH ⟨fF,fG,fH,fI,rfl,rfl,bI,bJ⟩ bK;obtain⟨ab,bL,bM⟩:=bs bG;refine BM (WQ bI bJ bL) rfl rfl (A5 func51 rfl) bK ?_;rintro _ fJ _ bN ⟨ae,ah,rfl,rfl,bO⟩ bP;obtain⟨fK,bQ,bR⟩:=bs bM;refine zg 8 rfl (BM (HY bQ) rfl rfl HF bP ?_);rintro _ fL _ aT ⟨fM,fN,fO,fP,rfl,rfl,bS,bT⟩ bU;obtain⟨ak,bV,bW⟩:=bs bR;refine BI (W0 bS bT bV) rfl rfl (A5 func57 rfl) bU fun fQ aU bY=>?_;obtain⟨fR,bZ,b0⟩:=bs bW;refine zg 8 rfl (BM (HY bZ) rfl rfl HF bY ?_);rintro _ fS _ aV ⟨fT,fU,fW,fX,rfl,rfl,b1,b2⟩ b3;obtain⟨fY,b4,b5⟩:=bs b0;refine BM (NZ b4) rfl rfl MK b3 ?_;rintro _ fZ _ ap ⟨ga,gb,rfl,rfl,b6⟩ b7;obtain⟨V,b8,b9⟩:=bs b5;refine BM (NU (b1.Ai ap) (b2.Ai ap) b6 b8) rfl rfl ML b7 ?_;rintro _ gc _ aW ⟨Z,aa,rfl,rfl,ca⟩ cb;obtain⟨gd,cc,cd⟩:=bs b9;refine zg 8 rfl (BM (HY cc) rfl rfl HF cb ?_);rintro _ ge _ aH ⟨gf,gg,gh,gi,rfl,rfl,ce,cf⟩ cg;obtain⟨aj,ci,ck⟩:=bs cd;refine BI (N7 ce cf An.nil ci) rfl rfl MN cg fun gj aI cm=>?_;obtain⟨gk,cn,co⟩:=bs ck;refine zg 8 rfl (BM (HY cn) rfl rfl HF cm ?_);rintro _ gl _ aJ ⟨gm,gn,gp,gq,rfl,rfl,cp,cq⟩ cr;obtain⟨gr,ct,cu⟩:=bs co;refine BM (Rx ct) rfl rfl (A5 func73 rfl) cr ?_;rintro _ gt _ am ⟨gu,gv,rfl,rfl,cv⟩ cw;obtain⟨ai,cy,cz⟩:=bs cu;refine BI (NW (cp.Ai am) (cq.Ai am) cv cy) rfl rfl MO cw fun gw aK cA=>?_;obtain⟨gx,cB,cC⟩:=bs cz;refine zg 8 rfl (BM (HY cB) rfl rfl HF cA ?_);rintro _ gy _ aL ⟨gz,gA,gB,gC,rfl,rfl,cD,cE⟩ cF;obtain⟨O,cG,cH⟩:=bs cC;refine BI (Xg cD cE An.nil cG) rfl rfl (A5 func35 rfl) cF fun gD aM cI=>?_;obtain⟨gE,cJ,cK⟩:=bs cH;refine zg 10 rfl (BM (HY cJ) rfl rfl HF cI ?_);rintro _ gF _ aN ⟨gG,gH,gI,gJ,rfl,rfl,cM,cN⟩ cO;obtain⟨gK,cP,cQ⟩:=bs cK;refine BM (NZ cP) rfl rfl MK cO ?_;rintro _ gL _ an ⟨gM,gN,rfl,rfl,cR⟩ cT;obtain⟨gO,cV,cW⟩:=bs cQ;refine BM (NZ cV) rfl rfl MK cT ?_;rintro _ gP _ al ⟨gQ,gR,rfl,rfl,cX⟩ cY;obtain⟨U,cZ,c0⟩:=bs cW;refine BI (WY (cM.Ai (an.Ab al)) (cN.Ai (an.Ab al)) (cR.Ai al) cX cZ) rfl rfl (A5 func37 rfl) cY fun gS aO c1=>?_;obtain⟨gT,c2,c3⟩:=bs c0;refine zg 8 rfl (BM (HY c2) rfl rfl HF c1 ?_);rintro _ gU _ aP ⟨gV,gW,gX,gY,rfl,rfl,c4,c5⟩ c6;obtain⟨gZ,c7,c8⟩:=bs c3;refine BM (Rx c7) rfl rfl (A5 func73 rfl) c6 ?_;rintro _ g0 _ ao ⟨g1,g3,rfl,rfl,c9⟩ da;obtain⟨K,db,dc⟩:=bs c8;refine BM (W7 (c4.Ai ao) (c5.Ai ao) c9 db) rfl rfl (A5 func30 rfl) da ?_;rintro _ g4 _ aQ ⟨W,Y,rfl,rfl,dd⟩ aX;obtain⟨de,df,dg⟩:=bs dc;refine zg 13 rfl (C7 6 67 [] [(1,sV ae ab.1 ah),(3,iV ak.1),(5,sV Z V.1 aa),(6,iV V.2),(7,iV aj.1),(8,iV aj.2),(9,iV ai.1),(10,iV ai.2),(11,iV O.1),(12,iV O.2.1),(13,iV O.2.2),(14,.bool U.1),(15,iV U.2),(16,iV K.1),(17,sV W K.2.1 Y),(18,iV K.2.2),(71,.bool de)] (fun g5 aq aY=>?_) (fun aZ=>?_))
 ·obtain⟨dh,di,dj⟩:=bs dg;refine zg 1 rfl (C7 10 63 [] [(1,sV ae ab.1 ah),(3,iV ak.1),(5,sV Z V.1 aa),(7,iV aj.1),(8,iV aj.2),(9,iV ai.1),(10,iV ai.2),(11,iV O.1),(12,iV O.2.1),(13,iV O.2.2),(14,.bool U.1),(15,iV U.2),(16,iV K.1),(17,sV W K.2.1 Y),(18,iV K.2.2),(75,.bool dh)] (fun g6 ar a0=>?_) (fun a1=>?_))
  ·obtain⟨dk,dl,dm⟩:=bs dj;refine zg 1 rfl (C7 14 59 [] [(1,sV ae ab.1 ah),(3,iV ak.1),(5,sV Z V.1 aa),(7,iV aj.1),(9,iV ai.1),(10,iV ai.2),(11,iV O.1),(12,iV O.2.1),(13,iV O.2.2),(14,.bool U.1),(15,iV U.2),(16,iV K.1),(17,sV W K.2.1 Y),(18,iV K.2.2),(79,.bool dk)] (fun g7 au a2=>?_) (fun a3=>?_))
   ·obtain⟨dn,dp,dq⟩:=bs dm;refine zg 1 rfl (C7 18 55 [] [(1,sV ae ab.1 ah),(3,iV ak.1),(5,sV Z V.1 aa),(7,iV aj.1),(9,iV ai.1),(11,iV O.1),(12,iV O.2.1),(13,iV O.2.2),(14,.bool U.1),(15,iV U.2),(16,iV K.1),(17,sV W K.2.1 Y),(18,iV K.2.2),(83,.bool dn)] (fun g8 av a4=>?_) (fun a5=>?_))
    ·obtain⟨dr,dt,du⟩:=bs dq;refine zg 1 rfl (C7 22 51 [] [(1,sV ae ab.1 ah),(3,iV ak.1),(5,sV Z V.1 aa),(7,iV aj.1),(9,iV ai.1),(11,iV O.1),(12,iV O.2.1),(14,.bool U.1),(15,iV U.2),(16,iV K.1),(17,sV W K.2.1 Y),(18,iV K.2.2),(87,.bool dr)] (fun g9 aw a6=>?_) (fun a7=>?_))
     ·obtain⟨dv,dw,dx⟩:=bs du;refine zg 1 rfl (C7 26 47 [] [(1,sV ae ab.1 ah),(3,iV ak.1),(5,sV Z V.1 aa),(7,iV aj.1),(9,iV ai.1),(11,iV O.1),(12,iV O.2.1),(14,.bool U.1),(16,iV K.1),(17,sV W K.2.1 Y),(18,iV K.2.2),(91,.bool dv)] (fun ha ay a8=>?_) (fun a9=>?_))
      ·obtain⟨dy,dz,dA⟩:=bs dx;refine zg 1 rfl (C7 30 43 [] [(1,sV ae ab.1 ah),(3,iV ak.1),(5,sV Z V.1 aa),(7,iV aj.1),(9,iV ai.1),(11,iV O.1),(12,iV O.2.1),(14,.bool U.1),(16,iV K.1),(17,sV W K.2.1 Y),(95,.bool dy)] (fun hb az ba=>?_) (fun bb=>?_))
       ·obtain⟨dB,dC,dD⟩:=bs dA;refine zg 1 rfl (C7 34 39 [] [(1,sV ae ab.1 ah),(5,sV Z V.1 aa),(7,iV aj.1),(9,iV ai.1),(11,iV O.1),(12,iV O.2.1),(14,.bool U.1),(16,iV K.1),(17,sV W K.2.1 Y),(99,.bool dB)] (fun hc aA bc=>?_) (fun bd=>?_))
        ·obtain⟨dE,dF,dG⟩:=bs dD;refine zg 1 rfl (C7 38 35 [] [(1,sV ae ab.1 ah),(5,sV Z V.1 aa),(9,iV ai.1),(11,iV O.1),(12,iV O.2.1),(14,.bool U.1),(16,iV K.1),(17,sV W K.2.1 Y),(103,.bool dE)] (fun hd aB be=>?_) (fun bf=>?_))
         ·obtain⟨dH,dI,dJ⟩:=bs dG;refine zg 1 rfl (C7 42 31 [] [(1,sV ae ab.1 ah),(5,sV Z V.1 aa),(11,iV O.1),(12,iV O.2.1),(14,.bool U.1),(16,iV K.1),(17,sV W K.2.1 Y),(107,.bool dH)] (fun he aC bg=>?_) (fun bh=>?_))
          ·obtain⟨dK,dL,dM⟩:=bs dJ;refine zg 1 rfl (C7 46 27 [] [(1,sV ae ab.1 ah),(5,sV Z V.1 aa),(12,iV O.2.1),(14,.bool U.1),(16,iV K.1),(17,sV W K.2.1 Y),(111,.bool dK)] (fun hf aD bi=>?_) (fun bj=>?_))
           ·obtain⟨dN,dO,dP⟩:=bs dM;refine zg 1 rfl (C7 50 23 [] [(1,sV ae ab.1 ah),(5,sV Z V.1 aa),(14,.bool U.1),(16,iV K.1),(17,sV W K.2.1 Y),(115,.bool dN)] (fun hg aE bl=>?_) (fun bm=>?_))
            ·obtain⟨dQ,dR,dS⟩:=bs dP;refine zg 1 rfl (C7 53 20 [] [(1,sV ae ab.1 ah),(5,sV Z V.1 aa),(16,iV K.1),(17,sV W K.2.1 Y),(118,.bool dQ)] (fun hj aF bn=>?_) (fun bo=>?_))
             ·obtain⟨dT,dU,dV⟩:=bs dS;refine zg 1 rfl (C7 57 16 [] [(1,sV ae ab.1 ah),(5,sV Z V.1 aa),(17,sV W K.2.1 Y),(122,.bool dT)] (fun hk aG bp=>?_) (fun bq=>?_))
              ·obtain⟨dW,dX,dY⟩:=bs dV;refine zg 1 rfl (C7 62 11 [] [(5,sV Z V.1 aa),(17,sV W K.2.1 Y),(127,.bool dW)] (fun hl aR br=>?_) (fun bu=>?_))
               ·obtain⟨dZ,ea,eb⟩:=bs dY;refine zg 1 rfl (C7 67 6 [] [(17,sV W K.2.1 Y),(132,.bool dZ)] (fun hm bv bw=>?_) (fun bx=>?_))
                ·obtain⟨ec,ed,ee⟩:=bs eb;refine zg 1 rfl (C7 72 1 [] [(137,.bool ec)] (fun hn ef eg=>?_) (fun bz=>?_))
                 ·refine zg 2 rfl ?_;obtain rfl:=oi ee;exact AP func22 rfl rfl (bE (((((((((((((((((((((((((((((((((((((bH.Ab bN).Ab aT).Ab aU).Ab aV).Ab ap).Ab aW).Ab aH).Ab aI).Ab aJ).Ab am).Ab aK).Ab aL).Ab aM).Ab aN).Ab an).Ab al).Ab aO).Ab aP).Ab ao).Ab aQ).Ab aq).Ab ar).Ab au).Ab av).Ab aw).Ab ay).Ab az).Ab aA).Ab aB).Ab aC).Ab aD).Ab aE).Ab aF).Ab aG).Ab aR).Ab bv).Ab ef) rfl ⟨rfl,rfl⟩ eg)
                 ·refine Dz 133 ed (fun eh ei=>?_) (fun eh ej=>?_)
                  ·refine zg 1 rfl (JS.lit (pp:=rI) [iV 3,iV 4] [3,4] rfl rfl rfl underlying28 AU Cp (by decide) rfl rfl rfl ⟨rfl,rfl,trivial⟩ bw fun ho hp ek el=>?_);refine Cf 0 ek el rfl fun hq bA em en=>?_;obtain⟨hr,eo,ep⟩:=bs ei;refine BI (Mo (dd.Ai ((((((((((((((((aq.Ab ar).Ab au).Ab av).Ab aw).Ab ay).Ab az).Ab aA).Ab aB).Ab aC).Ab aD).Ab aE).Ab aF).Ab aG).Ab aR).Ab bv).Ab bA)) em eo) rfl rfl K7 en fun hu eq er=>zg 1 rfl ?_;obtain rfl:=oi ep;exact bz (bA.Ab eq) er rfl
                  ·refine zg 4 rfl ?_;obtain rfl:=oi ej;exact bz Ap bw rfl
                ·refine Dz 128 ea (fun et eu=>?_) (fun et ew=>?_)
                 ·refine zg 1 rfl (JS.lit (pp:=rI) [iV 2,iV 3,iV 4] [2,3,4] rfl rfl rfl underlying28 AU Cp (by decide) rfl rfl rfl ⟨rfl,rfl,rfl,trivial⟩ br fun hv hw ex ey=>?_);refine Cf 0 ex ey rfl fun hx bB ez eA=>?_;obtain⟨hy,eB,eC⟩:=bs eu;refine BI (Mo (ca.Ai (((((((((((((((((((((((((((((aH.Ab aI).Ab aJ).Ab am).Ab aK).Ab aL).Ab aM).Ab aN).Ab an).Ab al).Ab aO).Ab aP).Ab ao).Ab aQ).Ab aq).Ab ar).Ab au).Ab av).Ab aw).Ab ay).Ab az).Ab aA).Ab aB).Ab aC).Ab aD).Ab aE).Ab aF).Ab aG).Ab aR).Ab bB)) ez eB) rfl rfl K7 eA fun hz eD eE=>zg 1 rfl ?_;obtain rfl:=oi eC;exact bx (bB.Ab eD) eE rfl
                 ·refine zg 4 rfl ?_;obtain rfl:=oi ew;exact bx Ap br rfl
               ·refine Dz 123 dX (fun eF eG=>?_) (fun eF eH=>?_)
                ·refine zg 1 rfl (JS.lit (pp:=rI) [iV 4,iV 5] [4,5] rfl rfl rfl underlying28 AU Cp (by decide) rfl rfl rfl ⟨rfl,rfl,trivial⟩ bp fun hA hB eI eJ=>?_);refine Cf 0 eI eJ rfl fun hC bC eK eL=>?_;obtain⟨hD,eM,eN⟩:=bs eG;refine BI (Mo (bO.Ai (((((((((((((((((((((((((((((((((aT.Ab aU).Ab aV).Ab ap).Ab aW).Ab aH).Ab aI).Ab aJ).Ab am).Ab aK).Ab aL).Ab aM).Ab aN).Ab an).Ab al).Ab aO).Ab aP).Ab ao).Ab aQ).Ab aq).Ab ar).Ab au).Ab av).Ab aw).Ab ay).Ab az).Ab aA).Ab aB).Ab aC).Ab aD).Ab aE).Ab aF).Ab aG).Ab bC)) eK eM) rfl rfl K7 eL fun hE eO eP=>zg 1 rfl ?_;obtain rfl:=oi eN;exact bu (bC.Ab eO) eP rfl
                ·refine zg 4 rfl ?_;obtain rfl:=oi eH;exact bu Ap bp rfl
              ·refine Dz 119 dU (fun eQ eR=>?_) (fun eQ eS=>?_)
               ·refine zg 3 rfl ?_;obtain rfl:=oi eR;exact bq Ap bn rfl
               ·refine zg 3 rfl ?_;obtain rfl:=oi eS;exact bq Ap bn rfl
             ·refine Dz 116 dR (fun eT eU=>?_) (fun eT eV=>?_)
              ·refine zg 2 rfl ?_;obtain rfl:=oi eU;exact bo Ap bl rfl
              ·refine zg 2 rfl ?_;obtain rfl:=oi eV;exact bo Ap bl rfl
            ·refine Dz 112 dO (fun eW eX=>?_) (fun eW eY=>?_)
             ·refine zg 3 rfl ?_;obtain rfl:=oi eX;exact bm Ap bi rfl
             ·refine zg 3 rfl ?_;obtain rfl:=oi eY;exact bm Ap bi rfl
           ·refine Dz 108 dL (fun eZ e0=>?_) (fun eZ e1=>?_)
            ·refine zg 3 rfl ?_;obtain rfl:=oi e0;exact bj Ap bg rfl
            ·refine zg 3 rfl ?_;obtain rfl:=oi e1;exact bj Ap bg rfl
          ·refine Dz 104 dI (fun e3 e4=>?_) (fun e3 e5=>?_)
           ·refine zg 3 rfl ?_;obtain rfl:=oi e4;exact bh Ap be rfl
           ·refine zg 3 rfl ?_;obtain rfl:=oi e5;exact bh Ap be rfl
         ·refine Dz 100 dF (fun e6 e7=>?_) (fun e6 e8=>?_)
          ·refine zg 3 rfl ?_;obtain rfl:=oi e7;exact bf Ap bc rfl
          ·refine zg 3 rfl ?_;obtain rfl:=oi e8;exact bf Ap bc rfl
        ·refine Dz 96 dC (fun e9 fa=>?_) (fun e9 fb=>?_)
         ·refine zg 3 rfl ?_;obtain rfl:=oi fa;exact bd Ap ba rfl
         ·refine zg 3 rfl ?_;obtain rfl:=oi fb;exact bd Ap ba rfl
       ·refine Dz 92 dz (fun fc fd=>?_) (fun fc fe=>?_)
        ·refine zg 3 rfl ?_;obtain rfl:=oi fd;exact bb Ap a8 rfl
        ·refine zg 3 rfl ?_;obtain rfl:=oi fe;exact bb Ap a8 rfl
      ·refine Dz 88 dw (fun ff fg=>?_) (fun ff fh=>?_)
       ·refine zg 3 rfl ?_;obtain rfl:=oi fg;exact a9 Ap a6 rfl
       ·refine zg 3 rfl ?_;obtain rfl:=oi fh;exact a9 Ap a6 rfl
     ·refine Dz 84 dt (fun fj fk=>?_) (fun fj fm=>?_)
      ·refine zg 3 rfl ?_;obtain rfl:=oi fk;exact a7 Ap a4 rfl
      ·refine zg 3 rfl ?_;obtain rfl:=oi fm;exact a7 Ap a4 rfl
    ·refine Dz 80 dp (fun fo fp=>?_) (fun fo fq=>?_)
     ·refine zg 3 rfl ?_;obtain rfl:=oi fp;exact a5 Ap a2 rfl
     ·refine zg 3 rfl ?_;obtain rfl:=oi fq;exact a5 Ap a2 rfl
   ·refine Dz 76 dl (fun fs fu=>?_) (fun fs fv=>?_)
    ·refine zg 3 rfl ?_;obtain rfl:=oi fu;exact a3 Ap a0 rfl
    ·refine zg 3 rfl ?_;obtain rfl:=oi fv;exact a3 Ap a0 rfl
  ·refine Dz 72 di (fun fw fx=>?_) (fun fw fy=>?_)
   ·refine zg 3 rfl ?_;obtain rfl:=oi fx;exact a1 Ap aY rfl
   ·refine zg 3 rfl ?_;obtain rfl:=oi fy;exact a1 Ap aY rfl
 ·refine Ex 68 df (fun fz fA=>?_) (fun fz fB=>?_)
  ·refine zg 3 rfl ?_;obtain rfl:=oi fA;exact aZ Ap aX rfl
  ·refine zg 3 rfl ?_;obtain rfl:=oi fB;exact aZ Ap aX rfl
end Pal
namespace Pal
open Go Go.Conc Go.Proofs
open Go.Proofs.Tryz
variable {J:Judge Tryz.prog}{E:LH}
def LW(fuel:Nat)(V:Int×(BF))(W:(List (List Int))×(List (List Int))×(List Int)×Int×Nat×Int)(K:(List Int)×Int×Nat×(List Int)×Int):Option (Bj ((List Int)×Int×Nat×(List Int)×Int) ((List Int)×BF)):= Option.bind (if 0<K.2.2.2.2 then(some (decide (1<V.1))) else(some false)) fun Z=> if Z=true then((Au (W.2.2.2.2.2 - 1)).bind fun aa=> (f41 fuel (K.1,K.2.1,K.2.2.1) (max (0) aa)).bind fun Y=> (f97 fuel Y.2 6).bind fun O=> Option.bind (if O.1=true then((Au (V.1 - 1)).bind fun ab=> (f41 fuel O.2 ab).bind fun ae=> some ae) else(some (Y.1,O.2.1,O.2.2.1,O.2.2.2))) fun U=> Option.bind (if U.1≠W.2.2.2.2.2 then((f98 fuel K.2.2.2.1 U.1).bind fun ah=> some ah) else(some K.2.2.2.1)) fun ai=> (Au (K.2.2.2.2 - 1)).bind fun aj=> some (.more (U.2.1,U.2.2.1,U.2.2.2,ai,aj))) else(some (.done (K.2.2.2.1,K.1,K.2.1,K.2.2.1)))
def LY(fuel:Nat)(O:Int×(BF))(K:(List (List Int))×(List (List Int))×(List Int)×Int×Nat×Int):Option (Bj ((List (List Int))×(List (List Int))×(List Int)×Int×Nat×Int) ((List Int)×Int×Nat×BH)):= if K.2.2.2.2.2<O.1 then((Au (O.1 - 1)).bind fun ab=> (Au (K.2.2.2.2.2+1)).bind fun ae=> (f97 fuel (K.2.2.1,K.2.2.2.1,K.2.2.2.2.1) 3).bind fun U=> Option.bind (if U.1=true then((Au (O.1 - 1)).bind fun aj=> (f96 fuel U.2 K.2.2.2.2.2 aj).bind fun W=> (f98 fuel ([min ab ae]:List Int) W.1).bind fun ak=> some (ak,W.2.1,W.2.2.1,W.2.2.2)) else(some (([min ab ae]:List Int),U.2.1,U.2.2.1,U.2.2.2))) fun ah=> (f97 fuel ah.2 8).bind fun V=> Option.bind (if V.1=true then((Au (O.1 - 1)).bind fun al=> (f41 fuel V.2 al).bind fun Y=> some (([Y.1]:List Int),Y.2.1,Y.2.2.1,Y.2.2.2)) else(some (ah.1,V.2.1,V.2.2.1,V.2.2.2))) fun ai=> (f99 fuel ai.2 ([0,1,1,2]:List Int)).bind fun Z=> Option.bind (iter (LW fuel O K) fuel (Z.2.1,Z.2.2.1,Z.2.2.2,[],Z.1)) fun aa=> (DC K.1 ([ai.1]:List (List Int))).bind fun am=> (DC K.2.1 ([aa.1]:List (List Int))).bind fun an=> (Au (K.2.2.2.2.2+1)).bind fun ao=> some (.more (am,an,aa.2.1,aa.2.2.1,aa.2.2.2,ao))) else(some (.done (K.2.2.1,K.2.2.2.1,K.2.2.2.2.1,K.1,K.2.1)))
def f39(fuel:Nat)(p0:BF)(p1:Int):Option ((BH)×(BF)):= (f96 fuel p0 1 p1).bind fun K=> Option.bind (iter (LY fuel K) fuel ([],[],K.2.1,K.2.2.1,K.2.2.2,0)) fun O=> some (O.2.2.2,(O.1,O.2.1,O.2.2.1))
theorem Xf{bk:Nat}{bK:Ao}{c2:Nat}{p0:BF}{p1:Int}(cT:An rI E bK c2 p0.1){fuel:Nat}{r:(BH)×(BF)}(bL:f39 fuel p0 p1=some r):AR J 39 [pV bk 0,iV p1] E [(bk,.cells #[sV bK p0.1 c2,iV p0.2.1,.int .u64 ((p0.2.2:Nat):Int)] 92 (0,0))] (fun w E' B'=>∃(bM:Ao) (bN:Nat) (bO:Ao) (bP:Nat) (bQ:Ao) (bR:Nat),w= .agg #[sV bM r.1.1 bN,sV bO r.1.2 bP]∧B'= [(bk,.cells #[sV bQ r.2.1 bR,iV r.2.2.1,.int .u64 ((r.2.2.2:Nat):Int)] 92 (0,0))]∧An (rL rI) E' bM bN r.1.1∧An (rL rI) E' bO bP r.1.2∧An rI E' bQ bR r.2.1):=by
 refine Bg func39 fun Q hd cs H cV cW=>?_;unfold f39 at bL;refine zg 2 rfl (Cz cV EP fun U cX=>?_);refine zg 3 rfl (Cz cX EP fun O cY=>?_);obtain⟨am,cZ,c0⟩:=bs bL;refine zg 5 rfl (BS 0 (N4 cT cZ) rfl rfl MM cY rfl ?_);rintro _ ba _ c1 ⟨bS,bT,rfl,rfl,c3⟩ c4;refine BR (S':= [[(bk,.cells #[sV bS am.2.1 bT,iV am.2.2.1,.int .u64 ((am.2.2.2:Nat):Int)] 92 (0,0))],[(U,.cells #[nS,nS] 24 (0,0))],[(O,.cells #[nS,nS] 24 (0,0))]]) rfl c4 fun c5=>?_;obtain⟨W,c6,c7⟩:=bs c0;refine zg 7 rfl (Bu (fun L s=>∃(aP:LH) (aQ:Ao) (aR:Nat) (aq:Ao) (ar:Nat) (bb:Seg) (au:Ao) (av:Nat) (bc:Seg),Jn ba H aP [bX bk #[sV aQ W.1 aR,iV W.2.1,.int .u64 ((W.2.2.1:Nat):Int)] 92,bX U #[nS,nS] 24,bX O #[sV aq W.2.2.2.1 ar,sV au W.2.2.2.2 av] 24,bb,bc] [(4,pV U 0),(5,pV O 0)] L s (An rI aP aQ aR W.1∧OL 28 (rL rI) aP aq ar bb W.2.2.2.1∧OL 28 (rL rI) aP au av bc W.2.2.2.2)) ?_ ?_)
 ·rintro _ _ ⟨aP,aQ,aR,aq,ar,bb,au,av,bc,rfl,rfl,c8,bU,c9,da,db⟩;refine zg 2 rfl (AA rfl (fun ρ h=>FH (vs:= [sV aq W.2.2.2.1 ar,sV au W.2.2.2.2 av]) Cv Cb (h _ _ rfl) (FV (off:=0) 2 bU rfl rfl)) ?_);refine BJ 1 bU Cb fun dc=>?_;refine JL.done (Cf 3 da dc rfl fun he bd dd de=>?_);refine Cf 4 (db.Ai bd) de rfl fun hf be df dg=>BR (S':= [[(bk,.cells #[sV aQ W.1 aR,iV W.2.1,.int .u64 ((W.2.2.1:Nat):Int)] 92 (0,0))],[(U,.cells #[sV aq W.2.2.2.1 ar,sV au W.2.2.2.2 av] 24 (0,0))],[(O,.cells #[sV aq W.2.2.2.1 ar,sV au W.2.2.2.2 av] 24 (0,0))],[],[]]) rfl dg fun dh=>JS.drop 2 dh rfl fun bV=>?_;obtain rfl:=oi c7;refine JL.ret (v:= .agg #[sV aq W.2.2.2.1 ar,sV au W.2.2.2.2 av]) rfl rfl (BY.list func39 rfl (vs:= [.agg #[sV aq W.2.2.2.1 ar,sV au W.2.2.2.2 av]]) ⟨⟨_,rfl,Ld.many (vs:= [sV aq W.2.2.2.1 ar,sV au W.2.2.2.2 av]) Cv Cb (FV (off:=0) 1 bV rfl rfl)⟩,trivial⟩) (Io 1 bV rfl fun di=>?_);exact cW (((c1.Ab c8).Ab bd).Ab be) rfl ⟨aq,ar,au,av,aQ,aR,rfl,rfl,(dd.Ai be),df,(c9.Ai (bd.Ab be))⟩ di
 ·intro dj;refine JL.block (CM c6 (fun L s K=>∃(aJ:LH) (Y:Ao) (Z:Nat) (ae:Seg) (aa:Ao) (ab:Nat) (ah:Seg) (aY:Ao) (aZ:Nat),Jn ba H aJ [bX bk #[sV aY K.2.2.1 aZ,iV K.2.2.2.1,.int .u64 ((K.2.2.2.2.1:Nat):Int)] 92,bX U #[nS,nS] 24,bX O #[sV Y K.1 Z,sV aa K.2.1 ab] 24,ae,ah] [(0,pV bk 0),(4,pV U 0),(5,pV O 0),(6,iV am.1),(7,iV K.2.2.2.2.2)] L s (OL 28 (rL rI) aJ Y Z ae K.1∧OL 28 (rL rI) aJ aa ab ah K.2.1∧An rI aJ aY aZ K.2.2.1)) ⟨ba,none,0,[],none,0,[],bS,bT,rfl,rfl,Ap,c5,OL.nil,OL.nil,c3⟩ ?_);rintro _ _ K ⟨aJ,Y,Z,ae,aa,ab,ah,aY,aZ,rfl,rfl,a0,bW,a1,a2,bY⟩ dk ⟨hg,aS⟩ bf;have bZ:=aS;unfold LY at bZ;refine zg 7 rfl (AX bZ (fun dl dm=>?_) (fun dl dn=>?_))
  ·obtain⟨bg,dp,dq⟩:=bs dm;refine zg 6 rfl (BX dp rfl rfl rfl ?_);obtain⟨bh,dr,dt⟩:=bs dq;refine zg 1 rfl (Bh dr rfl rfl rfl ?_);refine AA (v:=iV (min bg bh)) rfl (fun ρ h=>Yl.min2 (h _ _ rfl) (h _ _ rfl)) (JS.lit (pp:=rI) [iV (min bg bh)] [min bg bh] rfl rfl rfl underlying28 AU Cp (by decide) rfl rfl rfl ⟨rfl,trivial⟩ bW fun du dv b0 dw=>?_);obtain⟨bi,dx,dy⟩:=bs dt;refine zg 6 rfl (BS 0 (Kj bY dx) rfl rfl Jy dw rfl ?_);rintro _ dz _ an ⟨b1,b2,rfl,rfl,b3⟩ b4;obtain⟨aK,dA,dB⟩:=bs dy;refine JL.done (Bu (fun L s=>∃(a3:LH) (a4:Ao) (a5:Nat) (bj:Ao) (bl:Nat),Jn dz H a3 [bX bk #[sV bj aK.2.1 bl,iV aK.2.2.1,.int .u64 ((aK.2.2.2:Nat):Int)] 92,bX U #[nS,nS] 24,bX O #[sV Y K.1 Z,sV aa K.2.1 ab] 24,ae,ah] [(0,pV bk 0),(4,pV U 0),(5,pV O 0),(6,iV am.1),(7,iV K.2.2.2.2.2),(8,sV a4 aK.1 a5)] L s (An rI a3 a4 a5 aK.1∧An rI a3 bj bl aK.2.1)) ?_ ?_)
   ·rintro _ _ ⟨a3,a4,a5,bj,bl,rfl,rfl,aA,dC,dD,dE⟩;obtain⟨bm,dF,dG⟩:=bs dB;refine zg 4 rfl (BS 0 (Kj dE dF) rfl rfl Jy dC rfl ?_);rintro _ b5 _ aw ⟨b6,b7,rfl,rfl,b8⟩ dH;refine BR (S':= [[(bk,.cells #[sV b6 bm.2.1 b7,iV bm.2.2.1,.int .u64 ((bm.2.2.2:Nat):Int)] 92 (0,0))],[(U,.cells #[nS,nS] 24 (0,0))],[(O,.cells #[sV Y K.1 Z,sV aa K.2.1 ab] 24 (0,0))],ae,ah]) rfl dH fun b9=>?_;obtain⟨aj,dI,dJ⟩:=bs dG;refine JL.done (Bu (fun L s=>∃(a6:LH) (ay:Ao) (az:Nat) (bn:Ao) (bo:Nat),Jn b5 H a6 [bX bk #[sV bn aj.2.1 bo,iV aj.2.2.1,.int .u64 ((aj.2.2.2:Nat):Int)] 92,bX U #[nS,nS] 24,bX O #[sV Y K.1 Z,sV aa K.2.1 ab] 24,ae,ah] [(0,pV bk 0),(4,pV U 0),(5,pV O 0),(6,iV am.1),(7,iV K.2.2.2.2.2),(8,sV ay aj.1 az)] L s (An rI a6 ay az aj.1∧An rI a6 bn bo aj.2.1)) ?_ ?_)
    ·rintro _ _ ⟨a6,ay,az,bn,bo,rfl,rfl,aB,dK,ca,dL⟩;refine zg 8 rfl (JS.lit (pp:=rI) [iV 0,iV 1,iV 1,iV 2] [0,1,1,2] rfl rfl rfl underlying28 AU Cp (by decide) rfl rfl rfl ⟨rfl,rfl,rfl,rfl,trivial⟩ dK fun hj hk dM dN=>?_);refine Cf 5 dM dN rfl fun hl al dO dP=>?_;obtain⟨bp,dQ,dR⟩:=bs dJ;refine BS 0 (Mm (dL.Ai al) dO dQ) rfl rfl K8 dP rfl ?_;rintro _ bq _ ao ⟨cb,cc,rfl,rfl,dS⟩ dT;refine BR (S':= [[(bk,.cells #[sV cb bp.2.1 cc,iV bp.2.2.1,.int .u64 ((bp.2.2.2:Nat):Int)] 92 (0,0))],[(U,.cells #[nS,nS] 24 (0,0))],[(O,.cells #[sV Y K.1 Z,sV aa K.2.1 ab] 24 (0,0))],ae,ah,[]]) rfl dT fun dU=>?_;obtain⟨V,dV,dW⟩:=bs dR;refine zg 2 rfl (Bu (fun L s=>∃(aE:LH) (aL:Ao) (aM:Nat) (aC:Ao) (aD:Nat),Jn bq H aE [bX bk #[sV aC V.2.1 aD,iV V.2.2.1,.int .u64 ((V.2.2.2:Nat):Int)] 92,bX U #[nS,nS] 24,bX O #[sV Y K.1 Z,sV aa K.2.1 ab] 24,ae,ah] [(0,pV bk 0),(4,pV U 0),(5,pV O 0),(6,iV am.1),(7,iV K.2.2.2.2.2),(8,sV ay aj.1 az),(9,sV aL V.1 aM)] L s (An rI aE aL aM V.1∧An rI aE aC aD V.2.1)) ?_ ?_)
     ·rintro _ _ ⟨aE,aL,aM,aC,aD,rfl,rfl,ap,aT,br,bu⟩;refine CY 11 [O] ⟨⟨2,_,rfl⟩,trivial⟩ aT fun ht=>Ce 0 ht underlying24 Cq rfl rfl rfl rfl (D2 1 ht 0 2 aT Da ?_);refine Cm 2 ht rfl rfl (Ce 5 ht underlying24 Cq rfl rfl rfl rfl ?_);refine D2 6 ht 1 2 aT Da ?_;refine Cm 7 ht rfl rfl ?_;obtain⟨bv,bw,dX⟩:=bs dW;obtain⟨bx,bz,bA⟩:=bs dX;refine Ix (i:=3) (j:=8) rfl (by decide+kernel) ?_ ?_
      ·refine Take.lit (pp:=(rL rI)) (jp:=2) [sV ay aj.1 az] ([aj.1]:List (List Int)) aT rfl rfl rfl rfl underlying22 BL DL (by decide) rfl rfl rfl ⟨⟨_,_,rfl,(ca.Ai ((al.Ab ao).Ab ap))⟩,trivial⟩ fun hm cd ce cf=>Ix (i:=4) (j:=8) rfl (by decide+kernel) ?_ ?_
       ·refine Take.app (pp:=(rL rI)) (jp:=2) 3 5 cf rfl bw rfl rfl rfl rfl rfl rfl rfl underlying22 underlying22 BL (Cs type28) DL rfl (by decide) (by decide) (a1.Ai ((((((an.Ab aA).Ab aw).Ab aB).Ab al).Ab ao).Ab ap)) ce rfl rfl rfl rfl fun dY dZ hn cg ea eb=>Ce 10 ht underlying24 Cq rfl rfl rfl rfl (JG.one (i:=8) rfl (by decide+kernel) ?_);refine Take.lit (pp:=(rL rI)) (jp:=2) [sV aL V.1 aM] ([V.1]:List (List Int)) eb rfl rfl rfl rfl underlying22 BL DL (by decide) rfl rfl rfl ⟨⟨_,_,rfl,br⟩,trivial⟩ fun ho ec ed ee=>JG.one (i:=9) rfl (by decide+kernel) (Take.app (pp:=(rL rI)) (jp:=2) 4 6 ee rfl bz rfl rfl rfl rfl rfl rfl rfl underlying22 underlying22 BL (Cs type28) DL rfl (by decide) (by decide) (a2.Ai ((((((an.Ab aA).Ab aw).Ab aB).Ab al).Ab ao).Ab ap)) ed rfl rfl rfl rfl fun ef eg hp ci eh ei=>?_);refine Cy [11,12,13] (ET 3 rfl ei fun ej=>?_);refine JS.drop 3 ej rfl fun ek=>ET 4 rfl ek fun el=>JS.drop 4 el rfl fun em=>BR (S':= [[(bk,.cells #[sV aC V.2.1 aD,iV V.2.2.1,.int .u64 ((V.2.2.2:Nat):Int)] 92 (0,0))],[(U,.cells #[nS,nS] 24 (0,0))],[(O,.cells #[sV Y K.1 Z,sV aa K.2.1 ab] 24 (0,0))],[],[],cd,ec,cg,ci]) rfl em fun en=>BJ 2 en Cq fun eo=>?_;refine Bz underlying24 Cq rfl rfl rfl (BJ 2 eo Cq fun ep=>?_);obtain⟨eq,er,et⟩:=bs bA;refine zg 4 rfl (Bh er rfl rfl rfl ?_);refine zg 2 rfl (JS.drop 5 ep rfl fun eu=>?_);refine JS.drop 6 eu rfl fun ew=>?_;obtain rfl:=oi et;exact Az (bf _ _ (bv,bx,V.2.1,V.2.2.1,V.2.2.2,eq) ⟨aE,dY,dZ,cg,ef,eg,ci,aC,aD,rfl,rfl,(((((((a0.Ab an).Ab aA).Ab aw).Ab aB).Ab al).Ab ao).Ab ap),ew,ea,eh,bu⟩ aS) rfl
       ·refine Take.lit (pp:=(rL rI)) (jp:=2) [sV aL V.1 aM] ([V.1]:List (List Int)) cf rfl rfl rfl rfl underlying22 BL DL (by decide) rfl rfl rfl ⟨⟨_,_,rfl,br⟩,trivial⟩ fun hq ex ey ez=>JG.one (i:=4) rfl (by decide+kernel) (Take.app (pp:=(rL rI)) (jp:=2) 3 5 ez rfl bw rfl rfl rfl rfl rfl rfl rfl underlying22 underlying22 BL (Cs type28) DL rfl (by decide) (by decide) (a1.Ai ((((((an.Ab aA).Ab aw).Ab aB).Ab al).Ab ao).Ab ap)) ce rfl rfl rfl rfl fun eA eB hr ck eC eD=>?_);refine Ce 10 ht underlying24 Cq rfl rfl rfl rfl (JG.one (i:=9) rfl (by decide+kernel) ?_);refine Take.app (pp:=(rL rI)) (jp:=2) 4 6 eD rfl bz rfl rfl rfl rfl rfl rfl rfl underlying22 underlying22 BL (Cs type28) DL rfl (by decide) (by decide) (a2.Ai ((((((an.Ab aA).Ab aw).Ab aB).Ab al).Ab ao).Ab ap)) ey rfl rfl rfl rfl fun eE eF hu cm eG eH=>Cy [11,12,13] (ET 3 rfl eH fun eI=>?_);refine JS.drop 3 eI rfl fun eJ=>ET 4 rfl eJ fun eK=>JS.drop 4 eK rfl fun eL=>BR (S':= [[(bk,.cells #[sV aC V.2.1 aD,iV V.2.2.1,.int .u64 ((V.2.2.2:Nat):Int)] 92 (0,0))],[(U,.cells #[nS,nS] 24 (0,0))],[(O,.cells #[sV Y K.1 Z,sV aa K.2.1 ab] 24 (0,0))],[],[],cd,ex,ck,cm]) rfl eL fun eM=>BJ 2 eM Cq fun eN=>?_;refine Bz underlying24 Cq rfl rfl rfl (BJ 2 eN Cq fun eO=>?_);obtain⟨eP,eQ,eR⟩:=bs bA;refine zg 4 rfl (Bh eQ rfl rfl rfl ?_);refine zg 2 rfl (JS.drop 5 eO rfl fun eS=>?_);refine JS.drop 6 eS rfl fun eT=>?_;obtain rfl:=oi eR;exact Az (bf _ _ (bv,bx,V.2.1,V.2.2.1,V.2.2.2,eP) ⟨aE,eA,eB,ck,eE,eF,cm,aC,aD,rfl,rfl,(((((((a0.Ab an).Ab aA).Ab aw).Ab aB).Ab al).Ab ao).Ab ap),eT,eC,eG,bu⟩ aS) rfl
      ·refine Take.lit (pp:=(rL rI)) (jp:=2) [sV aL V.1 aM] ([V.1]:List (List Int)) aT rfl rfl rfl rfl underlying22 BL DL (by decide) rfl rfl rfl ⟨⟨_,_,rfl,br⟩,trivial⟩ fun hv eU eV eW=>JG.one (i:=3) rfl (by decide+kernel) (Take.lit (pp:=(rL rI)) (jp:=2) [sV ay aj.1 az] ([aj.1]:List (List Int)) eW rfl rfl rfl rfl underlying22 BL DL (by decide) rfl rfl rfl ⟨⟨_,_,rfl,(ca.Ai ((al.Ab ao).Ab ap))⟩,trivial⟩ fun hw eX eY eZ=>?_);refine JG.one (i:=4) rfl (by decide+kernel) (Take.app (pp:=(rL rI)) (jp:=2) 3 6 eZ rfl bw rfl rfl rfl rfl rfl rfl rfl underlying22 underlying22 BL (Cs type28) DL rfl (by decide) (by decide) (a1.Ai ((((((an.Ab aA).Ab aw).Ab aB).Ab al).Ab ao).Ab ap)) eY rfl rfl rfl rfl fun e0 e1 hx cn e3 e4=>?_);refine Ce 10 ht underlying24 Cq rfl rfl rfl rfl (JG.one (i:=9) rfl (by decide+kernel) ?_);refine Take.app (pp:=(rL rI)) (jp:=2) 4 5 e4 rfl bz rfl rfl rfl rfl rfl rfl rfl underlying22 underlying22 BL (Cs type28) DL rfl (by decide) (by decide) (a2.Ai ((((((an.Ab aA).Ab aw).Ab aB).Ab al).Ab ao).Ab ap)) eV rfl rfl rfl rfl fun e5 e6 hy co e7 e8=>Cy [11,12,13] (ET 3 rfl e8 fun e9=>?_);refine JS.drop 3 e9 rfl fun fa=>ET 4 rfl fa fun fb=>JS.drop 4 fb rfl fun fc=>BR (S':= [[(bk,.cells #[sV aC V.2.1 aD,iV V.2.2.1,.int .u64 ((V.2.2.2:Nat):Int)] 92 (0,0))],[(U,.cells #[nS,nS] 24 (0,0))],[(O,.cells #[sV Y K.1 Z,sV aa K.2.1 ab] 24 (0,0))],[],[],eU,eX,cn,co]) rfl fc fun fd=>BJ 2 fd Cq fun fe=>?_;refine Bz underlying24 Cq rfl rfl rfl (BJ 2 fe Cq fun ff=>?_);obtain⟨fg,fh,fj⟩:=bs bA;refine zg 4 rfl (Bh fh rfl rfl rfl ?_);refine zg 2 rfl (JS.drop 5 ff rfl fun fk=>?_);refine JS.drop 6 fk rfl fun fm=>?_;obtain rfl:=oi fj;exact Az (bf _ _ (bv,bx,V.2.1,V.2.2.1,V.2.2.2,fg) ⟨aE,e0,e1,cn,e5,e6,co,aC,aD,rfl,rfl,(((((((a0.Ab an).Ab aA).Ab aw).Ab aB).Ab al).Ab ao).Ab ap),fm,e3,e7,bu⟩ aS) rfl
     ·intro fo;refine JL.block (CM dV (fun L s ai=>∃(aF:LH) (aU:Ao) (aV:Nat) (aG:Ao) (aH:Nat),Jn bq H aF [bX bk #[sV aU ai.1 aV,iV ai.2.1,.int .u64 ((ai.2.2.1:Nat):Int)] 92,bX U #[nS,nS] 24,bX O #[sV Y K.1 Z,sV aa K.2.1 ab] 24,ae,ah] [(0,pV bk 0),(4,pV U 0),(5,pV O 0),(6,iV am.1),(7,iV K.2.2.2.2.2),(8,sV ay aj.1 az),(9,sV aG ai.2.2.2.1 aH),(10,iV ai.2.2.2.2)] L s (An rI aF aU aV ai.1∧An rI aF aG aH ai.2.2.2.1)) ⟨bq,cb,cc,none,0,rfl,rfl,Ap,dU,dS,An.nil⟩ ?_);rintro _ _ ai ⟨aF,aU,aV,aG,aH,rfl,rfl,cp,cq,cr,bB⟩ fp ⟨hz,bC⟩ fq;have ct:=bC;unfold LW at ct;obtain⟨fs,fu,fv⟩:=bs ct;refine zg 6 rfl (FG [] (fun L s=>∃(bD:LH),Jm aF H bD [bX bk #[sV aU ai.1 aV,iV ai.2.1,.int .u64 ((ai.2.2.1:Nat):Int)] 92,bX U #[nS,nS] 24,bX O #[sV Y K.1 Z,sV aa K.2.1 ab] 24,ae,ah] [(0,pV bk 0),(4,pV U 0),(5,pV O 0),(6,iV am.1),(7,iV K.2.2.2.2.2),(8,sV ay aj.1 az),(9,sV aG ai.2.2.2.1 aH),(10,iV ai.2.2.2.2),(50,.bool fs)] L s) ?_ ?_)
      ·rintro _ _ ⟨bD,rfl,rfl,aI,cu⟩;refine JL.done (BP fv (fun fw fx=>?_) (fun fw fy=>?_))
       ·obtain⟨fz,fA,fB⟩:=bs fx;refine zg 7 rfl (BX fA rfl rfl rfl ?_);refine AA (v:=iV (max (0) fz)) rfl (fun ρ h=>Yl.max2 (h _ _ rfl) (h _ _ rfl)) ?_;obtain⟨hA,fC,fD⟩:=bs fB;refine BS 0 (Ha (cr.Ai aI) fC) rfl rfl GX cu rfl ?_;rintro _ hB _ bE ⟨hC,hD,rfl,rfl,fE⟩ fF;obtain⟨hE,fG,fH⟩:=bs fD;refine zg 6 rfl (BS 0 (Kj fE fG) rfl rfl Jy fF rfl ?_);rintro _ cv _ bF ⟨fI,fJ,rfl,rfl,cw⟩ cy;obtain⟨ak,fK,fL⟩:=bs fH;refine JL.done (Bu (fun L s=>∃(aW:LH) (aN:Ao) (aO:Nat),Jn cv H aW [bX bk #[sV aN ak.2.1 aO,iV ak.2.2.1,.int .u64 ((ak.2.2.2:Nat):Int)] 92,bX U #[nS,nS] 24,bX O #[sV Y K.1 Z,sV aa K.2.1 ab] 24,ae,ah] [(0,pV bk 0),(4,pV U 0),(5,pV O 0),(6,iV am.1),(7,iV K.2.2.2.2.2),(8,sV ay aj.1 az),(9,sV aG ai.2.2.2.1 aH),(10,iV ai.2.2.2.2),(11,iV ak.1)] L s (An rI aW aN aO ak.2.1)) ?_ ?_)
        ·rintro _ _ ⟨aW,aN,aO,rfl,rfl,bG,cz,fM⟩;obtain⟨bH,fN,fO⟩:=bs fL;refine zg 6 rfl (Bu (fun L s=>∃(a7:LH) (a8:Ao) (a9:Nat),Jn aW H a7 [bX bk #[sV aN ak.2.1 aO,iV ak.2.2.1,.int .u64 ((ak.2.2.2:Nat):Int)] 92,bX U #[nS,nS] 24,bX O #[sV Y K.1 Z,sV aa K.2.1 ab] 24,ae,ah] [(0,pV bk 0),(4,pV U 0),(5,pV O 0),(6,iV am.1),(7,iV K.2.2.2.2.2),(8,sV ay aj.1 az),(9,sV a8 bH a9),(10,iV ai.2.2.2.2)] L s (An rI a7 a8 a9 bH)) ?_ ?_)
         ·rintro _ _ ⟨a7,a8,a9,rfl,rfl,cA,fP,fQ⟩;obtain⟨fR,fS,fT⟩:=bs fO;refine zg 3 rfl (BX fS rfl rfl rfl ?_);refine zg 2 rfl ?_;obtain rfl:=oi fT;exact Az (fq _ _ (ak.2.1,ak.2.2.1,ak.2.2.2,bH,fR) ⟨a7,aN,aO,a8,a9,rfl,rfl,(((((cp.Ab aI).Ab bE).Ab bF).Ab bG).Ab cA),fP,(fM.Ai cA),fQ⟩ bC) rfl
         ·intro cB;refine AX fN (fun fU fW=>?_) (fun fU fX=>?_)
          ·obtain⟨hF,fY,fZ⟩:=bs fW;refine zg 3 rfl (BM (Rn (bB.Ai (((aI.Ab bE).Ab bF).Ab bG)) fY) rfl rfl (A5 func98 rfl) cz ?_);rintro _ ga _ gb ⟨gc,gd,rfl,rfl,ge⟩ gf;refine BR (S':= [[(bk,.cells #[sV aN ak.2.1 aO,iV ak.2.2.1,.int .u64 ((ak.2.2.2:Nat):Int)] 92 (0,0))],[(U,.cells #[nS,nS] 24 (0,0))],[(O,.cells #[sV Y K.1 Z,sV aa K.2.1 ab] 24 (0,0))],ae,ah,[]]) rfl gf fun gg=>zg 2 rfl ?_;obtain rfl:=oi fZ;exact Az (cB _ _ ⟨ga,gc,gd,rfl,rfl,gb,gg,ge⟩) rfl
          ·refine JL.skip ?_;obtain rfl:=oi fX;exact Az (cB _ _ ⟨aW,aG,aH,rfl,rfl,Ap,cz,(bB.Ai (((aI.Ab bE).Ab bF).Ab bG))⟩) rfl
        ·intro cC;refine BP fK (fun gh gi=>?_) (fun gh gj=>?_)
         ·obtain⟨hG,gk,gl⟩:=bs gi;refine zg 3 rfl (BX gk rfl rfl rfl ?_);obtain⟨bI,gm,gn⟩:=bs gl;refine BS 0 (Ha cw gm) rfl rfl GX cy rfl ?_;rintro _ gp _ gq ⟨cD,cE,rfl,rfl,gr⟩ gt;refine BR (S':= [[(bk,.cells #[sV cD bI.2.1 cE,iV bI.2.2.1,.int .u64 ((bI.2.2.2:Nat):Int)] 92 (0,0))],[(U,.cells #[nS,nS] 24 (0,0))],[(O,.cells #[sV Y K.1 Z,sV aa K.2.1 ab] 24 (0,0))],ae,ah]) rfl gt fun gu=>zg 2 rfl ?_;obtain rfl:=oi gn;exact Az (cC _ _ ⟨gp,cD,cE,rfl,rfl,gq,gu,gr⟩) rfl
         ·refine JL.skip ?_;obtain rfl:=oi gj;exact Az (cC _ _ ⟨cv,fI,fJ,rfl,rfl,Ap,cy,cw⟩) rfl
       ·refine JL.exit rfl ?_;obtain rfl:=oi fy;obtain rfl:=fp _ bC;exact Az (fo _ _ ⟨bD,aG,aH,aU,aV,rfl,rfl,(cp.Ab aI),cu,(bB.Ai aI),(cr.Ai aI)⟩) rfl
      ·intro cF;refine Ex 47 fu (fun gv gw=>?_) (fun gv gx=>?_)
       ·refine zg 3 rfl ?_;obtain rfl:=oi gw;exact Az (cF _ _ ⟨aF,rfl,rfl,Ap,cq⟩) rfl
       ·refine zg 3 rfl ?_;obtain rfl:=oi gx;exact Az (cF _ _ ⟨aF,rfl,rfl,Ap,cq⟩) rfl
    ·intro cG;refine BP dI (fun gy gz=>?_) (fun gy gA=>?_)
     ·obtain⟨hH,gB,gC⟩:=bs gz;refine zg 3 rfl (BX gB rfl rfl rfl ?_);obtain⟨aX,gD,gE⟩:=bs gC;refine BS 0 (Ha b8 gD) rfl rfl GX b9 rfl ?_;rintro _ hI _ gF ⟨cH,cI,rfl,rfl,gG⟩ gH;refine JS.lit (pp:=rI) [iV aX.1] [aX.1] rfl rfl rfl underlying28 AU Cp (by decide) rfl rfl rfl ⟨rfl,trivial⟩ gH fun gI hK gJ gK=>zg 2 rfl (Cf 5 gJ gK rfl fun gL cJ gM gN=>?_);refine BR (S':= [[(bk,.cells #[sV cH aX.2.1 cI,iV aX.2.2.1,.int .u64 ((aX.2.2.2:Nat):Int)] 92 (0,0))],[(U,.cells #[nS,nS] 24 (0,0))],[(O,.cells #[sV Y K.1 Z,sV aa K.2.1 ab] 24 (0,0))],ae,ah,[]]) rfl gN fun gO=>?_;obtain rfl:=oi gE;exact Az (cG _ _ ⟨gL,(AV gI),1,cH,cI,rfl,rfl,(gF.Ab cJ),gO,gM,(gG.Ai cJ)⟩) rfl
     ·refine JL.skip ?_;obtain rfl:=oi gA;exact Az (cG _ _ ⟨b5,a4,a5,b6,b7,rfl,rfl,Ap,b9,(dD.Ai aw),b8⟩) rfl
   ·intro cK;refine BP dA (fun gP gQ=>?_) (fun gP gR=>?_)
    ·obtain⟨hL,gS,gT⟩:=bs gQ;refine zg 5 rfl (BX gS rfl rfl rfl ?_);obtain⟨bJ,gU,gV⟩:=bs gT;refine BS 0 (N4 b3 gU) rfl rfl MM b4 rfl ?_;rintro _ hM _ cM ⟨cN,cO,rfl,rfl,gW⟩ gX;refine BR (S':= [[(bk,.cells #[sV cN bJ.2.1 cO,iV bJ.2.2.1,.int .u64 ((bJ.2.2.2:Nat):Int)] 92 (0,0))],[(U,.cells #[nS,nS] 24 (0,0))],[(O,.cells #[sV Y K.1 Z,sV aa K.2.1 ab] 24 (0,0))],ae,ah,dv]) rfl gX fun gY=>Cf 5 (b0.Ai (an.Ab cM)) gY rfl fun hN cP gZ g0=>?_;obtain⟨hO,g1,g3⟩:=bs gV;refine BM (Rn gZ g1) rfl rfl (A5 func98 rfl) g0 ?_;rintro _ g4 _ cQ ⟨g5,g6,rfl,rfl,g7⟩ g8;refine zg 2 rfl ?_;obtain rfl:=oi g3;exact Az (cK _ _ ⟨g4,g5,g6,cN,cO,rfl,rfl,((cM.Ab cP).Ab cQ),g8,g7,(gW.Ai (cP.Ab cQ))⟩) rfl
    ·refine JL.skip (Cf 5 (b0.Ai an) b4 rfl fun g9 cR ha hb=>?_);refine BR (S':= [[(bk,.cells #[sV b1 bi.2.1 b2,iV bi.2.2.1,.int .u64 ((bi.2.2.2:Nat):Int)] 92 (0,0))],[(U,.cells #[nS,nS] 24 (0,0))],[(O,.cells #[sV Y K.1 Z,sV aa K.2.1 ab] 24 (0,0))],ae,ah,[]]) rfl hb fun hc=>?_;obtain rfl:=oi gR;exact Az (cK _ _ ⟨g9,(AV du),1,b1,b2,rfl,rfl,cR,hc,ha,(b3.Ai cR)⟩) rfl
  ·refine JL.exit rfl ?_;obtain rfl:=oi dn;obtain rfl:=dk _ aS;exact Az (dj _ _ ⟨aJ,aY,aZ,Y,Z,ae,aa,ab,ah,rfl,rfl,a0,bW,bY,a1,a2⟩) rfl
def L9(fuel:Nat)(p1:BH)(U:Int×(BF))(K:(List Int)×Int×Nat×Int×Int):Option (Bj ((List Int)×Int×Nat×Int×Int) (Int×BF)):= if K.2.2.2.2<U.1 then((ix p1.1 K.2.2.2.1).bind fun V=> (f99 fuel (K.1,K.2.1,K.2.2.1) V).bind fun O=> (Au (K.2.2.2.2+1)).bind fun W=> some (.more (O.2.1,O.2.2.1,O.2.2.2,O.1,W))) else(some (.done (K.2.2.2.1,K.1,K.2.1,K.2.2.1)))
def Mh(fuel:Nat)(p1:BH)(p2:Int)(K:(List Int)×Int×Nat×Int×(List Int)×Int):Option (Bj ((List Int)×Int×Nat×Int×(List Int)×Int) ((List Int)×BF)):= if K.2.2.2.2.2<p2 then((room K.2.2.2.2.1 K.2.2.2.1).bind fun U=> (ix p1.1 K.2.2.2.1).bind fun V=> (f99 fuel (K.1,K.2.1,K.2.2.1) V).bind fun O=> (Au (K.2.2.2.2.2+1)).bind fun W=> some (.more (O.2.1,O.2.2.1,O.2.2.2,O.1,U,W))) else(some (.done (K.2.2.2.2.1,K.1,K.2.1,K.2.2.1)))
def f45(fuel:Nat)(p0:BF)(p1:BH)(p2:Int):Option (Int×(List Int)×(BF)):= (f41 fuel p0 6).bind fun K=> Option.bind (iter (L9 fuel p1 K) fuel (K.2.1,K.2.2.1,K.2.2.2,0,0)) fun O=> Option.bind (iter (Mh fuel p1 p2) fuel (O.2.1,O.2.2.1,O.2.2.2,O.1,[],0)) fun U=> some (K.1,U.1,U.2)
theorem WX{bk:Nat}{aI:Ao}{c2:Nat}{aJ:Ao}{aK:Nat}{aL:Ao}{aM:Nat}{p0:BF}{p1:BH}{p2:Int}(a3:An rI E aI c2 p0.1)(aN:An (rL rI) E aJ aK p1.1)(ci:An (rL rI) E aL aM p1.2){fuel:Nat}{r:Int×(List Int)×(BF)}(aO:f45 fuel p0 p1 p2=some r):AR J 45 [pV bk 0,.agg #[sV aJ p1.1 aK,sV aL p1.2 aM],iV p2] E [(bk,.cells #[sV aI p0.1 c2,iV p0.2.1,.int .u64 ((p0.2.2:Nat):Int)] 92 (0,0))] (fun w E' B'=>∃(aP:Ao) (aQ:Nat) (aR:Ao) (aS:Nat),w= .tuple #[iV r.1,sV aP r.2.1 aQ]∧B'= [(bk,.cells #[sV aR r.2.2.1 aS,iV r.2.2.2.1,.int .u64 ((r.2.2.2.2:Nat):Int)] 92 (0,0))]∧An rI E' aP aQ r.2.1∧An rI E' aR aS r.2.2.1):=by
 refine Bg func45 fun Q ck cs H a4 a5=>?_;unfold f45 at aO;refine zg 2 rfl (CI a4 fun aC cm ae aT a6=>?_);obtain⟨ah,a7,a8⟩:=bs aO;refine zg 6 rfl (BS 0 (Ha (a3.Ai ae) a7) rfl rfl GX a6 rfl ?_);rintro _ aD _ W ⟨a9,ba,rfl,rfl,bb⟩ bc;obtain⟨Y,bd,be⟩:=bs a8;refine zg 8 rfl (Bu (fun L s=>∃(U:LH) (ai:Ao) (aj:Nat),Jn aD H U [bX bk #[sV ai Y.2.1 aj,iV Y.2.2.1,.int .u64 ((Y.2.2.2:Nat):Int)] 92] [(0,pV bk 0),(2,iV p2),(4,pV aC 0),(8,iV ah.1),(9,iV Y.1)] L s (An rI U ai aj Y.2.1)) ?_ ?_)
 ·rintro _ _ ⟨U,ai,aj,rfl,rfl,aE,bf,bg⟩;obtain⟨V,bh,bi⟩:=bs be;refine zg 9 rfl (Bu (fun L s=>∃(ak:LH) (al:Ao) (am:Nat) (aF:Seg) (an:Ao) (ao:Nat),Jn U H ak [bX bk #[sV an V.2.1 ao,iV V.2.2.1,.int .u64 ((V.2.2.2:Nat):Int)] 92,aF] [(8,iV ah.1),(11,sV al V.1 am)] L s (OL 3 rI ak al am aF V.1∧An rI ak an ao V.2.1)) ?_ ?_)
  ·rintro _ _ ⟨ak,al,am,aF,an,ao,rfl,rfl,bj,bl,bm,bn⟩;refine zg 7 rfl (Cf 1 bm bl rfl fun cn aU bo bp=>?_);obtain rfl:=oi bi;exact AP func45 rfl rfl (a5 ((((ae.Ab W).Ab aE).Ab bj).Ab aU) rfl ⟨al,am,an,ao,rfl,rfl,bo,(bn.Ai aU)⟩ bp)
  ·intro bq;refine JL.block (CM bh (fun L s K=>∃(Z:LH) (ap:Ao) (aq:Nat) (aa:Ao) (ab:Nat) (ar:Seg),Jn U H Z [bX bk #[sV ap K.1 aq,iV K.2.1,.int .u64 ((K.2.2.1:Nat):Int)] 92,ar] [(0,pV bk 0),(2,iV p2),(4,pV aC 0),(8,iV ah.1),(9,iV K.2.2.2.1),(11,sV aa K.2.2.2.2.1 ab),(12,iV K.2.2.2.2.2)] L s (An rI Z ap aq K.1∧OL 3 rI Z aa ab ar K.2.2.2.2.1)) ⟨U,ai,aj,none,0,[],rfl,rfl,Ap,bf,bg,OL.nil⟩ ?_);rintro _ _ K ⟨Z,ap,aq,aa,ab,ar,rfl,rfl,au,aV,aW,aX⟩ br ⟨co,aG⟩ bu;have aY:=aG;unfold Mh at aY;refine zg 7 rfl (AX aY (fun bv bw=>?_) (fun bv bx=>?_))
   ·obtain⟨bz,bA,bB⟩:=bs bw;refine zg 7 rfl (JS.app (pp:=rI) (v:=iV K.2.2.2.1) (a:=aa) (c:=ab) 1 bA rfl rfl rfl rfl (fun _=>rfl) rfl (fun _=>rfl) rfl rfl rfl underlying28 underlying28 underlying28 AU (Cs type3) Cp rfl (by decide) (by decide) (by decide) (by decide) aX rfl aV rfl fun cp bC bD bE bF bG=>?_);refine zg 4 rfl (JL.fl 0 (aT.Ai ((W.Ab aE).Ab au)) underlying24 Cq Da ?_);obtain⟨cq,bH,bI⟩:=bs bB;refine zg 1 rfl (Cj (aN.Ai (((ae.Ab W).Ab aE).Ab au)) bH underlying22 BL ?_);rintro cr ct _ ⟨cu,cv,rfl,bJ⟩ bK;refine B4 0 bK Df rfl rfl rfl ?_;obtain⟨av,bL,bM⟩:=bs bI;refine BS 0 (Mm aW bJ bL) rfl rfl K8 bG rfl ?_;rintro _ bN _ aZ ⟨bO,bP,rfl,rfl,bQ⟩ bR;obtain⟨bS,bT,bU⟩:=bs bM;refine zg 5 rfl (Bh bT rfl rfl rfl ?_);refine zg 2 rfl ?_;obtain rfl:=oi bU;exact Az (bu _ _ (av.2.1,av.2.2.1,av.2.2.2,av.1,bz,bS) ⟨bN,bO,bP,bC,bD,bE,rfl,rfl,(au.Ab aZ),bR,bQ,(bF.Ai aZ)⟩ aG) rfl
   ·refine JL.exit rfl ?_;obtain rfl:=oi bx;obtain rfl:=br _ aG;exact Az (bq _ _ ⟨Z,aa,ab,ar,ap,aq,rfl,rfl,au,aV,aX,aW⟩) rfl
 ·intro bV;refine JL.block (CM bd (fun L s O=>∃(aw:LH) (ay:Ao) (az:Nat),Jn aD H aw [bX bk #[sV ay O.1 az,iV O.2.1,.int .u64 ((O.2.2.1:Nat):Int)] 92] [(0,pV bk 0),(2,iV p2),(4,pV aC 0),(8,iV ah.1),(9,iV O.2.2.2.1),(10,iV O.2.2.2.2)] L s (An rI aw ay az O.1)) ⟨aD,a9,ba,rfl,rfl,Ap,bc,bb⟩ ?_);rintro _ _ O ⟨aw,ay,az,rfl,rfl,aA,a0,a1⟩ bW ⟨cw,aH⟩ bY;have a2:=aH;unfold L9 at a2;refine zg 7 rfl (AX a2 (fun bZ b0=>?_) (fun bZ b1=>?_))
  ·refine zg 5 rfl (JL.fl 0 (aT.Ai (W.Ab aA)) underlying24 Cq Da ?_);obtain⟨cy,b2,b3⟩:=bs b0;refine zg 1 rfl (Cj (aN.Ai ((ae.Ab W).Ab aA)) b2 underlying22 BL ?_);rintro cz cA _ ⟨cB,cC,rfl,b4⟩ b5;refine B4 0 b5 Df rfl rfl rfl ?_;obtain⟨aB,b6,b7⟩:=bs b3;refine BS 0 (Mm a1 b4 b6) rfl rfl K8 a0 rfl ?_;rintro _ b8 _ b9 ⟨ca,cb,rfl,rfl,cc⟩ cd;obtain⟨ce,cf,cg⟩:=bs b7;refine zg 5 rfl (Bh cf rfl rfl rfl ?_);refine zg 2 rfl ?_;obtain rfl:=oi cg;exact Az (bY _ _ (aB.2.1,aB.2.2.1,aB.2.2.2,aB.1,ce) ⟨b8,ca,cb,rfl,rfl,(aA.Ab b9),cd,cc⟩ aH) rfl
  ·refine JL.exit rfl ?_;obtain rfl:=oi b1;obtain rfl:=bW _ aH;exact Az (bV _ _ ⟨aw,ay,az,rfl,rfl,aA,a0,a1⟩) rfl
def NI(fuel:Nat)(p1:BH)(p2:List Int)(p4:Bool)(K:(List Int)×Int×Nat×(AT)×Int×Int):Option (Bj ((List Int)×Int×Nat×(AT)×Int×Int) ((AT)×BF)):= if 0<K.2.2.2.2.2 then((Au ((p2.length:Int) - 1)).bind fun Z=> (Au (K.2.2.2.2.1+2)).bind fun aa=> (f96 fuel (K.1,K.2.1,K.2.2.1) K.2.2.2.2.1 (min Z aa)).bind fun O=> (ix p2 O.1).bind fun ab=> (ix p2 O.1).bind fun ae=> (ix p1.2 ae).bind fun Y=> Option.bind (if p4=true then(some (decide (0<(Y.length:Int)))) else(some false)) fun ah=> Option.bind (if ah=true then((f97 fuel O.2 2).bind fun ai=> some ai) else(some (false,O.2.1,O.2.2.1,O.2.2.2))) fun U=> Option.bind (if U.1=true then((f99 fuel U.2 Y).bind fun V=> some (V.2.1,V.2.2.1,V.2.2.2,V.1)) else(some (U.2.1,U.2.2.1,U.2.2.2,ab))) fun W=> (room K.2.2.2.1 (O.1,W.2.2.2)).bind fun aj=> (Au (K.2.2.2.2.2 - 1)).bind fun ak=> some (.more (W.1,W.2.1,W.2.2.1,aj,O.1,ak))) else(some (.done (K.2.2.2.1,K.1,K.2.1,K.2.2.1)))
def f46(fuel:Nat)(p0:BF)(p1:BH)(p2:List Int)(p3:Int)(p4:Bool):Option ((AT)×(BF)):= (f41 fuel p0 p3).bind fun K=> Option.bind (iter (NI fuel p1 p2 p4) fuel (K.2.1,K.2.2.1,K.2.2.2,[],0,K.1)) fun O=> some O
theorem WS{bk:Nat}{aK:Ao}{c2:Nat}{aL:Ao}{aM:Nat}{aN:Ao}{aO:Nat}{Z:Ao}{aa:Nat}{p0:BF}{p1:BH}{p2:List Int}{p3:Int}{p4:Bool}(bf:An rI E aK c2 p0.1)(cT:An (rL rI) E aL aM p1.1)(bg:An (rL rI) E aN aO p1.2)(aP:An rI E Z aa p2){fuel:Nat}{r:(AT)×(BF)}(aQ:f46 fuel p0 p1 p2 p3 p4=some r):AR J 46 [pV bk 0,.agg #[sV aL p1.1 aM,sV aN p1.2 aO],sV Z p2 aa,iV p3,.bool p4] E [(bk,.cells #[sV aK p0.1 c2,iV p0.2.1,.int .u64 ((p0.2.2:Nat):Int)] 92 (0,0))] (fun w E' B'=>∃(aR:Ao) (aS:Nat) (g0:Seg) (aT:Ao) (aU:Nat),w= sV aR r.1 aS∧B'= [(bk,.cells #[sV aT r.2.1 aU,iV r.2.2.1,.int .u64 ((r.2.2.2:Nat):Int)] 92 (0,0))]++g0∧OL 27 By E' aR aS g0 r.1∧An rI E' aT aU r.2.1):=by
 refine Bg func46 fun Q cV cs H bh bi=>?_;unfold f46 at aQ;refine zg 2 rfl (CI bh fun ap cW aj bj bl=>?_);obtain⟨cX,bm,bn⟩:=bs aQ;refine zg 15 rfl (BS 0 (Ha (bf.Ai aj) bm) rfl rfl GX bl rfl ?_);rintro _ aG _ ak ⟨bo,bp,rfl,rfl,bq⟩ br;obtain⟨ab,bu,bv⟩:=bs bn;refine zg 2 rfl (Bu (fun L s=>∃(aq:LH) (ar:Ao) (au:Nat) (av:Seg) (aw:Ao) (ay:Nat),Jn aG H aq [bX bk #[sV aw ab.2.1 ay,iV ab.2.2.1,.int .u64 ((ab.2.2.2:Nat):Int)] 92,av] [(11,sV ar ab.1 au)] L s (OL 27 By aq ar au av ab.1∧An rI aq aw ay ab.2.1)) ?_ ?_)
 ·rintro _ _ ⟨aq,ar,au,av,aw,ay,rfl,rfl,bw,bx,bz,bA⟩;refine zg 5 rfl ?_;obtain rfl:=oi bv;exact AP func46 rfl rfl (bi ((aj.Ab ak).Ab bw) rfl ⟨ar,au,av,aw,ay,rfl,(by first | rfl | simp | (simp [Value.cells])),bz,bA⟩ bx)
 ·intro bB;refine JL.block (CM bu (fun L s K=>∃(al:LH) (az:Ao) (aA:Nat) (V:Ao) (W:Nat) (Y:Seg),Jn aG H al [bX bk #[sV az K.1 aA,iV K.2.1,.int .u64 ((K.2.2.1:Nat):Int)] 92,Y] [(0,pV bk 0),(2,sV Z p2 aa),(4,.bool p4),(6,pV ap 0),(11,sV V K.2.2.2.1 W),(12,iV K.2.2.2.2.1),(13,iV K.2.2.2.2.2)] L s (An rI al az aA K.1∧OL 27 By al V W Y K.2.2.2.1)) ⟨aG,bo,bp,none,0,[],rfl,rfl,Ap,br,bq,OL.nil⟩ ?_);rintro _ _ K ⟨al,az,aA,V,W,Y,rfl,rfl,ae,aV,aW,aX⟩ bC ⟨cY,aH⟩ bD;have aY:=aH;unfold NI at aY;refine zg 6 rfl (AX aY (fun bE bF=>?_) (fun bE bG=>?_))
  ·refine zg 8 rfl (BA underlying28 rfl rfl rfl ?_);obtain⟨bH,bI,bJ⟩:=bs bF;refine BX bI rfl rfl rfl ?_;obtain⟨bK,bL,bM⟩:=bs bJ;refine zg 1 rfl (Bh bL rfl rfl rfl ?_);refine AA (v:=iV (min bH bK)) rfl (fun ρ h=>Yl.min2 (h _ _ rfl) (h _ _ rfl)) ?_;obtain⟨O,bN,bO⟩:=bs bM;refine BS 0 (N4 aW bN) rfl rfl MM aV rfl ?_;rintro _ cZ _ ah ⟨aZ,a0,rfl,rfl,a1⟩ bP;obtain⟨aI,bQ,bR⟩:=bs bO;refine zg 7 rfl (Cj (aP.Ai (((aj.Ab ak).Ab ae).Ab ah)) bQ underlying28 AU ?_);rintro c0 c1 _ rfl bS;refine B4 0 bS Bq rfl rfl rfl (AA (v:= .agg #[iV O.1,iV aI]) rfl (fun ρ h=>CG [(0,1),(1,1)] h FC underlying27 ⟨rfl,Bf type3,rfl,Bf type3,trivial⟩ rfl rfl) ?_);refine Cz bP FC fun ai bT=>?_;refine BJ 2 bT CF fun a2=>?_;refine zg 3 rfl (EV 6 fun ht=>?_);refine Ce 0 ht underlying24 Cq rfl rfl rfl rfl (EK 1 ht 1 (bj.Ai ((ak.Ab ae).Ab ah)) Da rfl rfl rfl rfl ?_);refine Bn ht rfl [2,3] rfl ?_;obtain⟨c3,bU,bV⟩:=bs bR;refine Ei 4 (aP.Ai (((aj.Ab ak).Ab ae).Ab ah)) bU ht underlying28 AU ?_;rintro c4 c5 _ rfl bW;refine EK 5 ht 0 bW Bq rfl rfl rfl rfl (Cy [6,7,8] ?_);obtain⟨a3,bY,bZ⟩:=bs bV;refine Cj (bg.Ai (((aj.Ab ak).Ab ae).Ab ah)) bY underlying22 BL ?_;rintro c6 c7 _ ⟨a4,a5,rfl,b0⟩ b1;refine B4 0 b1 Df rfl rfl rfl ?_;obtain⟨b2,b3,b4⟩:=bs bZ;refine zg 6 rfl (C7 6 4 [bX bk #[sV aZ O.2.1 a0,iV O.2.2.1,.int .u64 ((O.2.2.2:Nat):Int)] 92,Y,bX ai #[iV O.1,iV aI] 27] [(0,pV bk 0),(2,sV Z p2 aa),(4,.bool p4),(6,pV ap 0),(11,sV V K.2.2.2.1 W),(12,iV O.1),(13,iV K.2.2.2.2.2),(14,pV ai 0),(15,sV a4 a3 a5),(51,.bool b2)] (fun a6 am a7=>?_) (fun a8=>?_))
   ·obtain⟨an,b5,b6⟩:=bs b4;refine zg 1 rfl (FG [] (fun L s=>∃(ao:LH) (aB:Ao) (aC:Nat),Jn a6 H ao [bX bk #[sV aB an.2.1 aC,iV an.2.2.1,.int .u64 ((an.2.2.2:Nat):Int)] 92,Y,bX ai #[iV O.1,iV aI] 27] [(0,pV bk 0),(2,sV Z p2 aa),(4,.bool p4),(6,pV ap 0),(11,sV V K.2.2.2.1 W),(12,iV O.1),(13,iV K.2.2.2.2.2),(14,pV ai 0),(15,sV a4 a3 a5),(55,.bool an.1)] L s (An rI ao aB aC an.2.1)) ?_ ?_)
    ·rintro _ _ ⟨ao,aB,aC,rfl,rfl,aJ,a9,ba⟩;obtain⟨U,b7,b8⟩:=bs b6;refine JL.done (Bu (fun L s=>∃(aD:LH) (aE:Ao) (aF:Nat),Jn ao H aD [bX bk #[sV aE U.1 aF,iV U.2.1,.int .u64 ((U.2.2.1:Nat):Int)] 92,Y,bX ai #[iV O.1,iV U.2.2.2] 27] [(0,pV bk 0),(2,sV Z p2 aa),(4,.bool p4),(6,pV ap 0),(11,sV V K.2.2.2.1 W),(12,iV O.1),(13,iV K.2.2.2.2.2),(14,pV ai 0)] L s (An rI aD aE aF U.1)) ?_ ?_)
     ·rintro _ _ ⟨aD,aE,aF,rfl,rfl,bb,bc,b9⟩;refine zg 2 rfl (AA rfl (fun ρ h=>FH (vs:= [iV O.1,iV U.2.2.2]) Ic CF (h _ _ rfl) (FV (off:=0) 2 bc rfl rfl)) ?_);obtain⟨ca,cb,cc⟩:=bs b8;refine JS.app (pp:=By) (v:= .agg #[iV O.1,iV U.2.2.2]) (a:=V) (c:=W) 1 cb rfl rfl rfl rfl (fun _=>rfl) rfl (fun _=>rfl) rfl rfl rfl underlying25 underlying25 underlying25 CF (Cs type27) FC rfl (by decide) (by decide) (by decide) (by decide) (aX.Ai (((ah.Ab am).Ab aJ).Ab bb)) ⟨_,_,rfl,rfl,rfl⟩ bc rfl fun c8 cd ce cf cg ci=>?_;obtain⟨ck,cm,cn⟩:=bs cc;refine zg 5 rfl (BX cm rfl rfl rfl ?_);refine zg 2 rfl (JS.drop 2 ci rfl fun co=>?_);obtain rfl:=oi cn;exact Az (bD _ _ (U.1,U.2.1,U.2.2.1,ca,O.1,ck) ⟨aD,aE,aF,cd,ce,cf,rfl,rfl,((((ae.Ab ah).Ab am).Ab aJ).Ab bb),co,b9,cg⟩ aH) rfl
     ·intro bd;refine BP b7 (fun cp cq=>?_) (fun cp cr=>?_)
      ·obtain⟨c9,ct,cu⟩:=bs cq;refine zg 3 rfl (BS 0 (Mm ba (b0.Ai (am.Ab aJ)) ct) rfl rfl K8 a9 rfl ?_);rintro _ cv _ cw ⟨cy,cz,rfl,rfl,cA⟩ cB;refine Bz underlying27 AU rfl rfl rfl (BJ 2 cB AU fun cC=>?_);refine JL.done ?_;obtain rfl:=oi cu;exact Az (bd _ _ ⟨cv,cy,cz,rfl,rfl,cw,cC,cA⟩) rfl
      ·refine JL.skip ?_;obtain rfl:=oi cr;exact Az (bd _ _ ⟨ao,aB,aC,rfl,rfl,Ap,a9,ba⟩) rfl
    ·intro be;refine Dz 52 b5 (fun cD cE=>?_) (fun cD cF=>?_)
     ·obtain⟨da,cG,cH⟩:=bs cE;refine zg 1 rfl (BS 0 (Kj (a1.Ai am) cG) rfl rfl Jy a7 rfl ?_);rintro _ cI _ cJ ⟨cK,cM,rfl,rfl,cN⟩ cO;refine zg 1 rfl ?_;obtain rfl:=oi cH;exact Az (be _ _ ⟨cI,cK,cM,rfl,rfl,cJ,cO,cN⟩) rfl
     ·refine zg 3 rfl ?_;obtain rfl:=oi cF;exact Az (be _ _ ⟨a6,aZ,a0,rfl,rfl,Ap,a7,(a1.Ai am)⟩) rfl
   ·refine Dz 47 b3 (fun cP cQ=>?_) (fun cP cR=>?_)
    ·refine zg 1 rfl (BA underlying28 rfl rfl rfl ?_);refine zg 2 rfl ?_;obtain rfl:=oi cQ;exact a8 Ap a2 rfl
    ·refine zg 4 rfl ?_;obtain rfl:=oi cR;exact a8 Ap a2 rfl
  ·refine JL.exit rfl ?_;obtain rfl:=oi bG;obtain rfl:=bC _ aH;exact Az (bB _ _ ⟨al,V,W,Y,az,aA,rfl,rfl,ae,aV,aX,aW⟩) rfl
def Me(fuel:Nat)(p1:BH)(K:(List Int)×Int×Nat×(AT)×Int):Option (Bj ((List Int)×Int×Nat×(AT)×Int) ((AT)×BF)):= if K.2.2.2.2<(K.2.2.2.1.length:Int) then((f97 fuel (K.1,K.2.1,K.2.2.1) 6).bind fun O=> Option.bind (if O.1=true then((Au ((p1.1.length:Int) - 1)).bind fun W=> (f41 fuel O.2 W).bind fun U=> (ix K.2.2.2.1 K.2.2.2.2).bind fun Y=> some ((K.2.2.2.1.set (Int.toNat K.2.2.2.2) (Y.1,U.1)),U.2.1,U.2.2.1,U.2.2.2)) else(some (K.2.2.2.1,O.2.1,O.2.2.1,O.2.2.2))) fun V=> (Au (K.2.2.2.2+1)).bind fun Z=> some (.more (V.2.1,V.2.2.1,V.2.2.2,V.1,Z))) else(some (.done (K.2.2.2.1,K.1,K.2.1,K.2.2.1)))
def f40(fuel:Nat)(p0:BF)(p1:BH)(p2:Int):Option ((AT)×(BF)):= (f45 fuel p0 p1 5).bind fun O=> (f46 fuel O.2.2 p1 O.2.1 p2 true).bind fun K=> Option.bind (iter (Me fuel p1) fuel (K.2.1,K.2.2.1,K.2.2.2,K.1,0)) fun U=> some U
theorem WV{bk:Nat}{aL:Ao}{c2:Nat}{aB:Ao}{aC:Nat}{aM:Ao}{aN:Nat}{p0:BF}{p1:BH}{p2:Int}(a7:An rI E aL c2 p0.1)(aO:An (rL rI) E aB aC p1.1)(aP:An (rL rI) E aM aN p1.2){fuel:Nat}{r:(AT)×(BF)}(aQ:f40 fuel p0 p1 p2=some r):AR J 40 [pV bk 0,.agg #[sV aB p1.1 aC,sV aM p1.2 aN],iV p2] E [(bk,.cells #[sV aL p0.1 c2,iV p0.2.1,.int .u64 ((p0.2.2:Nat):Int)] 92 (0,0))] (fun w E' B'=>∃(aR:Ao) (aS:Nat) (aT:Ao) (aU:Nat),w= sV aR r.1 aS∧B'= [(bk,.cells #[sV aT r.2.1 aU,iV r.2.2.1,.int .u64 ((r.2.2.2:Nat):Int)] 92 (0,0))]∧An By E' aR aS r.1∧An rI E' aT aU r.2.1):=by
 refine Bg func40 fun Q ci cs H a8 a9=>?_;unfold f40 at aQ;refine zg 2 rfl (CI a8 fun aj ck Z aD ba=>?_);refine zg 5 rfl (Cd aD Cv Cb rfl rfl ?_);obtain⟨cm,bb,bc⟩:=bs aQ;refine BS 0 (WX (a7.Ai Z) (aO.Ai Z) (aP.Ai Z) bb) rfl rfl (A5 func45 rfl) ba rfl ?_;rintro _ cn _ ab ⟨co,cp,cq,cr,rfl,rfl,bd,be⟩ bf;refine zg 9 rfl (Cd (aD.Ai ab) Cv Cb rfl rfl ?_);obtain⟨ct,bg,bh⟩:=bs bc;refine zg 2 rfl (BS 0 (WS be (aO.Ai (Z.Ab ab)) (aP.Ai (Z.Ab ab)) bd bg) rfl rfl (A5 func46 rfl) bf rfl ?_);rintro _ aE _ aV ⟨bi,bj,bl,bm,bn,rfl,rfl,bo,bp⟩ bq;refine ET 0 rfl bq fun br=>?_;obtain⟨aa,bu,bv⟩:=bs bh;refine zg 7 rfl (Bu (fun L s=>∃(ak:LH) (al:Ao) (am:Nat) (aF:Seg) (an:Ao) (ao:Nat),Jn aE H ak [bX bk #[sV an aa.2.1 ao,iV aa.2.2.1,.int .u64 ((aa.2.2.2:Nat):Int)] 92,aF] [(9,sV al aa.1 am)] L s (OL 27 By ak al am aF aa.1∧An rI ak an ao aa.2.1)) ?_ ?_)
 ·rintro _ _ ⟨ak,al,am,aF,an,ao,rfl,rfl,bw,bx,bz,bA⟩;refine zg 5 rfl (Cf 1 bz bx rfl fun cu aW bB bC=>?_);obtain rfl:=oi bv;exact AP func40 rfl rfl (a9 ((((Z.Ab ab).Ab aV).Ab bw).Ab aW) rfl ⟨al,am,an,ao,rfl,rfl,bB,(bA.Ai aW)⟩ bC)
 ·intro bD;refine JL.block (CM bu (fun L s K=>∃(ae:LH) (ap:Ao) (aq:Nat) (W:Ao) (Y:Nat) (ah:Seg),Jn aE H ae [bX bk #[sV ap K.1 aq,iV K.2.1,.int .u64 ((K.2.2.1:Nat):Int)] 92,ah] [(0,pV bk 0),(4,pV aj 0),(9,sV W K.2.2.2.1 Y),(10,iV K.2.2.2.2)] L s (An rI ae ap aq K.1∧OL 27 By ae W Y ah K.2.2.2.1)) ⟨aE,bm,bn,bi,bj,bl,rfl,rfl,Ap,br,bp,bo⟩ ?_);rintro _ _ K ⟨ae,ap,aq,W,Y,ah,rfl,rfl,aG,aX,aY,aH⟩ bE ⟨cv,aI⟩ bF;have aZ:=aI;unfold Me at aZ;refine zg 5 rfl (BA underlying25 rfl rfl rfl ?_);refine zg 2 rfl (AX aZ (fun bG bH=>?_) (fun bG bI=>?_))
  ·obtain⟨bJ,bK,bL⟩:=bs bH;refine zg 6 rfl (BS 0 (Kj aY bK) rfl rfl Jy aX rfl ?_);rintro _ a0 _ ar ⟨bM,bN,rfl,rfl,a1⟩ a2;obtain⟨O,bO,bP⟩:=bs bL;refine JL.done (Bu (fun L s=>∃(ai:LH) (au:Ao) (av:Nat) (aw:Seg) (ay:Ao) (az:Nat),Jn a0 H ai [bX bk #[sV ay O.2.1 az,iV O.2.2.1,.int .u64 ((O.2.2.2:Nat):Int)] 92,aw] [(0,pV bk 0),(4,pV aj 0),(9,sV au O.1 av),(10,iV K.2.2.2.2)] L s (OL 27 By ai au av aw O.1∧An rI ai ay az O.2.1)) ?_ ?_)
   ·rintro _ _ ⟨ai,au,av,aw,ay,az,rfl,rfl,bQ,bR,bS,bT⟩;obtain⟨bU,bV,bW⟩:=bs bP;refine zg 3 rfl (Bh bV rfl rfl rfl ?_);refine zg 2 rfl ?_;obtain rfl:=oi bW;exact Az (bF _ _ (O.2.1,O.2.2.1,O.2.2.2,O.1,bU) ⟨ai,ay,az,au,av,aw,rfl,rfl,((aG.Ab ar).Ab bQ),bR,bT,bS⟩ aI) rfl
   ·intro a3;refine BP bO (fun bY bZ=>?_) (fun bY b0=>?_)
    ·refine zg 4 rfl (JL.fl 0 (aD.Ai (((ab.Ab aV).Ab aG).Ab ar)) underlying24 Cq Da ?_);refine BA underlying22 rfl rfl rfl ?_;obtain⟨b1,b2,b3⟩:=bs bZ;refine BX b2 rfl rfl rfl ?_;obtain⟨U,b4,b5⟩:=bs b3;refine BS 0 (Ha a1 b4) rfl rfl GX a2 rfl ?_;rintro _ b6 _ a4 ⟨b7,b8,rfl,rfl,b9⟩ ca;obtain⟨V,cb,cc⟩:=bs b5;refine Ir 1 (aH.Ai (ar.Ab a4)) cb rfl rfl rfl rfl rfl rfl underlying25 CF ?_;rintro aJ aA f138 _ cd ⟨_,_,rfl,rfl,rfl⟩ ce a5 cf cw cy;refine Bz underlying27 AU rfl rfl rfl (JS.store (v:=iV U.1) (off:=aA+1) 1 rfl rfl rfl ca rfl rfl AU (by simp [Value.cells,CK]) cd (by have:=a5;simp only [Rp.n,rK,rN,rB,rP,rL] at this;show _+1≤_;omega) fun a6=>?_);rw [OK (m:=1) (ws:= [iV V.1,iV V.2]) (vs:= [iV V.1,iV U.1]) (by have:=a5;simp only [Rp.n,rK,rN,rB,rP,rL] at this;show _+2≤_;omega) ce rfl (Nat.le_of_ble_eq_true rfl)] at a6 ⊢;have cg:=cf ((V.1,U.1)) [iV V.1,iV U.1] ⟨_,_,rfl,rfl,rfl⟩;have aK:(K.2.2.2.1.set (Int.toNat K.2.2.2.2) (V.1,U.1)).length=K.2.2.2.1.length:=List.length_set;refine GD (L':= [(0,pV bk 0),(4,pV aj 0),(9,.slice W ((K.2.2.2.1.set (Int.toNat K.2.2.2.2) (V.1,U.1))).length Y),(10,iV K.2.2.2.2),(22,iV K.2.2.2.2),(23,.slice W ((K.2.2.2.1.set (Int.toNat K.2.2.2.2) (V.1,U.1))).length Y),(24,iV (K.2.2.2.1.length:Int)),(25,.bool (decide (K.2.2.2.2<(K.2.2.2.1.length:Int)))),(28,pV bk 0),(29,.bool bJ.1),(30,.slice W ((K.2.2.2.1.set (Int.toNat K.2.2.2.2) (V.1,U.1))).length Y),(31,iV K.2.2.2.2),(32,pV bk 0),(33,pV aj 0),(34,.slice aB p1.1.length aC),(35,iV (p1.1.length:Int)),(36,iV b1),(37,iV U.1),(38,pV aJ aA),(39,pV aJ (aA+1))]) ⟨rfl,rfl,by rw [aK];rfl,rfl,rfl,by rw [aK];rfl,rfl,rfl,rfl,rfl,by rw [aK];rfl,rfl,rfl,rfl,rfl,rfl,rfl,rfl,rfl,rfl,trivial⟩ ?_;refine JL.done ?_;obtain rfl:=oi cc;exact Az (a3 _ _ ⟨b6,W,Y,[(aJ,.cells (Ba f138 aA [iV V.1,iV U.1]) 27 (0,0))],b7,b8,rfl,rfl,a4,a6,cg,b9⟩) rfl
    ·refine JL.skip ?_;obtain rfl:=oi b0;exact Az (a3 _ _ ⟨a0,W,Y,ah,bM,bN,rfl,rfl,Ap,a2,(aH.Ai ar),a1⟩) rfl
  ·refine JL.exit rfl ?_;obtain rfl:=oi bI;obtain rfl:=bE _ aI;exact Az (bD _ _ ⟨ae,W,Y,ah,ap,aq,rfl,rfl,aG,aX,aH,aY⟩) rfl
end Pal
namespace Pal
theorem C5{S A:Type}{body:S→Option (Bj S A)}{Q:A→Prop}{K:S}{F:Nat}(n:Nat)(I:Nat→S→Prop)(V:I 0 K)(Y:n<F)
  (round:∀i s,i<n→I i s→A0 (body s) (Bj.sat (I (i+1)) Q)) (last:∀s,I n s→A0 (body s) (fun st=>∃a,st= .done a∧Q a)):A0 (Pal.iter body F K) Q:=by
 refine Lt (fun m s=>∃i,i≤n∧m=n - i∧I i s) ?_ (m:=n - 0) ⟨0,Nat.zero_le _,rfl,V⟩ (by omega);rintro m s ⟨i,hi,rfl,O⟩;rcases Nat.lt_or_ge i n with W | Z
 ·refine(round i s W O).Ai ?_;intro st U;cases st with
  | more s'=>exact⟨n - (i+1),by omega,i+1,by omega,rfl,U⟩
  | done a=>exact U
 ·obtain rfl:i=n:=by omega
  refine(last s O).Ai ?_;rintro st ⟨a,rfl,h⟩;exact h
theorem Eh{α:Type}{o:Option α}{a:α}(h:A0 o (fun x=>x=a)):o=some a:=by obtain⟨x,K,rfl⟩:=h;exact K
theorem IZ(F:Nat)(a lo hi:Int):f101 F a lo hi=some (decide (a<lo∨hi<a)):=by
 unfold f101;by_cases h:a<lo
 ·simp [h]
 ·simp [h]
theorem Qo(F:Nat){s n:Nat}(hs:s<65536)(V:n≤16):f103 F s (n:Int)=some (s.testBit n):=by
 unfold f103;have K:Ks s (n:Int)=some (s>>>n):=by unfold Ks;rw [if_pos (by omega)];rfl
 rw [K];simp only [Option.bind_some];have O:s>>>n<65536:=Nat.lt_of_le_of_lt (Nat.shiftRight_le _ _) hs;have U:Jj (s>>>n) 1=some (s>>>n&&& 1):=if_pos ⟨O,by omega⟩;rw [U];simp only [Option.bind_some];rw [Vf]
theorem QL(F:Nat){s n:Nat}(hs:s<65536)(K:n<16):f90 F s (n:Int)=some (s ||| 1<<<n):=by
 unfold f90;have O:Kg (n:Int)=some (1<<<n):=by unfold Kg;rw [if_pos (by omega)];rfl
 rw [O];simp only [Option.bind_some];have U:1<<<n<65536:=by rw [Nat.one_shiftLeft];exact Nat.pow_lt_pow_right (by omega) (show n<16 from K)
 have V:IH s (1<<<n)=some (s ||| 1<<<n):=if_pos ⟨hs,U⟩;rw [V];rfl
theorem Mx{a b:Nat}(K:a<65536)(hb:b<65536):a ||| b<65536:=Nat.or_lt_two_pow (n:=16) K hb
theorem QE{n:Nat}(K:n<16):1<<<n<65536:=by rw [Nat.one_shiftLeft];exact Nat.pow_lt_pow_right (by omega) (show n<16 from K)
def Gn(n:Nat)(l:List Int):Prop:=∀x∈l,0≤x∧x<(n:Int)
def CJ(l:List Int):Nat:=l.foldl (fun s x=>s ||| 1<<<x.toNat) 0
theorem Sx(l:List Int)(x:Int):CJ (l++ [x])=CJ l ||| 1<<<x.toNat:=by simp [CJ]
theorem Px{l:List Int}(h:Gn 16 l):CJ l<65536:=by
 have key:∀(l:List Int) (s:Nat),s<65536→Gn 16 l→l.foldl (fun s x=>s ||| 1<<<x.toNat) s<65536:=by
  intro l
  induction l with
  | nil=>intro s hs _;exact hs
  | cons x l O=>
   intro s hs K;have V:=K x (by simp);exact O _ (Mx hs (QE (by omega))) fun y U=>K y (by simp [U])
 exact key l 0 (by omega) h
theorem Ln{l:List Int}(h:∀x∈l,0≤x)(n:Nat):(CJ l).testBit n=decide ((n:Int)∈l):=by
 have key:∀(l:List Int) (s:Nat),(∀x∈l,0≤x)→(l.foldl (fun s x=>s ||| 1<<<x.toNat) s).testBit n=(s.testBit n || decide ((n:Int)∈l)):=by
  intro l
  induction l with
  | nil=>intro s _;simp
  | cons x l O=>
   intro s K;have V:=K x (by simp);rw [List.foldl_cons,O _ fun y U=>K y (by simp [U]),Nat.testBit_or];have e:(1<<<x.toNat).testBit n=decide ((n:Int)=x):=by
    rw [Nat.one_shiftLeft,Nat.testBit_two_pow];exact decide_eq_decide.2 ⟨fun h=>by omega,fun h=>by omega⟩
   rw [e,Bool.or_assoc];congr 1;simp
 rw [CJ,key l 0 h];simp
theorem Qq{F:Nat}{l:List Int}(V:100<F)(W:l.length<100)(h:Gn 16 l):f120 F l=some (CJ l):=by
 refine Eh ?_;unfold f120;refine AS (S:=fun r=>r=CJ l) ?_ (by rintro r rfl;exact Aq rfl);refine C5 l.length (fun i s=>s=(CJ (l.take i),(i:Int))) (by simp [CJ]) (by omega) ?_ ?_
 ·rintro i s hi rfl;unfold LI;refine Ci (by simp;omega) (BN (m:=i) rfl hi ?_);have Y:=h l[i] (List.getElem_mem hi);have O:l[i]=((l[i].toNat:Nat):Int):=by omega
  have hs:CJ (l.take i)<65536:=Px fun y U=>h y (List.mem_of_mem_take U);have K:=QL F (n:=l[i].toNat) hs (by omega);rw [← O] at K;refine AW K ?_;refine A9 ((i+1:Nat):Int) (by simp) (by omega) (by omega) ?_;refine Aq ?_;show _=_;rw [List.take_add_one,List.getElem?_eq_getElem hi];simp only [Option.toList_some];rw [Sx]
 ·rintro s rfl;unfold LI;exact Br (by simp) (Aq ⟨_,rfl,by simp⟩)
def Ct(s:Nat)(k:Nat):List Int:=((List.range k).filter (fun n=>s.testBit n)).map (fun(n:Nat)=>(n:Int))
theorem R6(s k:Nat):Ct s (k+1)=if s.testBit k=true then Ct s k++ [(k:Int)] else Ct s k:=by
 unfold Ct;rw [List.range_succ,List.filter_append];by_cases h:s.testBit k=true
 ·rw [if_pos h];simp [h]
 ·rw [if_neg h];simp [h]
theorem M0(s k:Nat):(Ct s k).length≤k:=by
 unfold Ct;rw [List.length_map];exact Nat.le_trans (List.length_filter_le _ _) (by simp)
theorem GZ{s k:Nat}{x:Int}:x∈Ct s k↔∃n:Nat,n<k∧s.testBit n=true∧x=(n:Int):=by
 unfold Ct;simp only [List.mem_map,List.mem_filter,List.mem_range];exact⟨fun⟨n,⟨K,O⟩,U⟩=>⟨n,K,O,U.symm⟩,fun⟨n,K,O,U⟩=>⟨n,⟨K,O⟩,U.symm⟩⟩
theorem NF{F s:Nat}(K:100<F)(hs:s<65536):f89 F s=some (Ct s 16):=by
 refine Eh ?_;unfold f89;refine AS (S:=fun r=>r=Ct s 16) ?_ (by rintro r rfl;exact Aq rfl);refine C5 16 (fun i st=>st=(Ct s i,(i:Int))) rfl (by omega) ?_ ?_
 ·rintro i st hi rfl;unfold L4;refine Ci (by simp only;omega) (AW (Qo F hs (by omega)) ?_);have hlen:=M0 s i;refine AS (S:=fun r=>r=Ct s (i+1)) ?_ ?_
  ·rw [R6];refine Cc (fun h=>?_) (fun h=>?_)
   ·rw [if_pos h];exact Hl (by simp only;omega) (Aq rfl)
   ·rw [if_neg h];exact Aq rfl
  ·rintro r rfl;exact A9 ((i+1:Nat):Int) (by simp) (by omega) (by omega) (Aq rfl)
 ·rintro st rfl;unfold L4;exact Br (by simp) (Aq ⟨_,rfl,rfl⟩)
end Pal
namespace Pal
abbrev JW:=List (List Int)×List (List Int)
structure VL (n:Nat) (l:List Int):Prop where
 len:l.length≤3
 inr:Gn n l
 Gr:l.Pairwise (·<·)
structure VJ (n:Nat) (J:JW):Prop where
 pos:0<n
 le:n≤8
 l1:J.1.length=n
 l2:J.2.length=n
 nx:∀(i:Nat) l,J.1[i]? =some l→VL n l∧0<l.length
 fl:∀(i:Nat) l,J.2[i]? =some l→VL n l∧(i:Int) ∉ l
theorem Wj{l:List Int}(h:l.Pairwise (·<·)){i:Nat}(hi:i<l.length)(K:0<i):¬(l[i]≤l[i - 1]'(by omega)):=by
 have:=List.pairwise_iff_getElem.1 h (i - 1) i (by omega) hi (by omega);omega
theorem Qg{F n:Nat}{J:JW}{m:Nat}{l:List Int}{b:Bool}(O:100<F)(U:J.1.length=n)(V:0<n∧n≤8)(K:VL n l)(hb:b=true∨(m:Int) ∉ l):f136 F J (m:Int) l b=some none:=by
 refine Eh ?_;unfold f136;have hlen:=K.len;refine AS (S:=fun q=>q=Sum.inr ()) ?_ (by rintro q rfl;exact Aq rfl);refine C5 l.length (fun i s=>s=(i:Int)) rfl (by omega) ?_ ?_
 ·rintro i s hi rfl;unfold LO;have W:=K.inr l[i] (List.getElem_mem hi);refine Ci (by omega) (BN (m:=i) rfl hi ?_);refine A9 ((n - 1:Nat):Int) (by omega) (by omega) (by omega) (AW (IZ F _ _ _) ?_);refine Br (by simp;omega) (AS (S:=fun c=>c=false) ?_ ?_)
  ·refine Cc (fun h=>?_) (fun h=>Aq rfl);rcases hb with rfl | hb
   ·exact Aq rfl
   ·exact absurd (h▸List.getElem_mem hi) hb
  ·rintro c rfl;refine Br (by simp) (AS (S:=fun c=>c=false) ?_ ?_)
   ·refine Cc (fun h=>?_) (fun h=>Aq rfl);refine A9 ((i - 1:Nat):Int) (by omega) (by omega) (by omega) (BN (m:=i - 1) rfl (by omega) ?_);exact Aq (decide_eq_false (Wj K.Gr hi (by omega)))
   ·rintro c rfl;refine Br (by simp) (A9 ((i+1:Nat):Int) (by simp) (by omega) (by omega) ?_);exact Aq rfl
 ·rintro s rfl;unfold LO;exact Br (by omega) (Aq ⟨_,rfl,rfl⟩)
theorem Vr{F n:Nat}{J:JW}(O:100<F)(hJ:VJ n J):f113 F J=some none:=by
 have U:=hJ.l1;have Z:=hJ.l2;have V:=hJ.pos;have W:=hJ.le;refine Eh ?_;unfold f113;refine Br (by omega) (Br (by omega) (Br (by omega) ?_));refine AS (S:=fun q=>q=Sum.inr ()) ?_ (by rintro q rfl;exact Aq rfl);refine C5 n (fun i s=>s=(i:Int)) rfl (by omega) ?_ ?_
 ·rintro i s hi rfl;unfold LL;have Y:i<J.1.length:=by omega
  have K:i<J.2.length:=by omega
  obtain⟨v1,v2⟩:=hJ.nx i _ (List.getElem?_eq_getElem Y);obtain⟨w1,w2⟩:=hJ.fl i _ (List.getElem?_eq_getElem K);have aa:=v1.len;have g2:=w1.len;refine Ci (by omega) (BN (m:=i) rfl Y ?_);refine Br (by omega) (Br (by omega) ?_);refine AW (Qg O U ⟨V,W⟩ v1 (.inl rfl)) (Br (by simp) ?_);refine BN (m:=i) rfl K (Br (by omega) ?_);refine BN (m:=i) rfl K (AW (Qg O U ⟨V,W⟩ w1 (.inr w2)) ?_);refine Br (by simp) (A9 ((i+1:Nat):Int) (by simp) (by omega) (by omega) ?_);exact Aq rfl
 ·rintro s rfl;unfold LL;exact Br (by omega) (Aq ⟨_,rfl,rfl⟩)
theorem Sy(F:Nat):Je F none=some 0:=by
 unfold Je f112;have h:∃b,f135 F=some b:=by unfold f135;exact⟨_,rfl⟩
 obtain⟨b,hb⟩:=h;rw [hb];cases b <;> rfl
def F6(nx:List (List Int))(s:Nat):Nat:=(Ct s 16).foldl (fun o m=>o ||| CJ (nx.getD m.toNat [])) 0
theorem VJ.EA{n:Nat}{J:JW}(hJ:VJ n J)(m:Nat):VL n (J.1.getD m []):=by
 rw [List.getD_eq_getElem?_getD];cases h:J.1[m]? with
 | none=>exact⟨by simp,fun x K=>by simp at K,by simp⟩
 | some l=>exact(hJ.nx m l h).1
theorem Gn.Ai{n m:Nat}{l:List Int}(h:Gn n l)(hle:n≤m):Gn m l:=fun x K=>by have:=h x K;omega
theorem J2{n:Nat}{J:JW}(hJ:VJ n J)(s k:Nat):(F6 J.1 s).testBit k=true↔∃m,m<16∧s.testBit m=true∧(k:Int)∈J.1.getD m []:=by
 have key:∀(l:List Int) (o:Nat),(l.foldl (fun o m=>o ||| CJ (J.1.getD m.toNat [])) o).testBit k=true↔o.testBit k=true∨∃m∈l,(k:Int)∈J.1.getD m.toNat []:=by
  intro l
  induction l with
  | nil=>intro o;simp
  | cons x l U=>
   intro o;rw [List.foldl_cons,U,Nat.testBit_or,Bool.or_eq_true,Ln fun y V=>((hJ.EA x.toNat).inr y V).1,decide_eq_true_eq];simp only [List.mem_cons,exists_eq_or_imp,or_assoc]
 unfold F6;rw [key];simp only [Nat.zero_testBit,Bool.false_eq_true,false_or];constructor
 ·rintro⟨x,W,Y⟩;obtain⟨m,K,O,rfl⟩:=GZ.1 W;exact⟨m,K,O,Y⟩
 ·rintro⟨m,K,O,Z⟩;exact⟨(m:Int),GZ.2 ⟨m,K,O,rfl⟩,by simpa using Z⟩
theorem SD{n s:Nat}(h:∀k,n≤k→s.testBit k=false):s<2 ^ n:=Nat.lt_pow_two_of_testBit s h
theorem Qz{n:Nat}{J:JW}(hJ:VJ n J)(s:Nat):F6 J.1 s<2 ^ n:=by
 refine SD fun k O=>?_;cases h:(F6 J.1 s).testBit k with
 | false=>rfl
 | true=>
  obtain⟨m,_,_,K⟩:=(J2 hJ s k).1 h;have:=(hJ.EA m).inr _ K;omega
theorem Qd{n:Nat}(h:n≤8):2 ^ n≤256:=Nat.pow_le_pow_right (by omega) h
theorem Hp{n s k:Nat}(h:s<2 ^ n)(O:s.testBit k=true):k<n:=by
 rcases Nat.lt_or_ge k n with K | K
 ·exact K
 ·rw [Nat.testBit_lt_two_pow (Nat.lt_of_lt_of_le h (Nat.pow_le_pow_right (by omega) K))] at O;cases O
theorem TJ{F n:Nat}{J:JW}{A:List Nat}{s:Nat}(U:100<F)(hJ:VJ n J)(hs:s<2 ^ n):Kh F (J.1,J.2,A) s=some (F6 J.1 s,(J.1,J.2,A)):=by
 have aa:=hJ.l1;have Z:=hJ.le;have ab:=Qd Z;refine Eh ?_;unfold Kh;refine AW (NF U (by omega)) ?_;refine AS (S:=fun r=>r=F6 J.1 s) ?_ (by rintro r rfl;exact Aq rfl);have hlen:=M0 s 16;refine C5 (Ct s 16).length (fun i st=>st=(((Ct s 16).take i).foldl (fun o m=>o ||| CJ (J.1.getD m.toNat [])) 0,(i:Int))∧((Ct s 16).take i).foldl (fun o m=>o ||| CJ (J.1.getD m.toNat [])) 0<65536) ⟨rfl,by simp⟩ (by omega) ?_ ?_
 ·rintro i st hi ⟨rfl,V⟩;unfold Ls;obtain⟨m,ae,g2,W⟩:=GZ.1 (List.getElem_mem hi);have hm:=Hp hs g2;have K:m<J.1.length:=by omega
  have O:=(hJ.nx m _ (List.getElem?_eq_getElem K)).1;have ah:=O.len;refine Ci (by simp;omega) ?_;refine BN (m:=i) rfl hi ?_;refine BN (m:=m) W K ?_;refine AW (Qq U (show J.1[m].length<100 by omega) (O.inr.Ai (by omega))) ?_;have Y:CJ J.1[m]<65536:=Px (O.inr.Ai (by omega));refine AW (b:=((Ct s 16).take i).foldl (fun o m=>o ||| CJ (J.1.getD m.toNat [])) 0 ||| CJ J.1[m]) (if_pos ⟨V,Y⟩) ?_;refine A9 ((i+1:Nat):Int) (by simp) (by omega) (by omega) ?_;have e:((Ct s 16).take (i+1)).foldl (fun o m=>o ||| CJ (J.1.getD m.toNat [])) 0=((Ct s 16).take i).foldl (fun o m=>o ||| CJ (J.1.getD m.toNat [])) 0 ||| CJ J.1[m]:=by
   rw [List.take_add_one,List.getElem?_eq_getElem hi,List.foldl_append,W];simp [List.getD_eq_getElem?_getD,K]
  refine Aq ⟨?_,?_⟩
  ·rw [e]
  ·rw [e];exact Mx V Y
 ·rintro st ⟨rfl,_⟩;unfold Ls;refine Br (by simp) (Aq ⟨_,rfl,?_⟩);rw [List.take_length];rfl
def AG(J:JW):Nat→Nat
 | 0=>1
 | a+1=>F6 J.1 (AG J a)
theorem H0{n:Nat}{J:JW}(hJ:VJ n J):∀a,AG J a<2 ^ n
 | 0=>Nat.one_lt_two_pow (by have:=hJ.pos;omega)
 | a+1=>Qz hJ _
def FP(J:JW):List Nat:=(List.range 13).map (AG J)
def Kr(J:JW)(n k:Nat)(A:List Nat):Prop:=A.length=13∧(∀i,i≤k→i<13→A[i]? =some (AG J i))∧∀x∈A,x<2 ^ n
theorem Kr.all{J:JW}{n:Nat}{A:List Nat}(h:Kr J n 12 A):A=FP J:=by
 apply List.ext_getElem?;intro i;rcases Nat.lt_or_ge i 13 with hi | hi
 ·rw [h.2.1 i (by omega) hi];simp [FP,hi]
 ·rw [List.getElem?_eq_none (by rw [h.1];exact hi),List.getElem?_eq_none (by simp [FP];exact hi)]
theorem Pb{F n:Nat}{J:JW}{A:List Nat}(Z:100<F)(hJ:VJ n J)(aa:A.length=13)(W:∀x∈A,x<2 ^ n):
  A0 (iter (Kd F) F (J.1,J.2,A,A,0)) (fun r=>r.1=J.1∧r.2.1=J.2∧r.2.2.1=A∧r.2.2.2.length=13∧r.2.2.2[0]? =A[0]? ∧(∀i,i<12→∀s,A[i]? =some s→r.2.2.2[i+1]? =some (F6 J.1 s))∧∀x∈r.2.2.2,x<2 ^ n):=by
 refine C5 12 (fun k st=>∃B:List Nat,st=(J.1,J.2,A,B,(k:Int))∧B.length=13∧B[0]? =A[0]? ∧(∀i,i<k→∀s,A[i]? =some s→B[i+1]? =some (F6 J.1 s))∧∀x∈B,x<2 ^ n) ⟨A,rfl,aa,rfl,fun i hi=>by omega,W⟩ (by omega) ?_ ?_
 ·rintro k st ae ⟨B,rfl,K,O,hs,hb⟩;unfold Kd;have U:k<A.length:=by omega
  have Y:k+1<B.length:=by omega
  refine Ci (by simp only;omega) (A9 ((k+1:Nat):Int) (by simp) (by omega) (by omega) ?_);refine BN (m:=k) rfl U (AW (TJ Z hJ (W _ (List.getElem_mem U))) ?_);refine BN (m:=k+1) rfl Y (A9 ((k+1:Nat):Int) (by simp) (by omega) (by omega) ?_);refine Aq ⟨B.set (k+1) (F6 J.1 A[k]),rfl,by simpa using K,?_,?_,?_⟩
  ·rw [List.getElem?_set_ne (by omega)];exact O
  ·intro i hi s V;by_cases e:i=k
   ·subst e;rw [List.getElem?_set_self Y];have:A[i]=s:=by rw [List.getElem?_eq_getElem U] at V;exact Option.some.inj V
    rw [this]
   ·rw [List.getElem?_set_ne (by omega)];exact hs i (by omega) s V
  ·intro x ab;rcases List.mem_or_eq_of_mem_set ab with h | h
   ·exact hb x h
   ·subst h;exact Qz hJ _
 ·rintro st ⟨B,rfl,K,O,hs,hb⟩;unfold Kd;refine Br (by simp) (Aq ⟨_,rfl,rfl,rfl,rfl,K,O,hs,hb⟩)
theorem Q0{F n:Nat}{J:JW}(ab:100<F)(hJ:VJ n J):f92 F J=some (some (J.1,J.2,FP J)):=by
 have an:=hJ.pos;refine Eh ?_;unfold f92;refine BN (m:=0) rfl (by simp) ?_;refine AS (S:=fun q=>q=Sum.inl (some (J.1,J.2,FP J))) ?_ (by rintro q rfl;exact Aq rfl);refine C5 12 (fun k st=>∃A:List Nat,st=(J.1,J.2,A)∧Kr J n k A) ?_ (by omega) ?_ ?_
 ·refine⟨_,rfl,by simp,fun i hi _=>?_,fun x ae=>?_⟩
  ·obtain rfl:i=0:=by omega
   rfl
  ·rcases List.mem_or_eq_of_mem_set ae with h | h
   ·simp at h;subst h;exact Nat.two_pow_pos n
   ·subst h;exact Nat.one_lt_two_pow (by omega)
 ·rintro k st ao ⟨A,rfl,K⟩;unfold L3;refine AS (Pb ab hJ K.1 K.2.2) ?_;rintro⟨ah,ai,Z,B⟩ ⟨W,e2,Y,O,g2,U,V⟩;simp only at W e2 Y O g2 U V ⊢;subst W e2 Y;refine Cc (fun h=>?_) (fun h=>?_)
  ·refine Aq ⟨B,rfl,O,fun i hi aa=>?_,V⟩;cases i with
   | zero=>rw [g2];exact K.2.1 0 (by omega) (by omega)
   | succ i=>exact U i (by omega) _ (K.2.1 i (by omega) (by omega))
  ·have e:B=Z:=Decidable.byContradiction fun aj=>h aj;subst e;refine Aq ?_;show _=_;have ak:Kr J n 12 B:=by
    refine⟨O,fun i hi aa=>?_,V⟩;have:∀i,i<13→B[i]? =some (AG J i):=by
     intro i
     induction i with
     | zero=>intro _;exact K.2.1 0 (by omega) (by omega)
     | succ i al=>intro h;exact U i (by omega) _ (al (by omega))
    exact this i aa
   rw [ak.all]
 ·rintro st ⟨A,rfl,K⟩;unfold L3;refine AS (Pb ab hJ K.1 K.2.2) ?_;rintro⟨ah,ai,Z,B⟩ ⟨W,e2,Y,O,g2,U,V⟩;simp only at W e2 Y O g2 U V ⊢;subst W e2 Y;have am:Kr J n 12 B:=by
   refine⟨O,fun i hi aa=>?_,V⟩;cases i with
   | zero=>rw [g2];exact K.2.1 0 (by omega) (by omega)
   | succ i=>exact U i (by omega) _ (K.2.1 i (by omega) (by omega))
  have e:B=Z:=by rw [am.all,K.all]
  refine Br (by rw [e];simp) (Aq ⟨_,rfl,?_⟩);rw [K.all]
end Pal
namespace Pal
theorem Vb(J:JW){a:Nat}(K:a<13):(FP J)[a]? =some (AG J a):=by simp [FP,K]
abbrev DX:=List Int×Int×Nat
def BG(k:Nat)(b:DX):Prop:=0≤b.2.1∧b.2.1≤(k:Int)
theorem BG.Ai{k k':Nat}{b:DX}(h:BG k b)(K:k≤k'):BG k' b:=⟨h.1,by have:=h.2;omega⟩
theorem UC{F k:Nat}{b:DX}(hb:BG k b)(K:k<1000000):A0 (f100 F b) (fun r=>r.1<2 ^ 64∧BG (k+1) r.2):=by
 obtain⟨O,U⟩:=hb;unfold f100;refine A9 (b.2.1+1) rfl (by omega) (by omega) ?_;have key:∀x:Nat,(x % 2 ^ 64)>>>11<2 ^ 64:=fun x=>Nat.lt_of_le_of_lt (Nat.shiftRight_le _ _) (Nat.mod_lt _ (Nat.two_pow_pos 64));refine AS (S:=fun _=>True) ?_ ?_
 ·refine Cc (fun h=>?_) (fun h=>?_)
  ·refine A9 b.2.1 (by omega) (by omega) (by omega) (BN (m:=b.2.1.toNat) (by omega) (by omega) ?_);exact Aq trivial
  ·exact Aq trivial
 ·intro x _;exact Aq ⟨key _,by simp only;omega,by simp only;omega⟩
theorem Tk{a:Nat}(h:a<2 ^ 62):KF a=(a:Int):=by
 unfold KF;exact Ij (by omega)
theorem G8{F k:Nat}{b:DX}{m:Int}(hb:BG k b)(O:k<1000000)(hm:m<1000000):A0 (f41 F b m) (fun r=>0≤r.1∧(r.1≤m∨r.1=0)∧BG (k+1) r.2):=by
 unfold f41;refine AS (UC hb O) ?_;rintro⟨x,W⟩ ⟨Y,K⟩;refine Cc (fun h=>?_) (fun h=>?_)
 ·exact Aq ⟨by simp,.inr rfl,K⟩
 ·have U:CX m=m.toNat:=by unfold CX;omega
  have e2:(CX m+1) % 2 ^ 64=m.toNat+1:=by rw [U];omega
  have V:x % (m.toNat+1)<m.toNat+1:=Nat.mod_lt _ (by omega);refine AW (b:=x % (m.toNat+1)) (by rw [e2];unfold Mt;rw [if_neg (by omega)]) ?_;refine Aq ?_;simp only;generalize x % (m.toNat+1)=z at V ⊢;rw [Tk (by omega)];exact⟨by omega,.inl (by omega),K⟩
theorem NJ{F k:Nat}{b:DX}{lo hi:Int}(hb:BG k b)(O:k<1000000)(V:0≤lo)(W:lo≤hi)(Y:hi<1000):A0 (f96 F b lo hi) (fun r=>lo≤r.1∧r.1≤hi∧BG (k+1) r.2):=by
 unfold f96;refine A9 (hi - lo) rfl (by omega) (by omega) (AS (G8 hb O (by omega)) ?_);rintro⟨x,Z⟩ ⟨U,g2,K⟩;simp only at U g2 K ⊢;exact A9 (lo+x) rfl (by omega) (by omega) (Aq ⟨by simp only;omega,by simp only;omega,K⟩)
theorem Kf{F k:Nat}{b:DX}{m:Int}(hb:BG k b)(K:k<1000000)(U:1≤m)(V:m<1000):A0 (f97 F b m) (fun r=>BG (k+1) r.2):=by
 unfold f97;refine A9 (m - 1) rfl (by omega) (by omega) (AS (G8 hb K (by omega)) ?_);rintro⟨x,W⟩ ⟨Y,g2,O⟩;exact Aq O
theorem LV{F k:Nat}{b:DX}{l:List Int}(hb:BG k b)(U:k<1000000)(W:0<l.length)(Y:l.length<1000):A0 (f99 F b l) (fun r=>r.1∈l∧BG (k+1) r.2):=by
 unfold f99;refine A9 ((l.length - 1:Nat):Int) (by omega) (by omega) (by omega) (AS (G8 hb U (by omega)) ?_);rintro⟨x,Z⟩ ⟨V,g2,K⟩;simp only at V g2 K ⊢;have O:x.toNat<l.length:=by omega
 exact BN (m:=x.toNat) (by omega) O (Aq ⟨List.getElem_mem O,K⟩)
theorem UF{F:Nat}{x:Int}(K:100<F):f98 F [] x=some [x]:=by
 obtain⟨F,rfl⟩:∃k,F=k+1:=⟨F - 1,by omega⟩;refine Eh ?_;unfold f98;refine AW (b:=([],false)) ?_ ?_
 ·unfold iter;rfl
 ·refine AW (b:= [x]) ?_ (Aq rfl)
  rfl
theorem UD{F:Nat}{a x:Int}(ae:100<F):f98 F [a] x=some (if x<a then [x,a] else if x=a then [a] else [a,x]):=by
 obtain⟨F,rfl⟩:∃k,F=k+2:=⟨F - 2,by omega⟩;refine Eh ?_;unfold f98;have U:Au 1=some 1:=rfl;have V:ix [a] 0=some a:=rfl;have r0:room ([]:List Int) x=some [x]:=if_pos (by simp);have Z:room ([]:List Int) a=some [a]:=if_pos (by simp);have aa:room [x] a=some [x,a]:=if_pos (by simp);have ab:room [a] x=some [a,x]:=if_pos (by simp);have step:I8 (F+2) [a] x ([],false,0)=some (.more (if x<a then([x,a],true,1) else if x=a then([x],true,1) else([a],false,1))):=by
  unfold I8;rcases Int.lt_trichotomy x a with h | h | h
  ·have W:x≤a:=by omega
   have Y:a≠x:=by omega
   simp [V,h,W,Y,r0,aa,U]
  ·subst h;simp [V,r0,U]
  ·have W:¬x≤a:=by omega
   have Y:a≠x:=by omega
   have K:¬x<a:=by omega
   have O:¬x=a:=by omega
   simp [V,W,Y,K,O,Z,U]
 have last:∀(o:List Int) (b:Bool),I8 (F+2) [a] x (o,b,1)=some (.done (o,b)):=by
  intro o b;unfold I8;simp
 rcases Int.lt_trichotomy x a with h | h | h
 ·rw [if_pos h] at step;refine AW (b:=([x,a],true)) ?_ ?_
  ·unfold iter;rw [step];simp only;unfold iter;rw [last]
  ·rw [if_pos h];exact AW (b:= [x,a]) (by simp) (Aq rfl)
 ·subst h;rw [if_neg (by omega),if_pos rfl] at step;refine AW (b:=([x],true)) ?_ ?_
  ·unfold iter;rw [step];simp only;unfold iter;rw [last]
  ·rw [if_neg (show ¬x<x by omega),if_pos (rfl:x=x)];exact AW (b:= [x]) (by simp) (Aq rfl)
 ·have K:¬x<a:=by omega
  have O:¬x=a:=by omega
  rw [if_neg K,if_neg O] at step;refine AW (b:=([a],false)) ?_ ?_
  ·unfold iter;rw [step];simp only;unfold iter;rw [last]
  ·rw [if_neg K,if_neg O];exact AW (b:= [a,x]) (by simp [ab]) (Aq rfl)
theorem QG{F n:Nat}{l:List Int}{x:Int}(O:100<F)(U:Gn n l)(V:l.length≤1)(W:0≤x∧x<(n:Int)):A0 (f98 F l x) (fun r=>VL n r∧0<r.length∧r.length≤l.length+1∧∀y∈r,y=x∨y∈l):=by
 match l,V with
 | [],_=>
  rw [UF O];exact Aq ⟨⟨by simp,fun y K=>by simp at K;subst K;exact W,by simp⟩,by simp,by simp,fun y K=>by simpa using K⟩
 | [a],_=>
  rw [UD O];have Y:=U a (by simp);refine Aq ?_;rcases Int.lt_trichotomy x a with h | h | h
  ·rw [if_pos h];exact⟨⟨by simp,fun y K=>by simp at K;rcases K with rfl | rfl <;> assumption,by simpa using h⟩,by simp,by simp,fun y K=>by simpa using K⟩
  ·rw [if_neg (by omega),if_pos h];exact⟨⟨by simp,fun y K=>by simp at K;subst K;exact Y,by simp⟩,by simp,by simp,fun y K=>by simp at K;subst K;simp⟩
  ·rw [if_neg (by omega),if_neg (by omega)];exact⟨⟨by simp,fun y K=>by simp at K;rcases K with rfl | rfl <;> assumption,by simpa using h⟩,by simp,by simp,fun y K=>by simp at K;rcases K with rfl | rfl <;> simp⟩
 | a::b::l,h=>simp at h
structure PJ (n i:Nat) (N K:List (List Int)):Prop where
 l1:N.length=i
 l2:K.length=i
 nx:∀(q:Nat) l,N[q]? =some l→VL n l∧0<l.length
 fl:∀(q:Nat) l,K[q]? =some l→VL n l∧(q:Int) ∉ l
theorem PJ.snoc{n i:Nat}{N U:List (List Int)}{a b:List Int}(h:PJ n i N U)(V:VL n a∧0<a.length)(hb:VL n b∧(i:Int) ∉ b):PJ n (i+1) (N++ [a]) (U++ [b]):=by
 refine⟨by simp [h.l1],by simp [h.l2],fun q l K=>?_,fun q l K=>?_⟩
 ·rcases Nat.lt_or_ge q N.length with O | O
  ·rw [List.getElem?_append_left O] at K;exact h.nx q l K
  ·rw [List.getElem?_append_right O] at K;have:q - N.length=0:=by
    rcases Nat.eq_zero_or_pos (q - N.length) with e | e
    ·exact e
    ·rw [List.getElem?_eq_none (by simp;omega)] at K;cases K
   rw [this] at K;simp at K;subst K;exact V
 ·rcases Nat.lt_or_ge q U.length with O | O
  ·rw [List.getElem?_append_left O] at K;exact h.fl q l K
  ·rw [List.getElem?_append_right O] at K;have e:q - U.length=0:=by
    rcases Nat.eq_zero_or_pos (q - U.length) with e | e
    ·exact e
    ·rw [List.getElem?_eq_none (by simp;omega)] at K;cases K
   rw [e] at K;simp at K;subst K;have:q=i:=by have:=h.l2;omega
   subst this;exact hb
theorem Tb{F n i k:Nat}{aa:Int×DX}{ab:(List (List Int))×(List (List Int))×(List Int)×Int×Nat×Int}{b:DX}{c:Int}(ao:100<F)(ae:aa.1=(n:Int))(ah:ab.2.2.2.2.2=(i:Int))(hi:i<n)(au:n≤8)(hb:BG k b)(av:k<1000)(aw:c=0∨c=1∨c=2):
  A0 (iter (LW F aa ab) F (b.1,b.2.1,b.2.2,[],c)) (fun r=>VL n r.1∧(i:Int) ∉ r.1∧BG (k+10) r.2):=by
 refine Lt (fun m st=>∃(l:List Int) (K:DX),st=(K.1,K.2.1,K.2.2,l,(m:Int))∧m≤2∧VL n l∧(i:Int) ∉ l∧l.length≤2 - m∧BG (k+10 - 4*m) K) ?_ (m:=c.toNat) ⟨[],b,by simp;omega,by omega,⟨by simp,fun x ap=>by simp at ap,by simp⟩,by simp,by simp,hb.Ai (by omega)⟩ (by omega);rintro m st ⟨l,K,rfl,ay,W,Y,hlen,ai⟩;unfold LW;refine AS (S:=fun q=>q=decide (0<m∧1<n)) ?_ ?_
 ·refine Cc (fun h=>?_) (fun h=>?_)
  ·refine Aq ?_;rw [ae];exact decide_eq_decide.2 ⟨fun aj=>⟨by simp only at h;omega,by omega⟩,fun aj=>by omega⟩
  ·refine Aq ?_;have:¬0<m:=by simp only at h;omega
   simp [this]
 ·rintro q rfl;refine Cc (fun h=>?_) (fun h=>?_)
  ·have aj:0<m∧1<n:=of_decide_eq_true h;refine A9 ((i:Int) - 1) (by rw [ah]) (by omega) (by omega) ?_;refine AS (G8 (F:=F) (b:=(K.1,K.2.1,K.2.2)) (m:=max 0 ((i:Int) - 1)) ai (by omega) (by omega)) ?_;rintro⟨y,az⟩ ⟨ak,g2,al⟩;simp only at ak g2 al ⊢;refine AS (Kf (F:=F) al (by omega) (by omega) (by omega)) ?_;rintro⟨o,aA⟩ Z;simp only at Z ⊢;refine AS (S:=fun r=>0≤r.1∧r.1<(n:Int)∧BG (k+10 - 4*m+1+1+1) r.2) ?_ ?_
   ·refine Cc (fun _=>?_) (fun _=>?_)
    ·refine A9 ((n:Int) - 1) (by rw [ae]) (by omega) (by omega) (AS (G8 (F:=F) Z (by omega) (by omega)) ?_);rintro⟨z,am⟩ ⟨O,U,V⟩;exact Aq ⟨O,by simp only at O U ⊢;omega,V⟩
    ·exact Aq ⟨ak,by simp only;omega,BG.Ai Z (by omega)⟩
   ·rintro⟨z,am⟩ ⟨O,U,V⟩;simp only at O U V ⊢;refine AS (S:=fun r=>VL n r∧(i:Int) ∉ r∧r.length≤l.length+1) ?_ ?_
    ·rw [ah];refine Cc (fun aq=>?_) (fun _=>?_)
     ·refine AS (QG (F:=F) ao W.inr (by omega) ⟨O,U⟩) ?_;rintro r ⟨v1,v2,an,v4⟩;refine Aq ⟨v1,fun ar=>?_,an⟩;rcases v4 _ ar with e | e
      ·exact aq e.symm
      ·exact Y e
     ·exact Aq ⟨W,Y,by omega⟩
    ·rintro r ⟨v1,v2,an⟩;exact A9 ((m - 1:Nat):Int) (by omega) (by omega) (by omega) (Aq ⟨m - 1,by omega,r,am,rfl,by omega,v1,v2,by omega,V.Ai (by omega)⟩)
  ·exact Aq ⟨W,Y,ai.Ai (by omega)⟩
theorem V3{F k mx:Nat}{b:DX}(ai:100<F)(hb:BG k b)(aC:k<100)(aD:1≤mx)(aE:mx≤8):A0 (f39 F b (mx:Int)) (fun r=>(∃n,n≤mx∧VJ n r.1)∧BG (k+301) r.2):=by
 unfold f39;refine AS (NJ (F:=F) hb (by omega) (by omega) (by omega) (by omega)) ?_;rintro⟨aj,av⟩ ⟨n1,aw,ak⟩;simp only at n1 aw ak;obtain⟨n,rfl⟩:∃n:Nat,aj=(n:Int):=⟨aj.toNat,by omega⟩;have aF:1≤n:=by omega
 have al:n≤8:=by omega
 refine AS (S:=fun r=>PJ n n r.2.2.2.1 r.2.2.2.2∧BG (k+301) (r.1,r.2.1,r.2.2.1)) ?_ ?_
 ·refine C5 n (fun i st=>∃(N O:List (List Int)) (W:DX),st=(N,O,W.1,W.2.1,W.2.2,(i:Int))∧PJ n i N O∧BG (k+1+30*i) W) ⟨[],[],av,rfl,⟨rfl,rfl,fun q l Z=>by simp at Z,fun q l Z=>by simp at Z⟩,ak⟩ (by omega) ?_ ?_
  ·rintro i st hi ⟨N,O,Y,rfl,K,aa⟩;unfold LY;refine Ci (by simp only;omega) (A9 ((n:Int) - 1) rfl (by omega) (by omega) ?_);refine A9 ((i+1:Nat):Int) (by simp) (by omega) (by omega) (AS (Kf (F:=F) (b:=(Y.1,Y.2.1,Y.2.2)) aa (by omega) (by omega) (by omega)) ?_);rintro⟨o,aG⟩ g2;simp only at g2 ⊢;have am:Gn n [min ((n:Int) - 1) ((i+1:Nat):Int)]:=fun x U=>by simp at U;subst U;omega
   refine AS (S:=fun r=>VL n r.1∧0<r.1.length∧BG (k+1+30*i+2) r.2) ?_ ?_
   ·refine Cc (fun _=>?_) (fun _=>?_)
    ·refine A9 ((n:Int) - 1) rfl (by omega) (by omega) (AS (NJ (F:=F) g2 (by omega) (by omega) (by omega) (by omega)) ?_);rintro⟨y,an⟩ ⟨ab,ae,V⟩;simp only at ab ae V ⊢;refine AS (QG (F:=F) ai am (by simp) ⟨by omega,by omega⟩) ?_;rintro r ⟨v1,v2,aH,v4⟩;exact Aq ⟨v1,v2,V⟩
    ·exact Aq ⟨⟨by simp,am,by simp⟩,by simp,BG.Ai g2 (by omega)⟩
   ·rintro⟨nx,an⟩ ⟨w1,w2,w3⟩;simp only at w1 w2 w3 ⊢;refine AS (Kf (F:=F) (b:=an) w3 (by omega) (by omega) (by omega)) ?_;rintro⟨aI,aJ⟩ ah;simp only at ah ⊢;refine AS (S:=fun r=>VL n r.1∧0<r.1.length∧BG (k+1+30*i+4) r.2) ?_ ?_
    ·refine Cc (fun _=>?_) (fun _=>?_)
     ·refine A9 ((n:Int) - 1) rfl (by omega) (by omega) (AS (G8 (F:=F) ah (by omega) (by omega)) ?_);rintro⟨y,ao⟩ ⟨ab,ae,V⟩;simp only at ab ae V ⊢;exact Aq ⟨⟨by simp,fun x U=>by simp at U;subst U;omega,by simp⟩,by simp,V⟩
     ·exact Aq ⟨w1,w2,BG.Ai ah (by omega)⟩
    ·rintro⟨ap,ao⟩ ⟨u1,aq,ar⟩;simp only at u1 aq ar ⊢;refine AS (LV (F:=F) (b:=ao) ar (by omega) (by simp) (by simp)) ?_;rintro⟨c,ay⟩ ⟨au,c2⟩;simp only at au c2 ⊢;have az:c=0∨c=1∨c=2:=by simp at au;omega
     refine AS (Tb (F:=F) (b:=ay) ai rfl rfl hi al c2 (by omega) az) ?_;rintro⟨fl,aA⟩ ⟨t1,t2,t3⟩;simp only at t1 t2 t3 ⊢;have aK:=K.l1;have aL:=K.l2;refine AW (b:=N++ [ap]) (if_pos (by simp;omega)) (AW (b:=O++ [fl]) (if_pos (by simp;omega)) ?_);exact A9 ((i+1:Nat):Int) (by simp) (by omega) (by omega) (Aq ⟨N++ [ap],O++ [fl],aA,rfl,K.snoc ⟨u1,aq⟩ ⟨t1,t2⟩,t3.Ai (by omega)⟩)
  ·rintro st ⟨N,O,Y,rfl,K,aa⟩;unfold LY;refine Br (by simp) (Aq ⟨_,rfl,K,aa.Ai (by omega)⟩)
 ·rintro⟨aM,aN,aO,N,O⟩ ⟨K,aB⟩;refine Aq ⟨⟨n,by omega,?_⟩,aB⟩;exact⟨by omega,al,K.l1,K.l2,K.nx,K.fl⟩
end Pal
namespace Pal
open Go Go.Conc Go.Proofs
open Go.Proofs.Tryz
end Pal
namespace Pal
end Pal
namespace Pal
open Go Go.Conc Go.Proofs
open Go.Proofs.Tryz
end Pal
namespace Pal
theorem VJ.Jq{n:Nat}{J:JW}(hJ:VJ n J)(m:Nat):VL n (J.2.getD m []):=by
 rw [List.getD_eq_getElem?_getD];cases h:J.2[m]? with
 | none=>exact⟨by simp,fun x K=>by simp at K,by simp⟩
 | some l=>exact(hJ.fl m l h).1
end Pal
namespace Pal
abbrev BE:=List (Int×Int)
structure B5 (n:Nat) (K:BE):Prop where
 len:K.length≤8
 yr:∀l∈K,0≤l.1∧l.1≤6
 sn:∀l∈K,0≤l.2∧l.2<(n:Int)
 Gr:K.Pairwise (fun a b=>a.1≤b.1)
theorem UQ{F n:Nat}{J:JW}{K:BE}(U:100<F)(hJ:VJ n J)(O:B5 n K)(V:K.length≤4):f116 F J K=some none:=by
 have W:=hJ.l1;have Y:=hJ.pos;have Z:=hJ.le;refine Eh ?_;unfold f116;refine Br (by omega) ?_;refine AS (S:=fun q=>q=Sum.inr ()) ?_ (by rintro q rfl;exact Aq rfl);refine C5 K.length (fun i s=>s=(i:Int)) rfl (by omega) ?_ ?_
 ·rintro i s hi rfl;unfold LU;have hm:=List.getElem_mem hi;have aa:=O.yr _ hm;have hs:=O.sn _ hm;refine Ci (by omega) (BN (m:=i) rfl hi ?_);refine AW (IZ F _ _ _) (Br (by simp;omega) ?_);refine AS (S:=fun c=>c=false) ?_ ?_
  ·refine Cc (fun h=>?_) (fun h=>Aq rfl);refine A9 ((i - 1:Nat):Int) (by omega) (by omega) (by omega) (BN (m:=i - 1) rfl (by omega) ?_);have:=List.pairwise_iff_getElem.1 O.Gr (i - 1) i (by omega) hi (by omega);exact Aq (decide_eq_false (by omega))
  ·rintro c rfl;refine Br (by simp) (A9 ((n - 1:Nat):Int) (by omega) (by omega) (by omega) ?_);refine AW (IZ F _ _ _) (Br (by simp;omega) ?_);exact A9 ((i+1:Nat):Int) (by simp) (by omega) (by omega) (Aq rfl)
 ·rintro s rfl;unfold LU;exact Br (by omega) (Aq ⟨_,rfl,rfl⟩)
theorem NP{F n:Nat}{J:JW}{K:BE}(O:100<F)(hJ:VJ n J)(U:B5 n K)(V:K.length≤4):f69 F J K=some 0:=by
 unfold f69;rw [Vr O hJ];simp only [Option.bind_some,Option.isSome_none,Bool.false_eq_true,if_false];rw [UQ O hJ U V];simp only [Option.bind_some];rw [Sy];rfl
def Ey(K:BE):Nat:=match K.getLast? with
 | some l=>l.1.toNat
 | none=>0
theorem Nk{n:Nat}{K:BE}(O:B5 n K):Ey K≤6:=by
 unfold Ey;split
 ·rename_i l h;have:=O.yr l (List.mem_of_getLast? h);omega
 ·omega
theorem PF{F n:Nat}{U:JW}{A:List Nat}{K:BE}{age:Int}{ms:List Int}{fl:Nat}(V:B5 n K):Kl F ((U.1,U.2,A),K,age,ms,fl)=some ((Ey K:Nat):Int):=by
 have W:=V.len;refine Eh ?_;unfold Kl Ey;refine Cc (fun h=>?_) (fun h=>?_)
 ·simp only at h;have:K= []:=List.length_eq_zero_iff.1 (by omega);subst this;exact Aq rfl
 ·simp only at h;have O:K.length - 1<K.length:=by omega
  refine A9 ((K.length - 1:Nat):Int) (by simp only;omega) (by omega) (by omega) (BN (m:=K.length - 1) rfl O ?_);rw [List.getLast?_eq_getElem?,List.getElem?_eq_getElem O];have:=V.yr _ (List.getElem_mem O);refine Aq ?_;simp only;omega
def EW(J:JW)(m:Int)(l:Int×Int):Bool:=decide (m=l.2) || decide (l.2∈J.2.getD m.toNat [])
def Fb(J:JW)(K:BE)(y:Nat)(m:Int):Bool:=K.all fun l=>decide (l.1≠(y:Int)) || EW J m l
def CW(K:BE)(y:Nat)(m:Int):Nat→Nat
 | 0=>0
 | k+1=>match K[k]? with
  | some l=>if l.1=(y:Int)∧m≠l.2 then CW K y m k ||| 1<<<k else CW K y m k
  | none=>CW K y m k
theorem L8(K:BE)(y:Nat)(m:Int):∀k,k≤16→CW K y m k<65536
 | 0,_=>by unfold CW;omega
 | k+1,h=>by
  have:=L8 K y m k (by omega)
  unfold CW
  split
  ·split
   ·exact Mx this (QE (by omega))
   ·exact this
  ·exact this
theorem Qs(Z:BE)(y:Nat)(m:Int)(i:Nat):∀k,(CW Z y m k).testBit i=true↔i<k∧∃l,Z[i]? =some l∧l.1=(y:Int)∧m≠l.2
 | 0=>by simp [CW]
 | k+1=>by
  have aa:=Qs Z y m i k
  have hb:(1<<<k).testBit i=decide (i=k):=by
   rw [Nat.one_shiftLeft,Nat.testBit_two_pow];exact decide_eq_decide.2 ⟨fun h=>h.symm,fun h=>h.symm⟩
  have key:∀P:Prop,(i<k∧P↔i<k+1∧P)∨i=k:=fun P=>by
   by_cases e:i=k
   ·exact .inr e
   ·exact .inl ⟨fun h=>⟨by omega,h.2⟩,fun h=>⟨by omega,h.2⟩⟩
  unfold CW;split
  ·rename_i l U;split
   ·rename_i V;rw [Nat.testBit_or,Bool.or_eq_true,aa,hb,decide_eq_true_iff];constructor
    ·rintro(⟨O,K⟩ | rfl)
     ·exact⟨by omega,K⟩
     ·exact⟨by omega,l,U,V.1,V.2⟩
    ·rintro⟨O,K⟩;by_cases e:i=k
     ·exact .inr e
     ·exact .inl ⟨by omega,K⟩
   ·rename_i V;rw [aa];constructor
    ·rintro⟨O,K⟩;exact⟨by omega,K⟩
    ·rintro⟨O,ab,K,W,Y⟩;by_cases e:i=k
     ·subst e;rw [U] at K;cases K;exact absurd ⟨W,Y⟩ V
     ·exact⟨by omega,ab,K,W,Y⟩
  ·rename_i U;rw [aa];constructor
   ·rintro⟨O,K⟩;exact⟨by omega,K⟩
   ·rintro⟨O,ab,K,W,Y⟩;by_cases e:i=k
    ·subst e;rw [U] at K;cases K
    ·exact⟨by omega,ab,K,W,Y⟩
theorem U2{F:Nat}{l:List Int}{x:Int}(V:100<F)(W:l.length<100):A0 (f201 F l x) (fun r=>decide (0≤r)=decide (x∈l)):=by
 unfold f201;refine AS (S:=fun q=>match q with | Sum.inl r=>0≤r∧x∈l | Sum.inr _=>x ∉ l) ?_ ?_
 ·refine C5 l.length (fun i s=>s=(i:Int)∧x ∉ l.take i) ⟨rfl,by simp⟩ (by omega) ?_ ?_
  ·rintro i s hi ⟨rfl,K⟩;unfold LB;refine Ci (by omega) (BN (m:=i) rfl hi ?_);refine Cc (fun h=>?_) (fun h=>?_)
   ·exact Aq ⟨by omega,by rw [h];exact List.getElem_mem hi⟩
   ·refine A9 ((i+1:Nat):Int) (by simp) (by omega) (by omega) (Aq ⟨rfl,?_⟩);rw [List.take_add_one,List.getElem?_eq_getElem hi];simp only [Option.toList_some,List.mem_append,List.mem_singleton];rintro(O | O)
    ·exact K O
    ·exact h O
  ·rintro s ⟨rfl,K⟩;unfold LB;exact Br (by omega) (Aq ⟨_,rfl,by simpa using K⟩)
 ·rintro(r | u) U
  ·exact Aq (by rw [decide_eq_true U.1,decide_eq_true U.2])
  ·exact Aq (by rw [decide_eq_false U];rfl)
theorem U1{F:Nat}{l:List Int}{x:Int}(K:100<F)(O:l.length<100):f199 F l x=some (decide (x∈l)):=by
 refine Eh ?_;unfold f199;refine AS (U2 K O) ?_;intro r U;exact Aq U
theorem UN{F n m:Nat}{J:JW}{A:List Nat}{s:Int}(O:100<F)(hJ:VJ n J)(hm:m<n):f192 F (J.1,J.2,A) (m:Int) s=some (if(m:Int)=s then some ((m:Int),none) else if s∈J.2.getD m [] then some ((m:Int),some s) else none):=by
 have V:=hJ.l2;refine Eh ?_;unfold f192;refine Cc (fun h=>?_) (fun h=>?_)
 ·rw [if_pos h];exact Aq rfl
 ·rw [if_neg h];have U:J.2[m]? =some (J.2.getD m []):=by rw [List.getD_eq_getElem?_getD,List.getElem?_eq_getElem (by omega)];rfl
  refine AW (CU (m:=m) rfl U) (AW (U1 O (by have:=(hJ.Jq m).len;omega)) ?_);refine Cc (fun K=>?_) (fun K=>?_)
  ·rw [if_pos (of_decide_eq_true K)];exact Aq rfl
  ·rw [if_neg (of_decide_eq_false (by simpa using K))];exact Aq rfl
theorem U7{F n m y:Nat}{J:JW}{A:List Nat}{K:BE}{age:Int}{ms:List Int}{fl:Nat}(ab:100<F)(hJ:VJ n J)(ae:B5 n K)(hm:m<n):
  Ki F ((J.1,J.2,A),K,age,ms,fl) (y:Int) (m:Int)=some (if Fb J K y (m:Int)=true then(CW K y (m:Int) K.length,true) else(0,false)):=by
 have ak:=ae.len;refine Eh ?_;unfold Ki;refine AS (S:=fun q=>(Fb J K y (m:Int)=true∧q=Sum.inr (CW K y (m:Int) K.length))∨(Fb J K y (m:Int)=false∧q=Sum.inl (0,false))) ?_ ?_
 ·refine C5 K.length (fun i s=>s=(CW K y (m:Int) i,(i:Int))∧∀l∈K.take i,(decide (l.1≠(y:Int)) || EW J (m:Int) l)=true) ⟨rfl,by simp⟩ (by omega) ?_ ?_
  ·rintro i s hi ⟨rfl,O⟩;unfold Lp;have ah:=L8 K y (m:Int) i (by omega);have aa:K[i]? =some K[i]:=List.getElem?_eq_getElem hi;have step:∀(l:Int×Int),l=K[i]→(decide (l.1≠(y:Int)) || EW J (m:Int) l)=true→∀U∈K.take (i+1),(decide (U.1≠(y:Int)) || EW J (m:Int) U)=true:=by
    rintro l rfl ai U V;rw [List.take_add_one,aa] at V;simp only [Option.toList_some,List.mem_append,List.mem_singleton] at V;rcases V with h | rfl
    ·exact O U h
    ·exact ai
   have W:CW K y (m:Int) (i+1)=if K[i].1=(y:Int)∧(m:Int)≠K[i].2 then CW K y (m:Int) i ||| 1<<<i else CW K y (m:Int) i:=by
    rw [CW,aa]
   refine Ci (by simp only;omega) (AS (S:=fun q=>(q=Sum.inr (CW K y (m:Int) (i+1))∧(decide (K[i].1≠(y:Int)) || EW J (m:Int) K[i])=true)∨(q=Sum.inl (0,false)∧(decide (K[i].1≠(y:Int)) || EW J (m:Int) K[i])=false)) ?_ ?_)
   ·refine BN (m:=i) rfl hi (Cc (fun h=>?_) (fun h=>?_))
    ·refine Aq (.inl ⟨?_,by rw [decide_eq_true h];rfl⟩);rw [W,if_neg (fun Y=>h Y.1)]
    ·have aj:K[i].1=(y:Int):=by simpa using h
     refine AW (UN ab hJ hm) ?_;by_cases e:(m:Int)=K[i].2
     ·rw [if_pos e];refine AS (S:=fun q=>q=Sum.inr (CW K y (m:Int) i)) (Ci rfl (Aq rfl)) ?_;rintro q rfl;refine Aq (.inl ⟨?_,by unfold EW;rw [decide_eq_true e];simp⟩);rw [W,if_neg (fun Y=>Y.2 e)]
     ·rw [if_neg e];by_cases e2:K[i].2∈J.2.getD m []
      ·rw [if_pos e2];refine AS (S:=fun q=>q=Sum.inr (CW K y (m:Int) i ||| 1<<<i)) ?_ ?_
       ·refine Br (by simp [Jh]) (Ci rfl ?_);refine AW (QL F ah (by omega)) (Aq rfl)
       ·rintro q rfl;refine Aq (.inl ⟨?_,by unfold EW;rw [show((m:Int)).toNat=m by omega,decide_eq_true e2];simp⟩);rw [W,if_pos ⟨aj,e⟩]
      ·rw [if_neg e2];refine AS (S:=fun q=>q=Sum.inl (0,false)) ?_ ?_
       ·exact Br (by simp [Jh]) (Br (by simp [Ku]) (Aq rfl))
       ·rintro q rfl;refine Aq (.inr ⟨rfl,?_⟩);unfold EW;rw [show((m:Int)).toNat=m by omega,decide_eq_false e2,decide_eq_false e,decide_eq_false h];rfl
   ·rintro q (⟨rfl,Z⟩ | ⟨rfl,Z⟩)
    ·rw [Sum.elim_inr];exact A9 ((i+1:Nat):Int) (by simp) (by omega) (by omega) (Aq ⟨rfl,step _ rfl Z⟩)
    ·rw [Sum.elim_inl];refine Aq (.inr ⟨?_,rfl⟩);unfold Fb;rw [List.all_eq_false];exact⟨K[i],List.getElem_mem hi,by rw [Z];simp⟩
  ·rintro s ⟨rfl,O⟩;unfold Lp;refine Br (by simp only;omega) (Aq ⟨_,rfl,.inl ⟨?_,rfl⟩⟩);rw [List.take_length] at O;unfold Fb;exact List.all_eq_true.2 O
 ·rintro q (⟨h,rfl⟩ | ⟨h,rfl⟩)
  ·rw [Sum.elim_inr,if_pos h];exact Aq rfl
  ·rw [Sum.elim_inl,if_neg (by rw [h];simp)];exact Aq rfl
theorem Uy{F n m:Nat}{J:JW}{A:List Nat}{K:BE}{age:Int}{ms:List Int}{fl:Nat}(U:100<F)(hJ:VJ n J)(O:B5 n K)(hm:m<n)(Y:ms.length<100)(V:fl<65536):
  Kz F (J.1,J.2,A) K age ms fl (m:Int)=some (if Fb J K ms.length (m:Int)=true then some (ms++ [(m:Int)],fl ||| CW K ms.length (m:Int) K.length) else none):=by
 refine Eh ?_;unfold Kz;refine AW (U7 U hJ O hm) ?_;have W:=L8 K ms.length (m:Int) K.length (by have:=O.len;omega);by_cases h:Fb J K ms.length (m:Int)=true
 ·rw [if_pos h,if_pos h];refine Br (by simp) (AW (b:=ms) ?_ ?_)
  ·unfold f175 Kk;have:DC ([]:List Int) ms=some ms:=by unfold DC;rw [if_pos (by simp;omega)];rfl
   rw [this];rfl
  ·refine AW (b:=ms++ [(m:Int)]) ?_ ?_
   ·unfold DC;rw [if_pos (by simp;omega)]
   ·exact AW (if_pos ⟨V,W⟩) (Aq rfl)
 ·rw [if_neg h,if_neg h];exact Ci rfl (Aq rfl)
end Pal
