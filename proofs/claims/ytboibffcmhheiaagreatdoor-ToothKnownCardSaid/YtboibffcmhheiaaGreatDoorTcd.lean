/- ToothKnown: the examples of the chapter have the results given there Part 4 of 8. -/
import Derived.Test.YtboibffcmhheiaaGreatDoorTcb
import Derived.Test.YtboibffcmhheiaaGreatDoorTcc
import Derived.Sort.AssemblyPlain
import Derived.Sort.Walk13a
set_option linter.all false
set_option maxRecDepth 100000
namespace Pal
open Go Go.Conc Go.Proofs
open Go.Proofs.Tryz
variable {J:Judge Tryz.prog}{E:LH}
def GR(fuel:Nat)(K:Int×Int×(List Bi)):Option (Bz (Int×Int×(List Bi)) ((List Bi))):= if K.1<K.2.1 then((ix K.2.2 K.2.1).bind fun O=> (ix K.2.2 K.1).bind fun U=> (AA (K.1+1)).bind fun V=> (AA (K.2.1 - 1)).bind fun Y=> some (.more (V,Y,((K.2.2.set (Int.toNat K.1) O).set (Int.toNat K.2.1) U)))) else(some (.done K.2.2))
def f182(fuel:Nat)(p0:List Bi)(p1:Int)(p2:Int):Option ((List Bi)):= (AA (p2 - 1)).bind fun K=> Option.bind (iter (GR fuel) fuel (p1,K,p0)) fun O=> some O
theorem Pm{K:Nat}{Z:Nat}{aa:Nat}{ah:Aw}{p0:List (Bi)}{p1:Int}{p2:Int}(hW:WL 133 Ce E K Z aa ah p0){fuel:Nat}{r:(List Bi)}(ao:f182 fuel p0 p1 p2=some r):AT J 182 [.slice (Aj K) aa Z,iV p1,iV p2,(fV 134)] E [(K,.cells ah 133 (0,0))] (fun w E' B'=>∃(ap:Aw),w= .tuple #[]∧B'= [(K,.cells ap 133 (0,0))]∧WL 133 Ce E' K Z aa ap r):=by
 refine Bm func182 fun Q a1 cs H aw ay=>?_;unfold f182 at ao;obtain⟨a2,az,aA⟩:=bs ao;refine zg 8 rfl (Cq az rfl rfl rfl ?_);obtain⟨aB,aC,aD⟩:=bs aA;refine zg 2 rfl (Cc (fun L s=>∃(ai:LH) (f17:Aw),Jn E H ai [bX K f17 133] [] L s (WL 133 Ce ai K Z aa f17 aB)) ?_ ?_)
 ·rintro _ _ ⟨ai,f17,rfl,rfl,aE,aF,aG⟩;obtain rfl:=oi aD;exact JL.fin (v:= .tuple #[]) rfl rfl (BP.list func182 rfl (vs:= []) trivial) (ay aE rfl ⟨f17,rfl,(by first | rfl | simp | (simp [Value.cells])),aG⟩ aF)
 ·intro aH;refine JL.block (DT aC (fun L s Y=>∃(ab:LH) (f25:Aw),Jn E H ab [bX K f25 133] [(0,.slice (Aj K) aa Z),(8,iV Y.1),(9,iV Y.2.1)] L s (WL 133 Ce ab K Z aa f25 Y.2.2)) ⟨E,ah,rfl,rfl,Ak,aw,hW⟩ ?_);rintro _ _ Y ⟨ab,f25,rfl,rfl,aq,ac,V⟩ aI ⟨a3,aj⟩ aJ;have ar:=aj;unfold GR at ar;refine zg 7 rfl (A7 ar (fun aK aL=>?_) (fun aK aM=>?_))
  ·refine zg 3 rfl (F5 [13,15] [K] mixed rfl ?_);refine Bh 0 rfl rfl (Bh 1 rfl rfl ?_);refine Bh 2 rfl rfl (Bh 3 rfl rfl ?_);refine Bh 4 rfl rfl (Bh 5 rfl rfl ?_);obtain⟨O,ae,aN⟩:=bs aL;obtain⟨_,⟨_,_,rfl,rfl,⟨_,_,rfl,rfl,⟨ak,al,rfl,aO⟩⟩⟩,aP⟩:=WL.at V ae;refine Cg 6 V.2 ae underlying130 AK ?_;refine Dy 7 [iV O.1,iV O.2.1,sV ak O.2.2 al] 0 ac aP B8 AK ?_;refine Bh 8 rfl rfl (Bh 9 rfl rfl ?_);obtain⟨U,ag,aQ⟩:=bs aN;obtain⟨_,⟨_,_,rfl,rfl,⟨_,_,rfl,rfl,⟨am,an,rfl,aR⟩⟩⟩,aS⟩:=WL.at V ag;refine Cg 10 V.2 ag underlying130 AK ?_;refine Dy 11 [iV U.1,iV U.2.1,sV am U.2.2 an] 0 ac aS B8 AK ?_;refine Cg 12 V.2 ag underlying130 AK ?_;have au:=WL.put (x':=O) (ws':= [iV O.1,iV O.2.1,sV ak O.2.2 al]) V V.2 ag ⟨_,_,rfl,rfl,⟨_,_,rfl,rfl,⟨_,_,rfl,aO⟩⟩⟩;refine Dz 13 0 ac AK au.2 fun aT=>?_;refine Cg 14 V.2 ae underlying130 AK ?_;have av:=WL.put (x':=U) (ws':= [iV U.1,iV U.2.1,sV am U.2.2 an]) au.1 V.2 ae ⟨_,_,rfl,rfl,⟨_,_,rfl,rfl,⟨_,_,rfl,aR⟩⟩⟩;refine Dz 15 0 aT AK av.2 fun aU=>?_;refine JB.fin (by decide+kernel) ?_;obtain⟨aV,aW,aX⟩:=bs aQ;refine zg 3 rfl (Bv aW rfl rfl rfl ?_);obtain⟨aY,aZ,a0⟩:=bs aX;refine zg 4 rfl (Cq aZ rfl rfl rfl ?_);refine zg 3 rfl ?_;obtain rfl:=oi a0;exact AU (aJ _ _ (aV,aY,((Y.2.2.set (Int.toNat Y.1) O).set (Int.toNat Y.2.1) U)) ⟨ab,(AI (AI f25 (Int.toNat (Y.1)*3) [iV O.1,iV O.2.1,sV ak O.2.2 al]) (Int.toNat (Y.2.1)*3) [iV U.1,iV U.2.1,sV am U.2.2 an]),rfl,rfl,aq,aU,av.1⟩ aj) rfl
  ·refine JL.exit rfl ?_;obtain rfl:=oi aM;obtain rfl:=aI _ aj;exact AU (aH _ _ ⟨ab,f25,rfl,rfl,aq,ac,V⟩) rfl
def HI(fuel:Nat)(p2:Int)(O:Int×Int×(List Bi))(K:Int):Option (Bz Int Int):= Option.bind (if K<p2 then((ix O.2.2 K).bind fun U=> (AA (K - 1)).bind fun V=> (ix O.2.2 V).bind fun Y=> (f134 fuel U Y).bind fun Z=> some (decide (¬(Z<0)))) else(some false)) fun aa=> if aa=true then((AA (K+1)).bind fun ab=> some (.more ab)) else(some (.done K))
def OC(fuel:Nat)(K:Int×(List Bi)):Option (Bz (Int×(List Bi)) ((List Bi))):= if 1≤K.1 then((ix K.2 K.1).bind fun O=> (AA (K.1 - 1)).bind fun Y=> (ix K.2 Y).bind fun Z=> (f134 fuel O Z).bind fun aa=> if ¬(aa<0) then(some (.done K.2)) else((AA (K.1 - 1)).bind fun U=> (AA (K.1 - 1)).bind fun ab=> (ix K.2 ab).bind fun V=> (ix (K.2.set (Int.toNat K.1) V) U).bind fun ae=> (AA (K.1 - 1)).bind fun ac=> some (.more (ac,((K.2.set (Int.toNat K.1) V).set (Int.toNat U) O))))) else(some (.done K.2))
def OD(fuel:Nat)(p2:Int)(K:Int×(List Bi)):Option (Bz (Int×(List Bi)) ((List Bi))):= if K.1<p2 then((ix K.2 K.1).bind fun O=> (AA (K.1 - 1)).bind fun Y=> (ix K.2 Y).bind fun Z=> (f134 fuel O Z).bind fun aa=> if ¬(aa<0) then(some (.done K.2)) else((AA (K.1 - 1)).bind fun U=> (AA (K.1 - 1)).bind fun ab=> (ix K.2 ab).bind fun V=> (ix (K.2.set (Int.toNat K.1) V) U).bind fun ae=> (AA (K.1+1)).bind fun ac=> some (.more (ac,((K.2.set (Int.toNat K.1) V).set (Int.toNat U) O))))) else(some (.done K.2))
def Kr(fuel:Nat)(p1:Int)(p2:Int)(K:Int×Int×(List Bi)):Option (Bz (Int×Int×(List Bi)) ((Bool×(List Bi))⊕((List Bi)))):= if K.2.1<5 then(Option.bind (iter (HI fuel p2 K) fuel K.1) fun O=> if O=p2 then(some (.done (Sum.inl (true,K.2.2)))) else((AA (p2 - p1)).bind fun aa=> if aa<50 then(some (.done (Sum.inl (false,K.2.2)))) else((AA (O - 1)).bind fun U=> (AA (O - 1)).bind fun ab=> (ix K.2.2 ab).bind fun V=> (ix K.2.2 O).bind fun Y=> (ix (K.2.2.set (Int.toNat O) V) U).bind fun am=> (AA (O - p1)).bind fun ac=> Option.bind (if 2≤ac then((AA (O - 1)).bind fun ae=> Option.bind (iter (OC fuel) fuel (ae,((K.2.2.set (Int.toNat O) V).set (Int.toNat U) Y))) fun ag=> some ag) else(some ((K.2.2.set (Int.toNat O) V).set (Int.toNat U) Y))) fun Z=> (AA (p2 - O)).bind fun ah=> Option.bind (if 2≤ah then((AA (O+1)).bind fun ai=> Option.bind (iter (OD fuel p2) fuel (ai,Z)) fun aj=> some aj) else(some Z)) fun ak=> (AA (K.2.1+1)).bind fun al=> some (.more (O,al,ak))))) else(some (.done (Sum.inr K.2.2)))
def f183(fuel:Nat)(p0:List Bi)(p1:Int)(p2:Int):Option (Bool×(List Bi)):= (AA (p1+1)).bind fun K=> Option.bind (iter (Kr fuel p1 p2) fuel (K,0,p0)) fun O=> Sum.elim (fun r=>some r) (fun U=> some (false,U)) O
theorem Pk{K:Nat}{O:Nat}{U:Nat}{a4:Aw}{p0:List (Bi)}{p1:Int}{p2:Int}(hW:WL 133 Ce E K O U a4 p0){fuel:Nat}{r:Bool×(List Bi)}(bn:f183 fuel p0 p1 p2=some r):AT J 183 [.slice (Aj K) U O,iV p1,iV p2,(fV 134)] E [(K,.cells a4 133 (0,0))] (fun w E' B'=>∃(bo:Aw),w= .bool r.1∧B'= [(K,.cells bo 133 (0,0))]∧WL 133 Ce E' K O U bo r.2):=by
 refine Bm func183 fun Q fd cs H cf a5=>?_;unfold f183 at bn;obtain⟨fe,cg,ci⟩:=bs bn;refine zg 7 rfl (Bv cg rfl rfl rfl ?_);obtain⟨bp,ck,a6⟩:=bs ci;refine zg 7 rfl (Cc (fun L s=>∃(a7:(List Bi)) (a8:LH) (f18:Aw),bp=Sum.inr a7∧Jn E H a8 [bX K f18 133] [] L s (WL 133 Ce a8 K O U f18 a7)) ?_ ?_)
 ·rintro _ _ ⟨a7,a8,f18,rfl,rfl,rfl,cm,cn,co⟩;have cp:=elim_inr a6;refine zg 4 rfl ?_;obtain rfl:=oi cp;exact AS func183 rfl rfl (a5 cm rfl ⟨f18,rfl,(by first | rfl | simp | (simp [Value.cells])),co⟩ cn)
 ·intro cq;refine JL.block (DT ck (fun L s Z=>∃(aO:LH) (f27:Aw),Jn E H aO [bX K f27 133] [(0,.slice (Aj K) U O),(1,iV p1),(2,iV p2),(3,(fV 134)),(9,iV Z.1),(10,iV Z.2.1)] L s (WL 133 Ce aO K O U f27 Z.2.2)) ⟨E,a4,rfl,rfl,Ak,cf,hW⟩ ?_);rintro _ _ Z ⟨aO,f27,rfl,rfl,aP,bq,aa⟩ a9 ⟨ff,ay⟩ cr;have br:=ay;unfold Kr at br;refine zg 6 rfl (A7 br (fun ct cu=>?_) (fun ct cv=>?_))
  ·obtain⟨aj,cw,cy⟩:=bs cu;refine zg 4 rfl (Cw [bX K f27 133] [(0,.slice (Aj K) U O),(1,iV p1),(2,iV p2),(3,(fV 134)),(9,iV aj),(10,iV Z.2.1)] (fun az ak aA=>?_) (fun cz=>?_))
   ·refine zg 7 rfl (A7 cy (fun cA cB=>?_) (fun cA cC=>?_))
    ·refine zg 4 rfl ?_;obtain rfl:=oi cB;obtain rfl:=a9 _ ay;have cD:=elim_inl a6;obtain rfl:=oi cD;exact AS func183 rfl rfl (a5 (aP.Aa ak) rfl ⟨f27,rfl,(by first | rfl | simp | (simp [Value.cells])),(aa.Ad ak)⟩ aA)
    ·obtain⟨fg,cE,cF⟩:=bs cC;refine zg 6 rfl (Cq cE rfl rfl rfl ?_);refine zg 2 rfl (A7 cF (fun cG cH=>?_) (fun cG cI=>?_))
     ·refine zg 4 rfl ?_;obtain rfl:=oi cH;obtain rfl:=a9 _ ay;have cJ:=elim_inl a6;obtain rfl:=oi cJ;exact AS func183 rfl rfl (a5 (aP.Aa ak) rfl ⟨f27,rfl,(by first | rfl | simp | (simp [Value.cells])),(aa.Ad ak)⟩ aA)
     ·refine zg 2 rfl (F5 [15,17] [K] mixed rfl ?_);refine Bh 0 rfl rfl (Bh 1 rfl rfl ?_);refine Bh 2 rfl rfl (Bh 3 rfl rfl ?_);obtain⟨bu,cK,cM⟩:=bs cI;refine FR 4 true rfl rfl (fun ρ h s' hs=>Db (h _ _ rfl) (h _ _ rfl) cK) (Bh 5 rfl rfl ?_);refine Bh 6 rfl rfl ?_;obtain⟨fh,cN,cO⟩:=bs cM;refine FR 7 true rfl rfl (fun ρ h s' hs=>Db (h _ _ rfl) (h _ _ rfl) cN) ?_;obtain⟨ab,bv,cP⟩:=bs cO;obtain⟨_,⟨_,_,rfl,rfl,⟨_,_,rfl,rfl,⟨aQ,aR,rfl,cQ⟩⟩⟩,cR⟩:=WL.at (aa.Ad ak) bv;refine Cg 8 aa.2 bv underlying130 AK ?_;refine Dy 9 [iV ab.1,iV ab.2.1,sV aQ ab.2.2 aR] 0 aA cR B8 AK ?_;refine Bh 10 rfl rfl (Bh 11 rfl rfl ?_);obtain⟨ac,aS,cT⟩:=bs cP;obtain⟨_,⟨_,_,rfl,rfl,⟨_,_,rfl,rfl,⟨aT,aU,rfl,cV⟩⟩⟩,cW⟩:=WL.at (aa.Ad ak) aS;refine Cg 12 aa.2 aS underlying130 AK ?_;refine Dy 13 [iV ac.1,iV ac.2.1,sV aT ac.2.2 aU] 0 aA cW B8 AK ?_;refine Cg 14 aa.2 aS underlying130 AK ?_;have aB:=WL.put (x':=ab) (ws':= [iV ab.1,iV ab.2.1,sV aQ ab.2.2 aR]) (aa.Ad ak) aa.2 aS ⟨_,_,rfl,rfl,⟨_,_,rfl,rfl,⟨_,_,rfl,cQ⟩⟩⟩;refine Dz 15 0 aA AK aB.2 fun cX=>?_;obtain⟨fj,ba,cY⟩:=bs cT;obtain⟨_,⟨_,_,rfl,rfl,⟨_,_,rfl,rfl,⟨fk,fl,rfl,fm⟩⟩⟩,fo⟩:=WL.at aB.1 ba;refine Cg 16 (aB.1).2 ba underlying130 AK ?_;have bb:=WL.put (x':=ac) (ws':= [iV ac.1,iV ac.2.1,sV aT ac.2.2 aU]) aB.1 (aB.1).2 ba ⟨_,_,rfl,rfl,⟨_,_,rfl,rfl,⟨_,_,rfl,cV⟩⟩⟩;refine Dz 17 0 cX AK bb.2 fun bw=>?_;refine JB.fin (by decide+kernel) ?_;obtain⟨fp,cZ,c0⟩:=bs cY;refine zg 5 rfl (Cq cZ rfl rfl rfl ?_);obtain⟨c1,c2,c3⟩:=bs c0;refine zg 2 rfl (Cc (fun L s=>∃(al:LH) (f99:Aw),Jn az H al [bX K f99 133] [(0,.slice (Aj K) U O),(1,iV p1),(2,iV p2),(3,(fV 134)),(9,iV aj),(10,iV Z.2.1)] L s (WL 133 Ce al K O U f99 c1)) ?_ ?_)
      ·rintro _ _ ⟨al,f99,rfl,rfl,c4,bx,bz⟩;obtain⟨fq,c5,c6⟩:=bs c3;refine zg 4 rfl (Cq c5 rfl rfl rfl ?_);obtain⟨bA,c7,c8⟩:=bs c6;refine zg 2 rfl (Cc (fun L s=>∃(aV:LH) (f109:Aw),Jn al H aV [bX K f109 133] [(0,.slice (Aj K) U O),(1,iV p1),(2,iV p2),(3,(fV 134)),(9,iV aj),(10,iV Z.2.1)] L s (WL 133 Ce aV K O U f109 bA)) ?_ ?_)
       ·rintro _ _ ⟨aV,f109,rfl,rfl,c9,da,db⟩;obtain⟨dc,dd,de⟩:=bs c8;refine zg 3 rfl (Bv dd rfl rfl rfl ?_);refine zg 2 rfl ?_;obtain rfl:=oi de;exact AU (cr _ _ (aj,dc,bA) ⟨aV,f109,rfl,rfl,(((aP.Aa ak).Aa c4).Aa c9),da,db⟩ ay) rfl
       ·intro bB;refine A7 c7 (fun df dg=>?_) (fun df dh=>?_)
        ·obtain⟨fs,di,dj⟩:=bs dg;refine zg 3 rfl (Bv di rfl rfl rfl ?_);obtain⟨dk,dl,dm⟩:=bs dj;refine zg 2 rfl (Cc (fun L s=>∃(aW:LH) (f134:Aw),Jn al H aW [bX K f134 133] [(0,.slice (Aj K) U O),(1,iV p1),(2,iV p2),(3,(fV 134)),(9,iV aj),(10,iV Z.2.1)] L s (WL 133 Ce aW K O U f134 dk)) ?_ ?_)
         ·rintro _ _ ⟨aW,f134,rfl,rfl,dn,dp,dq⟩;obtain rfl:=oi dm;exact AU (bB _ _ ⟨aW,f134,rfl,rfl,dn,dp,dq⟩) rfl
         ·intro bC;refine JL.block (DT dl (fun L s am=>∃(aX:LH) (f142:Aw),Jn al H aX [bX K f142 133] [(0,.slice (Aj K) U O),(1,iV p1),(2,iV p2),(3,(fV 134)),(9,iV aj),(10,iV Z.2.1),(12,iV am.1)] L s (WL 133 Ce aX K O U f142 am.2)) ⟨al,f99,rfl,rfl,Ak,bx,bz⟩ ?_);rintro _ _ am ⟨aX,f142,rfl,rfl,bc,aC,ae⟩ bD ⟨fu,aY⟩ dr;have bE:=aY;unfold OD at bE;refine zg 7 rfl (A7 bE (fun dt du=>?_) (fun dt dv=>?_))
          ·refine zg 5 rfl (Dr 10 [K] ⟨⟨0,_,rfl⟩,trivial⟩ aC fun ht=>?_);refine Bt ht rfl [0,1,2] rfl ?_;obtain⟨V,aD,dw⟩:=bs du;obtain⟨_,⟨_,_,rfl,rfl,⟨_,_,rfl,rfl,⟨aE,aF,rfl,bF⟩⟩⟩,bG⟩:=WL.at ae aD;refine Fe 3 ht (ae).2 aD underlying130 AK ?_;refine Dl 4 ht [iV V.1,iV V.2.1,sV aE V.2.2 aF] 0 aC bG B8 AK ?_;refine Bt ht rfl [5,6] rfl ?_;obtain⟨fv,dx,dy⟩:=bs dw;refine Bd 7 ht rfl rfl (fun ρ h s' hs=>Db (h _ _ rfl) (h _ _ rfl) dx) ?_;obtain⟨an,bH,dz⟩:=bs dy;obtain⟨_,⟨_,_,rfl,rfl,⟨_,_,rfl,rfl,⟨bI,bJ,rfl,dA⟩⟩⟩,dB⟩:=WL.at ae bH;refine Fe 8 ht (ae).2 bH underlying130 AK ?_;refine Dl 9 ht [iV an.1,iV an.2.1,sV bI an.2.2 bJ] 0 aC dB B8 AK ?_;refine CU [10,11,12] ?_;obtain⟨dC,dD,dE⟩:=bs dz;refine I8 (vs:= [.agg #[iV V.1,iV V.2.1,sV aE V.2.2 aF],.agg #[iV an.1,iV an.2.1,sV bI an.2.2 bJ]]) (Ga bF dA dD) rfl rfl rfl rfl F0 rfl aC ?_;rintro _ bK _ ao ⟨rfl,rfl⟩ aZ;refine zg 1 rfl (Av (v:= .bool (decide (¬(dC<0)))) rfl (fun ρ h=>HJ (h _ _ rfl)) ?_);refine JL.done (A7 dE (fun dF dG=>?_) (fun dF dH=>?_))
           ·refine JL.exit rfl ?_;obtain rfl:=oi dG;obtain rfl:=bD _ aY;exact AU (bC _ _ ⟨bK,f142,rfl,rfl,(bc.Aa ao),aZ,(ae.Ad ao)⟩) rfl
           ·refine JL.skip (F5 [15,17] [K] mixed rfl ?_);refine Bh 0 rfl rfl (Bh 1 rfl rfl ?_);refine Bh 2 rfl rfl (Bh 3 rfl rfl ?_);obtain⟨bL,dI,dJ⟩:=bs dH;refine FR 4 true rfl rfl (fun ρ h s' hs=>Db (h _ _ rfl) (h _ _ rfl) dI) (Bh 5 rfl rfl ?_);refine Bh 6 rfl rfl ?_;obtain⟨fw,dK,dL⟩:=bs dJ;refine FR 7 true rfl rfl (fun ρ h s' hs=>Db (h _ _ rfl) (h _ _ rfl) dK) ?_;obtain⟨ah,bM,dM⟩:=bs dL;obtain⟨_,⟨_,_,rfl,rfl,⟨_,_,rfl,rfl,⟨bd,be,rfl,dN⟩⟩⟩,dO⟩:=WL.at (ae.Ad ao) bM;refine Cg 8 ae.2 bM underlying130 AK ?_;refine Dy 9 [iV ah.1,iV ah.2.1,sV bd ah.2.2 be] 0 aZ dO B8 AK ?_;refine Bh 10 rfl rfl (Bh 11 rfl rfl ?_);refine Cg 12 ae.2 aD underlying130 AK ?_;refine Dy 13 [iV V.1,iV V.2.1,sV aE V.2.2 aF] 0 aZ bG B8 AK ?_;refine Cg 14 ae.2 aD underlying130 AK ?_;have aG:=WL.put (x':=ah) (ws':= [iV ah.1,iV ah.2.1,sV bd ah.2.2 be]) (ae.Ad ao) ae.2 aD ⟨_,_,rfl,rfl,⟨_,_,rfl,rfl,⟨_,_,rfl,dN⟩⟩⟩;refine Dz 15 0 aZ AK aG.2 fun dP=>?_;obtain⟨fx,bf,dQ⟩:=bs dM;obtain⟨_,⟨_,_,rfl,rfl,⟨_,_,rfl,rfl,⟨fy,fz,rfl,fA⟩⟩⟩,fB⟩:=WL.at aG.1 bf;refine Cg 16 (aG.1).2 bf underlying130 AK ?_;have bN:=WL.put (x':=V) (ws':= [iV V.1,iV V.2.1,sV aE V.2.2 aF]) aG.1 (aG.1).2 bf ⟨_,_,rfl,rfl,⟨_,_,rfl,rfl,⟨_,_,rfl,(bF.Ad ao)⟩⟩⟩;refine Dz 17 0 dP AK bN.2 fun dR=>?_;refine JB.fin (by decide+kernel) ?_;obtain⟨dS,dT,dU⟩:=bs dQ;refine zg 3 rfl (Bv dT rfl rfl rfl ?_);refine zg 2 rfl ?_;obtain rfl:=oi dU;exact AU (dr _ _ (dS,((am.2.set (Int.toNat am.1) ah).set (Int.toNat bL) V)) ⟨bK,(AI (AI f142 (Int.toNat (am.1)*3) [iV ah.1,iV ah.2.1,sV bd ah.2.2 be]) (Int.toNat (bL)*3) [iV V.1,iV V.2.1,sV aE V.2.2 aF]),rfl,rfl,(bc.Aa ao),dR,bN.1⟩ aY) rfl
          ·refine JL.exit rfl ?_;obtain rfl:=oi dv;obtain rfl:=bD _ aY;exact AU (bC _ _ ⟨aX,f142,rfl,rfl,bc,aC,ae⟩) rfl
        ·refine JL.skip ?_;obtain rfl:=oi dh;exact AU (bB _ _ ⟨al,f99,rfl,rfl,Ak,bx,bz⟩) rfl
      ·intro bO;refine A7 c2 (fun dV dW=>?_) (fun dV dX=>?_)
       ·obtain⟨fC,dY,dZ⟩:=bs dW;refine zg 3 rfl (Cq dY rfl rfl rfl ?_);obtain⟨ea,eb,ec⟩:=bs dZ;refine zg 2 rfl (Cc (fun L s=>∃(a0:LH) (f224:Aw),Jn az H a0 [bX K f224 133] [(0,.slice (Aj K) U O),(1,iV p1),(2,iV p2),(3,(fV 134)),(9,iV aj),(10,iV Z.2.1)] L s (WL 133 Ce a0 K O U f224 ea)) ?_ ?_)
        ·rintro _ _ ⟨a0,f224,rfl,rfl,ed,ee,ef⟩;obtain rfl:=oi ec;exact AU (bO _ _ ⟨a0,f224,rfl,rfl,ed,ee,ef⟩) rfl
        ·intro bP;refine JL.block (DT eb (fun L s ap=>∃(a1:LH) (f232:Aw),Jn az H a1 [bX K f232 133] [(0,.slice (Aj K) U O),(1,iV p1),(2,iV p2),(3,(fV 134)),(9,iV aj),(10,iV Z.2.1),(11,iV ap.1)] L s (WL 133 Ce a1 K O U f232 ap.2)) ⟨az,(AI (AI f27 (Int.toNat (aj)*3) [iV ab.1,iV ab.2.1,sV aQ ab.2.2 aR]) (Int.toNat (bu)*3) [iV ac.1,iV ac.2.1,sV aT ac.2.2 aU]),rfl,rfl,Ak,bw,bb.1⟩ ?_);rintro _ _ ap ⟨a1,f232,rfl,rfl,bg,aH,ag⟩ bQ ⟨fD,a2⟩ eg;have bR:=a2;unfold OC at bR;refine zg 6 rfl (A7 bR (fun eh ei=>?_) (fun eh ej=>?_))
         ·refine zg 5 rfl (Dr 10 [K] ⟨⟨0,_,rfl⟩,trivial⟩ aH fun ht=>?_);refine Bt ht rfl [0,1,2] rfl ?_;obtain⟨Y,aI,ek⟩:=bs ei;obtain⟨_,⟨_,_,rfl,rfl,⟨_,_,rfl,rfl,⟨aJ,aK,rfl,bS⟩⟩⟩,bT⟩:=WL.at ag aI;refine Fe 3 ht (ag).2 aI underlying130 AK ?_;refine Dl 4 ht [iV Y.1,iV Y.2.1,sV aJ Y.2.2 aK] 0 aH bT B8 AK ?_;refine Bt ht rfl [5,6] rfl ?_;obtain⟨fE,el,em⟩:=bs ek;refine Bd 7 ht rfl rfl (fun ρ h s' hs=>Db (h _ _ rfl) (h _ _ rfl) el) ?_;obtain⟨aq,bU,en⟩:=bs em;obtain⟨_,⟨_,_,rfl,rfl,⟨_,_,rfl,rfl,⟨bV,bW,rfl,eo⟩⟩⟩,ep⟩:=WL.at ag bU;refine Fe 8 ht (ag).2 bU underlying130 AK ?_;refine Dl 9 ht [iV aq.1,iV aq.2.1,sV bV aq.2.2 bW] 0 aH ep B8 AK ?_;refine CU [10,11,12] ?_;obtain⟨eq,er,et⟩:=bs en;refine I8 (vs:= [.agg #[iV Y.1,iV Y.2.1,sV aJ Y.2.2 aK],.agg #[iV aq.1,iV aq.2.1,sV bV aq.2.2 bW]]) (Ga bS eo er) rfl rfl rfl rfl F0 rfl aH ?_;rintro _ bY _ ar ⟨rfl,rfl⟩ a3;refine zg 1 rfl (Av (v:= .bool (decide (¬(eq<0)))) rfl (fun ρ h=>HJ (h _ _ rfl)) ?_);refine JL.done (A7 et (fun eu ew=>?_) (fun eu ex=>?_))
          ·refine JL.exit rfl ?_;obtain rfl:=oi ew;obtain rfl:=bQ _ a2;exact AU (bP _ _ ⟨bY,f232,rfl,rfl,(bg.Aa ar),a3,(ag.Ad ar)⟩) rfl
          ·refine JL.skip (F5 [15,17] [K] mixed rfl ?_);refine Bh 0 rfl rfl (Bh 1 rfl rfl ?_);refine Bh 2 rfl rfl (Bh 3 rfl rfl ?_);obtain⟨bZ,ey,ez⟩:=bs ex;refine FR 4 true rfl rfl (fun ρ h s' hs=>Db (h _ _ rfl) (h _ _ rfl) ey) (Bh 5 rfl rfl ?_);refine Bh 6 rfl rfl ?_;obtain⟨fF,eA,eB⟩:=bs ez;refine FR 7 true rfl rfl (fun ρ h s' hs=>Db (h _ _ rfl) (h _ _ rfl) eA) ?_;obtain⟨ai,b0,eC⟩:=bs eB;obtain⟨_,⟨_,_,rfl,rfl,⟨_,_,rfl,rfl,⟨bh,bi,rfl,eD⟩⟩⟩,eE⟩:=WL.at (ag.Ad ar) b0;refine Cg 8 ag.2 b0 underlying130 AK ?_;refine Dy 9 [iV ai.1,iV ai.2.1,sV bh ai.2.2 bi] 0 a3 eE B8 AK ?_;refine Bh 10 rfl rfl (Bh 11 rfl rfl ?_);refine Cg 12 ag.2 aI underlying130 AK ?_;refine Dy 13 [iV Y.1,iV Y.2.1,sV aJ Y.2.2 aK] 0 a3 bT B8 AK ?_;refine Cg 14 ag.2 aI underlying130 AK ?_;have aL:=WL.put (x':=ai) (ws':= [iV ai.1,iV ai.2.1,sV bh ai.2.2 bi]) (ag.Ad ar) ag.2 aI ⟨_,_,rfl,rfl,⟨_,_,rfl,rfl,⟨_,_,rfl,eD⟩⟩⟩;refine Dz 15 0 a3 AK aL.2 fun eF=>?_;obtain⟨fG,bj,eG⟩:=bs eC;obtain⟨_,⟨_,_,rfl,rfl,⟨_,_,rfl,rfl,⟨fH,fI,rfl,fJ⟩⟩⟩,fK⟩:=WL.at aL.1 bj;refine Cg 16 (aL.1).2 bj underlying130 AK ?_;have b1:=WL.put (x':=Y) (ws':= [iV Y.1,iV Y.2.1,sV aJ Y.2.2 aK]) aL.1 (aL.1).2 bj ⟨_,_,rfl,rfl,⟨_,_,rfl,rfl,⟨_,_,rfl,(bS.Ad ar)⟩⟩⟩;refine Dz 17 0 eF AK b1.2 fun eH=>?_;refine JB.fin (by decide+kernel) ?_;obtain⟨eI,eJ,eK⟩:=bs eG;refine zg 3 rfl (Cq eJ rfl rfl rfl ?_);refine zg 2 rfl ?_;obtain rfl:=oi eK;exact AU (eg _ _ (eI,((ap.2.set (Int.toNat ap.1) ai).set (Int.toNat bZ) Y)) ⟨bY,(AI (AI f232 (Int.toNat (ap.1)*3) [iV ai.1,iV ai.2.1,sV bh ai.2.2 bi]) (Int.toNat (bZ)*3) [iV Y.1,iV Y.2.1,sV aJ Y.2.2 aK]),rfl,rfl,(bg.Aa ar),eH,b1.1⟩ a2) rfl
         ·refine JL.exit rfl ?_;obtain rfl:=oi ej;obtain rfl:=bQ _ a2;exact AU (bP _ _ ⟨a1,f232,rfl,rfl,bg,aH,ag⟩) rfl
       ·refine JL.skip ?_;obtain rfl:=oi dX;exact AU (bO _ _ ⟨az,(AI (AI f27 (Int.toNat (aj)*3) [iV ab.1,iV ab.2.1,sV aQ ab.2.2 aR]) (Int.toNat (bu)*3) [iV ac.1,iV ac.2.1,sV aT ac.2.2 aU]),rfl,rfl,Ak,bw,bb.1⟩) rfl
   ·refine JL.block (CC cw (fun aM=> [bX K f27 133]) (fun aM=> [(0,.slice (Aj K) U O),(1,iV p1),(2,iV p2),(3,(fV 134)),(9,iV aM),(10,iV Z.2.1)]) Ak bq ?_);rintro aM b2 au aN eL ⟨fL,bl⟩ eM;have b3:=bl;unfold HI at b3;refine zg 2 rfl (Dr 18 [K] ⟨⟨0,_,rfl⟩,trivial⟩ aN fun ht=>?_);refine Bt ht rfl [0,1,2,3] rfl ?_;obtain⟨eN,b4,eO⟩:=bs b3;refine Fq 0 #[true,true,true,true,true,true,true,true,true,true,true,true,true,true,true,true,true,true] (fun L s=>∃(b5:LH),Jm b2 H b5 [bX K f27 133] [(0,.slice (Aj K) U O),(1,iV p1),(2,iV p2),(3,(fV 134)),(9,iV aM),(10,iV Z.2.1),(36,.bool eN)] L s) ?_ ?_
    ·rintro _ _ ⟨b5,rfl,rfl,b6,b7⟩;refine AQ.fin (by decide+kernel) (BO eO (fun eP eQ=>?_) (fun eP eR=>?_))
     ·obtain⟨eS,eT,eU⟩:=bs eQ;refine zg 4 rfl (Bv eT rfl rfl rfl ?_);refine zg 3 rfl ?_;obtain rfl:=oi eU;exact eM eS (au.Aa b6) b7 rfl bl
     ·refine JL.exit rfl ?_;obtain rfl:=oi eR;obtain rfl:=eL _ bl;exact cz (au.Aa b6) b7 rfl
    ·intro b8;refine FH (q:=aM<p2) (i:=22) rfl (fun bm=>?_) (fun bm=>?_)
     ·have eV:=ip b4 bm;refine Bt ht rfl [4,5,6] rfl ?_;obtain⟨av,b9,eW⟩:=bs eV;obtain⟨_,⟨_,_,rfl,rfl,⟨_,_,rfl,rfl,⟨ca,cb,rfl,eX⟩⟩⟩,eY⟩:=WL.at (aa.Ad au) b9;refine Bd 7 ht rfl rfl (fun ρ h s' hs=>FM ((aa.Ad au)).2 b9 underlying130 AK (h _ _ rfl) (h _ _ rfl)) ?_;refine Dl 8 ht [iV av.1,iV av.2.1,sV ca av.2.2 cb] 0 aN eY B8 AK ?_;refine Bt ht rfl [9,10] rfl ?_;obtain⟨fM,eZ,e0⟩:=bs eW;refine Bd 11 ht rfl rfl (fun ρ h s' hs=>Db (h _ _ rfl) (h _ _ rfl) eZ) ?_;obtain⟨aw,cc,e1⟩:=bs e0;obtain⟨_,⟨_,_,rfl,rfl,⟨_,_,rfl,rfl,⟨cd,ce,rfl,e3⟩⟩⟩,e4⟩:=WL.at (aa.Ad au) cc;refine Bd 12 ht rfl rfl (fun ρ h s' hs=>FM ((aa.Ad au)).2 cc underlying130 AK (h _ _ rfl) (h _ _ rfl)) ?_;refine Dl 13 ht [iV aw.1,iV aw.2.1,sV cd aw.2.2 ce] 0 aN e4 B8 AK ?_;obtain⟨e5,e6,e7⟩:=bs e1;refine GK (i:=14) ⟨⟨0,_,rfl⟩,trivial⟩ (vs:= [.agg #[iV av.1,iV av.2.1,sV ca av.2.2 cb],.agg #[iV aw.1,iV aw.2.1,sV cd aw.2.2 ce]]) (Ga eX e3 e6) (by decide+kernel) rfl rfl rfl rfl F0 rfl aN ?_;rintro _ e8 _ e9 ⟨rfl,rfl⟩ fa;refine CG 15 ht rfl rfl ?_;refine Bd (v:= .bool (decide (¬(e5<0)))) 16 ht rfl rfl (fun ρ h s' hs=>HJ (h _ _ rfl)) ?_;refine CG 17 ht rfl rfl ?_;obtain rfl:=oi e7;refine Dp ?_ (b8 _ _ ⟨e8,rfl,rfl,e9,fa⟩);exact⟨rfl,rfl,rfl,rfl,rfl,rfl,rfl,trivial⟩
     ·have fb:=im b4 bm;refine Bt ht rfl [4,5,6,7,8,9,10,11,12,13,14,15,16,17] rfl ?_;obtain rfl:=oi fb;refine Dp ?_ (b8 _ _ ⟨b2,rfl,rfl,Ak,aN⟩);exact⟨rfl,rfl,rfl,rfl,rfl,rfl,rfl,trivial⟩
  ·refine JL.exit rfl ?_;obtain rfl:=oi cv;have fc:bp=(Sum.inr Z.2.2):=(a9 _ ay).symm;exact AU (cq _ _ ⟨Z.2.2,aO,f27,fc,rfl,rfl,aP,bq,aa⟩) rfl
def Jg(fuel:Nat)(p0:List Bi)(p1:Int)(p3:Int)(O:Bi)(U:Bi)(V:Int)(K:Int):Option (Bz Int Int):= Option.bind (if K≤V then((ix ((p0.set (Int.toNat p1) O).set (Int.toNat p3) U) K).bind fun Y=> (ix ((p0.set (Int.toNat p1) O).set (Int.toNat p3) U) p1).bind fun Z=> (f134 fuel Y Z).bind fun aa=> some (decide (aa<0))) else(some false)) fun ab=> if ab=true then((AA (K+1)).bind fun ac=> some (.more ac)) else(some (.done K))
def Ji(fuel:Nat)(p0:List Bi)(p1:Int)(p3:Int)(O:Bi)(U:Bi)(V:Int)(K:Int):Option (Bz Int Int):= Option.bind (if V≤K then((ix ((p0.set (Int.toNat p1) O).set (Int.toNat p3) U) K).bind fun Y=> (ix ((p0.set (Int.toNat p1) O).set (Int.toNat p3) U) p1).bind fun Z=> (f134 fuel Y Z).bind fun aa=> some (decide (¬(aa<0)))) else(some false)) fun ab=> if ab=true then((AA (K - 1)).bind fun ac=> some (.more ac)) else(some (.done K))
def Ig(fuel:Nat)(p1:Int)(O:Int×Int×(List Bi))(K:Int):Option (Bz Int Int):= Option.bind (if K≤O.2.1 then((ix O.2.2 K).bind fun U=> (ix O.2.2 p1).bind fun V=> (f134 fuel U V).bind fun Y=> some (decide (Y<0))) else(some false)) fun Z=> if Z=true then((AA (K+1)).bind fun aa=> some (.more aa)) else(some (.done K))
def Il(fuel:Nat)(p1:Int)(O:Int×Int×(List Bi))(U:Int)(K:Int):Option (Bz Int Int):= Option.bind (if U≤K then((ix O.2.2 K).bind fun V=> (ix O.2.2 p1).bind fun Y=> (f134 fuel V Y).bind fun Z=> some (decide (¬(Z<0)))) else(some false)) fun aa=> if aa=true then((AA (K - 1)).bind fun ab=> some (.more ab)) else(some (.done K))
def HK(fuel:Nat)(p1:Int)(K:Int×Int×(List Bi)):Option (Bz (Int×Int×(List Bi)) (Int×(List Bi))):= Option.bind (iter (Ig fuel p1 K) fuel K.1) fun O=> Option.bind (iter (Il fuel p1 K O) fuel K.2.1) fun U=> if U<O then(some (.done (U,K.2.2))) else((ix K.2.2 U).bind fun V=> (ix K.2.2 O).bind fun Y=> (AA (O+1)).bind fun Z=> (AA (U - 1)).bind fun aa=> some (.more (Z,aa,((K.2.2.set (Int.toNat O) V).set (Int.toNat U) Y))))
def f185(fuel:Nat)(p0:List Bi)(p1:Int)(p2:Int)(p3:Int):Option (Int×Bool×(List Bi)):= (ix p0 p3).bind fun K=> (ix p0 p1).bind fun O=> (AA (p1+1)).bind fun aa=> (AA (p2 - 1)).bind fun Z=> Option.bind (iter (Jg fuel p0 p1 p3 K O Z) fuel aa) fun Y=> Option.bind (iter (Ji fuel p0 p1 p3 K O Y) fuel Z) fun U=> if U<Y then((ix ((p0.set (Int.toNat p1) K).set (Int.toNat p3) O) p1).bind fun ab=> (ix ((p0.set (Int.toNat p1) K).set (Int.toNat p3) O) U).bind fun ac=> some (U,true,((((p0.set (Int.toNat p1) K).set (Int.toNat p3) O).set (Int.toNat U) ab).set (Int.toNat p1) ac))) else((ix ((p0.set (Int.toNat p1) K).set (Int.toNat p3) O) U).bind fun ae=> (ix ((p0.set (Int.toNat p1) K).set (Int.toNat p3) O) Y).bind fun ag=> (AA (Y+1)).bind fun ah=> (AA (U - 1)).bind fun ai=> Option.bind (iter (HK fuel p1) fuel (ah,ai,((((p0.set (Int.toNat p1) K).set (Int.toNat p3) O).set (Int.toNat Y) ae).set (Int.toNat U) ag))) fun V=> (ix V.2 p1).bind fun aj=> (ix V.2 V.1).bind fun ak=> some (V.1,false,((V.2.set (Int.toNat V.1) aj).set (Int.toNat p1) ak)))
theorem Pv{K:Nat}{Y:Nat}{Z:Nat}{ag:Aw}{p0:List (Bi)}{p1:Int}{p2:Int}{p3:Int}(hW:WL 133 Ce E K Y Z ag p0){fuel:Nat}{r:Int×Bool×(List Bi)}(bI:f185 fuel p0 p1 p2 p3=some r):AT J 185 [.slice (Aj K) Z Y,iV p1,iV p2,iV p3,(fV 134)] E [(K,.cells ag 133 (0,0))] (fun w E' B'=>∃(bJ:Aw),w= .tuple #[iV r.1,.bool r.2.1]∧B'= [(K,.cells bJ 133 (0,0))]∧WL 133 Ce E' K Y Z bJ r.2.2):=by
 refine Bm func185 fun Q gg cs H a6 bK=>?_;unfold f185 at bI;refine zg 6 rfl (F5 [13,15] [K] mixed rfl ?_);refine Bh 0 rfl rfl (Bh 1 rfl rfl ?_);refine Bh 2 rfl rfl (Bh 3 rfl rfl ?_);refine Bh 4 rfl rfl (Bh 5 rfl rfl ?_);obtain⟨O,aW,cW⟩:=bs bI;obtain⟨_,⟨_,_,rfl,rfl,⟨_,_,rfl,rfl,⟨ah,c4,rfl,cX⟩⟩⟩,cY⟩:=WL.at hW aW;refine Cg 6 hW.2 aW underlying130 AK ?_;refine Dy 7 [iV O.1,iV O.2.1,sV ah O.2.2 c4] 0 a6 cY B8 AK ?_;refine Bh 8 rfl rfl (Bh 9 rfl rfl ?_);obtain⟨U,aN,cZ⟩:=bs cW;obtain⟨_,⟨_,_,rfl,rfl,⟨_,_,rfl,rfl,⟨ai,aj,rfl,c0⟩⟩⟩,c1⟩:=WL.at hW aN;refine Cg 10 hW.2 aN underlying130 AK ?_;refine Dy 11 [iV U.1,iV U.2.1,sV ai U.2.2 aj] 0 a6 c1 B8 AK ?_;refine Cg 12 hW.2 aN underlying130 AK ?_;have bL:=WL.put (x':=O) (ws':= [iV O.1,iV O.2.1,sV ah O.2.2 c4]) hW hW.2 aN ⟨_,_,rfl,rfl,⟨_,_,rfl,rfl,⟨_,_,rfl,cX⟩⟩⟩;refine Dz 13 0 a6 AK bL.2 fun c2=>?_;refine Cg 14 hW.2 aW underlying130 AK ?_;have V:=WL.put (x':=U) (ws':= [iV U.1,iV U.2.1,sV ai U.2.2 aj]) bL.1 hW.2 aW ⟨_,_,rfl,rfl,⟨_,_,rfl,rfl,⟨_,_,rfl,c0⟩⟩⟩;refine Dz 15 0 c2 AK V.2 fun c3=>?_;refine JB.fin (by decide+kernel) ?_;obtain⟨gh,c5,c6⟩:=bs cZ;refine zg 3 rfl (Bv c5 rfl rfl rfl ?_);obtain⟨aX,c7,c8⟩:=bs c6;refine zg 1 rfl (Cq c7 rfl rfl rfl ?_);obtain⟨ay,c9,da⟩:=bs c8;refine zg 4 rfl (Cw [bX K (AI (AI ag (Int.toNat (p1)*3) [iV O.1,iV O.2.1,sV ah O.2.2 c4]) (Int.toNat (p3)*3) [iV U.1,iV U.2.1,sV ai U.2.2 aj]) 133] [(0,.slice (Aj K) Z Y),(1,iV p1),(4,(fV 134)),(12,iV ay),(13,iV aX)] (fun gi ab db=>?_) (fun dc=>?_))
 ·obtain⟨a7,dd,de⟩:=bs da;refine JL.seq (Cw [bX K (AI (AI ag (Int.toNat (p1)*3) [iV O.1,iV O.2.1,sV ah O.2.2 c4]) (Int.toNat (p3)*3) [iV U.1,iV U.2.1,sV ai U.2.2 aj]) 133] [(0,.slice (Aj K) Z Y),(1,iV p1),(4,(fV 134)),(12,iV ay),(13,iV a7)] (fun a8 av az=>?_) (fun df=>?_))
  ·refine zg 7 rfl (A7 de (fun dg dh=>?_) (fun dg di=>?_))
   ·refine JL.seq (F5 [13,15] [K] mixed rfl ?_);refine Bh 0 rfl rfl (Bh 1 rfl rfl ?_);refine Bh 2 rfl rfl (Bh 3 rfl rfl ?_);refine Bh 4 rfl rfl (Bh 5 rfl rfl ?_);refine Cg 6 hW.2 aN underlying130 AK ?_;obtain⟨ak,a9,dj⟩:=bs dh;obtain⟨_,⟨_,_,rfl,rfl,⟨_,_,rfl,rfl,⟨ba,bb,rfl,dk⟩⟩⟩,dl⟩:=WL.at (V.1.Ad (ab.Aa av)) a9;refine Dy 7 [iV ak.1,iV ak.2.1,sV ba ak.2.2 bb] 0 az dl B8 AK ?_;refine Bh 8 rfl rfl (Bh 9 rfl rfl ?_);obtain⟨al,aY,dm⟩:=bs dj;obtain⟨_,⟨_,_,rfl,rfl,⟨_,_,rfl,rfl,⟨bc,bd,rfl,dn⟩⟩⟩,dp⟩:=WL.at (V.1.Ad (ab.Aa av)) aY;refine Cg 10 (V.1).2 aY underlying130 AK ?_;refine Dy 11 [iV al.1,iV al.2.1,sV bc al.2.2 bd] 0 az dp B8 AK ?_;refine Cg 12 (V.1).2 aY underlying130 AK ?_;have bM:=WL.put (x':=ak) (ws':= [iV ak.1,iV ak.2.1,sV ba ak.2.2 bb]) (V.1.Ad (ab.Aa av)) (V.1).2 aY ⟨_,_,rfl,rfl,⟨_,_,rfl,rfl,⟨_,_,rfl,dk⟩⟩⟩;refine Dz 13 0 az AK bM.2 fun dq=>?_;refine Cg 14 (V.1).2 a9 underlying130 AK ?_;have bN:=WL.put (x':=al) (ws':= [iV al.1,iV al.2.1,sV bc al.2.2 bd]) bM.1 (V.1).2 a9 ⟨_,_,rfl,rfl,⟨_,_,rfl,rfl,⟨_,_,rfl,dn⟩⟩⟩;refine Dz 15 0 dq AK bN.2 fun dr=>?_;refine JB.fin (by decide+kernel) (zg 6 rfl ?_);obtain rfl:=oi dm;exact AS func185 rfl rfl (bK (ab.Aa av) rfl ⟨(AI (AI (AI (AI ag (Int.toNat (p1)*3) [iV O.1,iV O.2.1,sV ah O.2.2 c4]) (Int.toNat (p3)*3) [iV U.1,iV U.2.1,sV ai U.2.2 aj]) (Int.toNat (a7)*3) [iV ak.1,iV ak.2.1,sV ba ak.2.2 bb]) (Int.toNat (p1)*3) [iV al.1,iV al.2.1,sV bc al.2.2 bd]),rfl,(by first | rfl | simp | (simp [Value.cells])),bN.1⟩ dr)
   ·refine zg 2 rfl (F5 [13,15] [K] mixed rfl ?_);refine Bh 0 rfl rfl (Bh 1 rfl rfl ?_);refine Bh 2 rfl rfl (Bh 3 rfl rfl ?_);refine Bh 4 rfl rfl (Bh 5 rfl rfl ?_);obtain⟨am,aZ,dt⟩:=bs di;obtain⟨_,⟨_,_,rfl,rfl,⟨_,_,rfl,rfl,⟨be,bf,rfl,du⟩⟩⟩,dv⟩:=WL.at (V.1.Ad (ab.Aa av)) aZ;refine Cg 6 (V.1).2 aZ underlying130 AK ?_;refine Dy 7 [iV am.1,iV am.2.1,sV be am.2.2 bf] 0 az dv B8 AK ?_;refine Bh 8 rfl rfl (Bh 9 rfl rfl ?_);obtain⟨an,a0,dw⟩:=bs dt;obtain⟨_,⟨_,_,rfl,rfl,⟨_,_,rfl,rfl,⟨bg,bh,rfl,dx⟩⟩⟩,dy⟩:=WL.at (V.1.Ad (ab.Aa av)) a0;refine Cg 10 (V.1).2 a0 underlying130 AK ?_;refine Dy 11 [iV an.1,iV an.2.1,sV bg an.2.2 bh] 0 az dy B8 AK ?_;refine Cg 12 (V.1).2 a0 underlying130 AK ?_;have bO:=WL.put (x':=am) (ws':= [iV am.1,iV am.2.1,sV be am.2.2 bf]) (V.1.Ad (ab.Aa av)) (V.1).2 a0 ⟨_,_,rfl,rfl,⟨_,_,rfl,rfl,⟨_,_,rfl,du⟩⟩⟩;refine Dz 13 0 az AK bO.2 fun dz=>?_;refine Cg 14 (V.1).2 aZ underlying130 AK ?_;have bP:=WL.put (x':=an) (ws':= [iV an.1,iV an.2.1,sV bg an.2.2 bh]) bO.1 (V.1).2 aZ ⟨_,_,rfl,rfl,⟨_,_,rfl,rfl,⟨_,_,rfl,dx⟩⟩⟩;refine Dz 15 0 dz AK bP.2 fun dA=>?_;refine JB.fin (by decide+kernel) ?_;obtain⟨gj,dB,dC⟩:=bs dw;refine zg 3 rfl (Bv dB rfl rfl rfl ?_);obtain⟨gk,dD,dE⟩:=bs dC;refine zg 5 rfl (Cq dD rfl rfl rfl ?_);obtain⟨bi,dF,dG⟩:=bs dE;refine zg 3 rfl (Cc (fun L s=>∃(bj:LH) (f102:Aw),Jn a8 H bj [bX K f102 133] [(0,.slice (Aj K) Z Y),(1,iV p1),(13,iV bi.1)] L s (WL 133 Ce bj K Y Z f102 bi.2)) ?_ ?_)
    ·rintro _ _ ⟨bj,f102,rfl,rfl,dH,bl,ar⟩;refine JL.seq (F5 [13,15] [K] mixed rfl ?_);refine Bh 0 rfl rfl (Bh 1 rfl rfl ?_);refine Bh 2 rfl rfl (Bh 3 rfl rfl ?_);refine Bh 4 rfl rfl (Bh 5 rfl rfl ?_);obtain⟨ao,a1,dI⟩:=bs dG;obtain⟨_,⟨_,_,rfl,rfl,⟨_,_,rfl,rfl,⟨bm,bn,rfl,dJ⟩⟩⟩,dK⟩:=WL.at ar a1;refine Cg 6 ar.2 a1 underlying130 AK ?_;refine Dy 7 [iV ao.1,iV ao.2.1,sV bm ao.2.2 bn] 0 bl dK B8 AK ?_;refine Bh 8 rfl rfl (Bh 9 rfl rfl ?_);obtain⟨ap,a2,dL⟩:=bs dI;obtain⟨_,⟨_,_,rfl,rfl,⟨_,_,rfl,rfl,⟨bo,bp,rfl,dM⟩⟩⟩,dN⟩:=WL.at ar a2;refine Cg 10 ar.2 a2 underlying130 AK ?_;refine Dy 11 [iV ap.1,iV ap.2.1,sV bo ap.2.2 bp] 0 bl dN B8 AK ?_;refine Cg 12 ar.2 a2 underlying130 AK ?_;have bQ:=WL.put (x':=ao) (ws':= [iV ao.1,iV ao.2.1,sV bm ao.2.2 bn]) ar ar.2 a2 ⟨_,_,rfl,rfl,⟨_,_,rfl,rfl,⟨_,_,rfl,dJ⟩⟩⟩;refine Dz 13 0 bl AK bQ.2 fun dO=>?_;refine Cg 14 ar.2 a1 underlying130 AK ?_;have bR:=WL.put (x':=ap) (ws':= [iV ap.1,iV ap.2.1,sV bo ap.2.2 bp]) bQ.1 ar.2 a1 ⟨_,_,rfl,rfl,⟨_,_,rfl,rfl,⟨_,_,rfl,dM⟩⟩⟩;refine Dz 15 0 dO AK bR.2 fun dP=>?_;refine JB.fin (by decide+kernel) (zg 6 rfl ?_);obtain rfl:=oi dL;exact AS func185 rfl rfl (bK ((ab.Aa av).Aa dH) rfl ⟨(AI (AI f102 (Int.toNat (bi.1)*3) [iV ao.1,iV ao.2.1,sV bm ao.2.2 bn]) (Int.toNat (p1)*3) [iV ap.1,iV ap.2.1,sV bo ap.2.2 bp]),rfl,(by first | rfl | simp | (simp [Value.cells])),bR.1⟩ dP)
    ·intro dQ;refine JL.block (DT dF (fun L s au=>∃(bq:LH) (f127:Aw),Jn a8 H bq [bX K f127 133] [(0,.slice (Aj K) Z Y),(1,iV p1),(4,(fV 134)),(12,iV au.1),(13,iV au.2.1)] L s (WL 133 Ce bq K Y Z f127 au.2.2)) ⟨a8,(AI (AI (AI (AI ag (Int.toNat (p1)*3) [iV O.1,iV O.2.1,sV ah O.2.2 c4]) (Int.toNat (p3)*3) [iV U.1,iV U.2.1,sV ai U.2.2 aj]) (Int.toNat (ay)*3) [iV am.1,iV am.2.1,sV be am.2.2 bf]) (Int.toNat (a7)*3) [iV an.1,iV an.2.1,sV bg an.2.2 bh]),rfl,rfl,Ak,dA,bP.1⟩ ?_);rintro _ _ au ⟨bq,f127,rfl,rfl,bS,dR,aa⟩ dS ⟨gl,br⟩ dT;have bT:=br;unfold HK at bT;obtain⟨aw,dU,dV⟩:=bs bT;refine zg 2 rfl (Cw [bX K f127 133] [(0,.slice (Aj K) Z Y),(1,iV p1),(4,(fV 134)),(12,iV aw),(13,iV au.2.1)] (fun gm aq dW=>?_) (fun dX=>?_))
     ·obtain⟨bu,dY,dZ⟩:=bs dV;refine JL.seq (Cw [bX K f127 133] [(0,.slice (Aj K) Z Y),(1,iV p1),(4,(fV 134)),(12,iV aw),(13,iV bu)] (fun bU aA a3=>?_) (fun ea=>?_))
      ·refine zg 7 rfl (A7 dZ (fun eb ec=>?_) (fun eb ed=>?_))
       ·refine JL.exit rfl ?_;obtain rfl:=oi ec;obtain rfl:=dS _ br;exact AU (dQ _ _ ⟨bU,f127,rfl,rfl,((bS.Aa aq).Aa aA),a3,(aa.Ad (aq.Aa aA))⟩) rfl
       ·refine zg 2 rfl (F5 [13,15] [K] mixed rfl ?_);refine Bh 0 rfl rfl (Bh 1 rfl rfl ?_);refine Bh 2 rfl rfl (Bh 3 rfl rfl ?_);refine Bh 4 rfl rfl (Bh 5 rfl rfl ?_);obtain⟨ac,a4,ee⟩:=bs ed;obtain⟨_,⟨_,_,rfl,rfl,⟨_,_,rfl,rfl,⟨bv,bw,rfl,ef⟩⟩⟩,eg⟩:=WL.at (aa.Ad (aq.Aa aA)) a4;refine Cg 6 aa.2 a4 underlying130 AK ?_;refine Dy 7 [iV ac.1,iV ac.2.1,sV bv ac.2.2 bw] 0 a3 eg B8 AK ?_;refine Bh 8 rfl rfl (Bh 9 rfl rfl ?_);obtain⟨ae,a5,eh⟩:=bs ee;obtain⟨_,⟨_,_,rfl,rfl,⟨_,_,rfl,rfl,⟨bx,bz,rfl,ei⟩⟩⟩,ej⟩:=WL.at (aa.Ad (aq.Aa aA)) a5;refine Cg 10 aa.2 a5 underlying130 AK ?_;refine Dy 11 [iV ae.1,iV ae.2.1,sV bx ae.2.2 bz] 0 a3 ej B8 AK ?_;refine Cg 12 aa.2 a5 underlying130 AK ?_;have bV:=WL.put (x':=ac) (ws':= [iV ac.1,iV ac.2.1,sV bv ac.2.2 bw]) (aa.Ad (aq.Aa aA)) aa.2 a5 ⟨_,_,rfl,rfl,⟨_,_,rfl,rfl,⟨_,_,rfl,ef⟩⟩⟩;refine Dz 13 0 a3 AK bV.2 fun ek=>?_;refine Cg 14 aa.2 a4 underlying130 AK ?_;have bW:=WL.put (x':=ae) (ws':= [iV ae.1,iV ae.2.1,sV bx ae.2.2 bz]) bV.1 aa.2 a4 ⟨_,_,rfl,rfl,⟨_,_,rfl,rfl,⟨_,_,rfl,ei⟩⟩⟩;refine Dz 15 0 ek AK bW.2 fun el=>?_;refine JB.fin (by decide+kernel) ?_;obtain⟨em,en,eo⟩:=bs eh;refine zg 3 rfl (Bv en rfl rfl rfl ?_);obtain⟨ep,eq,er⟩:=bs eo;refine zg 4 rfl (Cq eq rfl rfl rfl ?_);refine zg 3 rfl ?_;obtain rfl:=oi er;exact AU (dT _ _ (em,ep,((au.2.2.set (Int.toNat aw) ac).set (Int.toNat bu) ae)) ⟨bU,(AI (AI f127 (Int.toNat (aw)*3) [iV ac.1,iV ac.2.1,sV bv ac.2.2 bw]) (Int.toNat (bu)*3) [iV ae.1,iV ae.2.1,sV bx ae.2.2 bz]),rfl,rfl,((bS.Aa aq).Aa aA),el,bW.1⟩ br) rfl
      ·refine JL.block (CC dY (fun aO=> [bX K f127 133]) (fun aO=> [(0,.slice (Aj K) Z Y),(1,iV p1),(4,(fV 134)),(12,iV aw),(13,iV aO)]) Ak dW ?_);rintro aO bY aB aP et ⟨gn,bA⟩ eu;have bZ:=bA;unfold Il at bZ;refine zg 2 rfl (Dr 17 [K] ⟨⟨0,_,rfl⟩,trivial⟩ aP fun ht=>?_);refine Bt ht rfl [0,1,2,3] rfl ?_;obtain⟨ew,b0,ex⟩:=bs bZ;refine Fq 0 #[true,true,true,true,true,true,true,true,true,true,true,true,true,true,true,true,true] (fun L s=>∃(b1:LH),Jm bY H b1 [bX K f127 133] [(0,.slice (Aj K) Z Y),(1,iV p1),(4,(fV 134)),(12,iV aw),(13,iV aO),(139,.bool ew)] L s) ?_ ?_
       ·rintro _ _ ⟨b1,rfl,rfl,b2,b3⟩;refine AQ.fin (by decide+kernel) (BO ex (fun ey ez=>?_) (fun ey eA=>?_))
        ·obtain⟨eB,eC,eD⟩:=bs ez;refine zg 4 rfl (Cq eC rfl rfl rfl ?_);refine zg 3 rfl ?_;obtain rfl:=oi eD;exact eu eB (aB.Aa b2) b3 rfl bA
        ·refine JL.exit rfl ?_;obtain rfl:=oi eA;obtain rfl:=et _ bA;exact ea (aB.Aa b2) b3 rfl
       ·intro b4;refine FH (q:=aw≤aO) (i:=126) rfl (fun bB=>?_) (fun bB=>?_)
        ·have eE:=ip b0 bB;refine Bt ht rfl [4,5,6] rfl ?_;obtain⟨aC,b5,eF⟩:=bs eE;obtain⟨_,⟨_,_,rfl,rfl,⟨_,_,rfl,rfl,⟨b6,b7,rfl,eG⟩⟩⟩,eH⟩:=WL.at (aa.Ad (aq.Aa aB)) b5;refine Bd 7 ht rfl rfl (fun ρ h s' hs=>FM ((aa.Ad (aq.Aa aB))).2 b5 underlying130 AK (h _ _ rfl) (h _ _ rfl)) ?_;refine Dl 8 ht [iV aC.1,iV aC.2.1,sV b6 aC.2.2 b7] 0 aP eH B8 AK ?_;refine Bt ht rfl [9,10] rfl ?_;obtain⟨aD,b8,eI⟩:=bs eF;obtain⟨_,⟨_,_,rfl,rfl,⟨_,_,rfl,rfl,⟨b9,ca,rfl,eJ⟩⟩⟩,eK⟩:=WL.at (aa.Ad (aq.Aa aB)) b8;refine Bd 11 ht rfl rfl (fun ρ h s' hs=>FM ((aa.Ad (aq.Aa aB))).2 b8 underlying130 AK (h _ _ rfl) (h _ _ rfl)) ?_;refine Dl 12 ht [iV aD.1,iV aD.2.1,sV b9 aD.2.2 ca] 0 aP eK B8 AK ?_;obtain⟨eL,eM,eN⟩:=bs eI;refine GK (i:=13) ⟨⟨0,_,rfl⟩,trivial⟩ (vs:= [.agg #[iV aC.1,iV aC.2.1,sV b6 aC.2.2 b7],.agg #[iV aD.1,iV aD.2.1,sV b9 aD.2.2 ca]]) (Ga eG eJ eM) (by decide+kernel) rfl rfl rfl rfl F0 rfl aP ?_;rintro _ eO _ eP ⟨rfl,rfl⟩ eQ;refine CG 14 ht rfl rfl ?_;refine Bd (v:= .bool (decide (¬(eL<0)))) 15 ht rfl rfl (fun ρ h s' hs=>HJ (h _ _ rfl)) ?_;refine CG 16 ht rfl rfl ?_;obtain rfl:=oi eN;refine Dp ?_ (b4 _ _ ⟨eO,rfl,rfl,eP,eQ⟩);exact⟨rfl,rfl,rfl,rfl,rfl,rfl,trivial⟩
        ·have eR:=im b0 bB;refine Bt ht rfl [4,5,6,7,8,9,10,11,12,13,14,15,16] rfl ?_;obtain rfl:=oi eR;refine Dp ?_ (b4 _ _ ⟨bY,rfl,rfl,Ak,aP⟩);exact⟨rfl,rfl,rfl,rfl,rfl,rfl,trivial⟩
     ·refine JL.block (CC dU (fun aQ=> [bX K f127 133]) (fun aQ=> [(0,.slice (Aj K) Z Y),(1,iV p1),(4,(fV 134)),(12,iV aQ),(13,iV au.2.1)]) Ak dR ?_);rintro aQ cb aE aR eS ⟨gp,bC⟩ eT;have cc:=bC;unfold Ig at cc;refine zg 2 rfl (Dr 16 [K] ⟨⟨0,_,rfl⟩,trivial⟩ aR fun ht=>?_);refine Bt ht rfl [0,1,2,3] rfl ?_;obtain⟨eU,cd,eV⟩:=bs cc;refine Fq 0 #[true,true,true,true,true,true,true,true,true,true,true,true,true,true,true,true] (fun L s=>∃(ce:LH),Jm cb H ce [bX K f127 133] [(0,.slice (Aj K) Z Y),(1,iV p1),(4,(fV 134)),(12,iV aQ),(13,iV au.2.1),(120,.bool eU)] L s) ?_ ?_
      ·rintro _ _ ⟨ce,rfl,rfl,cf,cg⟩;refine AQ.fin (by decide+kernel) (BO eV (fun eW eX=>?_) (fun eW eY=>?_))
       ·obtain⟨eZ,e0,e1⟩:=bs eX;refine zg 4 rfl (Bv e0 rfl rfl rfl ?_);refine zg 3 rfl ?_;obtain rfl:=oi e1;exact eT eZ (aE.Aa cf) cg rfl bC
       ·refine JL.exit rfl ?_;obtain rfl:=oi eY;obtain rfl:=eS _ bC;exact dX (aE.Aa cf) cg rfl
      ·intro ci;refine FH (q:=aQ≤au.2.1) (i:=108) rfl (fun bD=>?_) (fun bD=>?_)
       ·have e3:=ip cd bD;refine Bt ht rfl [4,5,6] rfl ?_;obtain⟨aF,ck,e4⟩:=bs e3;obtain⟨_,⟨_,_,rfl,rfl,⟨_,_,rfl,rfl,⟨cm,cn,rfl,e5⟩⟩⟩,e6⟩:=WL.at (aa.Ad aE) ck;refine Bd 7 ht rfl rfl (fun ρ h s' hs=>FM ((aa.Ad aE)).2 ck underlying130 AK (h _ _ rfl) (h _ _ rfl)) ?_;refine Dl 8 ht [iV aF.1,iV aF.2.1,sV cm aF.2.2 cn] 0 aR e6 B8 AK ?_;refine Bt ht rfl [9,10] rfl ?_;obtain⟨aG,co,e7⟩:=bs e4;obtain⟨_,⟨_,_,rfl,rfl,⟨_,_,rfl,rfl,⟨cp,cq,rfl,e8⟩⟩⟩,e9⟩:=WL.at (aa.Ad aE) co;refine Bd 11 ht rfl rfl (fun ρ h s' hs=>FM ((aa.Ad aE)).2 co underlying130 AK (h _ _ rfl) (h _ _ rfl)) ?_;refine Dl 12 ht [iV aG.1,iV aG.2.1,sV cp aG.2.2 cq] 0 aR e9 B8 AK ?_;obtain⟨gq,fa,fb⟩:=bs e7;refine GK (i:=13) ⟨⟨0,_,rfl⟩,trivial⟩ (vs:= [.agg #[iV aF.1,iV aF.2.1,sV cm aF.2.2 cn],.agg #[iV aG.1,iV aG.2.1,sV cp aG.2.2 cq]]) (Ga e5 e8 fa) (by decide+kernel) rfl rfl rfl rfl F0 rfl aR ?_;rintro _ fc _ fd ⟨rfl,rfl⟩ fe;refine Bt ht rfl [14,15] rfl ?_;obtain rfl:=oi fb;refine Dp ?_ (ci _ _ ⟨fc,rfl,rfl,fd,fe⟩);exact⟨rfl,rfl,rfl,rfl,rfl,rfl,trivial⟩
       ·have ff:=im cd bD;refine Bt ht rfl [4,5,6,7,8,9,10,11,12,13,14,15] rfl ?_;obtain rfl:=oi ff;refine Dp ?_ (ci _ _ ⟨cb,rfl,rfl,Ak,aR⟩);exact⟨rfl,rfl,rfl,rfl,rfl,rfl,trivial⟩
  ·refine JL.block (CC dd (fun aS=> [bX K (AI (AI ag (Int.toNat (p1)*3) [iV O.1,iV O.2.1,sV ah O.2.2 c4]) (Int.toNat (p3)*3) [iV U.1,iV U.2.1,sV ai U.2.2 aj]) 133]) (fun aS=> [(0,.slice (Aj K) Z Y),(1,iV p1),(4,(fV 134)),(12,iV ay),(13,iV aS)]) Ak db ?_);rintro aS cr aH aT fg ⟨gr,bE⟩ fh;have ct:=bE;unfold Ji at ct;refine zg 2 rfl (Dr 17 [K] ⟨⟨0,_,rfl⟩,trivial⟩ aT fun ht=>?_);refine Bt ht rfl [0,1,2,3] rfl ?_;obtain⟨fj,cu,fk⟩:=bs ct;refine Fq 0 #[true,true,true,true,true,true,true,true,true,true,true,true,true,true,true,true,true] (fun L s=>∃(cv:LH),Jm cr H cv [bX K (AI (AI ag (Int.toNat (p1)*3) [iV O.1,iV O.2.1,sV ah O.2.2 c4]) (Int.toNat (p3)*3) [iV U.1,iV U.2.1,sV ai U.2.2 aj]) 133] [(0,.slice (Aj K) Z Y),(1,iV p1),(4,(fV 134)),(12,iV ay),(13,iV aS),(66,.bool fj)] L s) ?_ ?_
   ·rintro _ _ ⟨cv,rfl,rfl,cw,cy⟩;refine AQ.fin (by decide+kernel) (BO fk (fun fl fm=>?_) (fun fl fo=>?_))
    ·obtain⟨fp,fq,fs⟩:=bs fm;refine zg 4 rfl (Cq fq rfl rfl rfl ?_);refine zg 3 rfl ?_;obtain rfl:=oi fs;exact fh fp (aH.Aa cw) cy rfl bE
    ·refine JL.exit rfl ?_;obtain rfl:=oi fo;obtain rfl:=fg _ bE;exact df (aH.Aa cw) cy rfl
   ·intro cz;refine FH (q:=ay≤aS) (i:=53) rfl (fun bF=>?_) (fun bF=>?_)
    ·have fu:=ip cu bF;refine Bt ht rfl [4,5,6] rfl ?_;obtain⟨aI,cA,fv⟩:=bs fu;obtain⟨_,⟨_,_,rfl,rfl,⟨_,_,rfl,rfl,⟨cB,cC,rfl,fw⟩⟩⟩,fx⟩:=WL.at (V.1.Ad (ab.Aa aH)) cA;refine Bd 7 ht rfl rfl (fun ρ h s' hs=>FM ((V.1.Ad (ab.Aa aH))).2 cA underlying130 AK (h _ _ rfl) (h _ _ rfl)) ?_;refine Dl 8 ht [iV aI.1,iV aI.2.1,sV cB aI.2.2 cC] 0 aT fx B8 AK ?_;refine Bt ht rfl [9,10] rfl ?_;obtain⟨aJ,cD,fy⟩:=bs fv;obtain⟨_,⟨_,_,rfl,rfl,⟨_,_,rfl,rfl,⟨cE,cF,rfl,fz⟩⟩⟩,fA⟩:=WL.at (V.1.Ad (ab.Aa aH)) cD;refine Bd 11 ht rfl rfl (fun ρ h s' hs=>FM ((V.1.Ad (ab.Aa aH))).2 cD underlying130 AK (h _ _ rfl) (h _ _ rfl)) ?_;refine Dl 12 ht [iV aJ.1,iV aJ.2.1,sV cE aJ.2.2 cF] 0 aT fA B8 AK ?_;obtain⟨fB,fC,fD⟩:=bs fy;refine GK (i:=13) ⟨⟨0,_,rfl⟩,trivial⟩ (vs:= [.agg #[iV aI.1,iV aI.2.1,sV cB aI.2.2 cC],.agg #[iV aJ.1,iV aJ.2.1,sV cE aJ.2.2 cF]]) (Ga fw fz fC) (by decide+kernel) rfl rfl rfl rfl F0 rfl aT ?_;rintro _ fE _ fF ⟨rfl,rfl⟩ fG;refine CG 14 ht rfl rfl ?_;refine Bd (v:= .bool (decide (¬(fB<0)))) 15 ht rfl rfl (fun ρ h s' hs=>HJ (h _ _ rfl)) ?_;refine CG 16 ht rfl rfl ?_;obtain rfl:=oi fD;refine Dp ?_ (cz _ _ ⟨fE,rfl,rfl,fF,fG⟩);exact⟨rfl,rfl,rfl,rfl,rfl,rfl,trivial⟩
    ·have fH:=im cu bF;refine Bt ht rfl [4,5,6,7,8,9,10,11,12,13,14,15,16] rfl ?_;obtain rfl:=oi fH;refine Dp ?_ (cz _ _ ⟨cr,rfl,rfl,Ak,aT⟩);exact⟨rfl,rfl,rfl,rfl,rfl,rfl,trivial⟩
 ·refine JL.block (CC c9 (fun aU=> [bX K (AI (AI ag (Int.toNat (p1)*3) [iV O.1,iV O.2.1,sV ah O.2.2 c4]) (Int.toNat (p3)*3) [iV U.1,iV U.2.1,sV ai U.2.2 aj]) 133]) (fun aU=> [(0,.slice (Aj K) Z Y),(1,iV p1),(4,(fV 134)),(12,iV aU),(13,iV aX)]) Ak c3 ?_);rintro aU cG aK aV fI ⟨gt,bG⟩ fJ;have cH:=bG;unfold Jg at cH;refine zg 2 rfl (Dr 16 [K] ⟨⟨0,_,rfl⟩,trivial⟩ aV fun ht=>?_);refine Bt ht rfl [0,1,2,3] rfl ?_;obtain⟨fK,cI,fL⟩:=bs cH;refine Fq 0 #[true,true,true,true,true,true,true,true,true,true,true,true,true,true,true,true] (fun L s=>∃(cJ:LH),Jm cG H cJ [bX K (AI (AI ag (Int.toNat (p1)*3) [iV O.1,iV O.2.1,sV ah O.2.2 c4]) (Int.toNat (p3)*3) [iV U.1,iV U.2.1,sV ai U.2.2 aj]) 133] [(0,.slice (Aj K) Z Y),(1,iV p1),(4,(fV 134)),(12,iV aU),(13,iV aX),(47,.bool fK)] L s) ?_ ?_
  ·rintro _ _ ⟨cJ,rfl,rfl,cK,cM⟩;refine AQ.fin (by decide+kernel) (BO fL (fun fM fN=>?_) (fun fM fO=>?_))
   ·obtain⟨fP,fQ,fR⟩:=bs fN;refine zg 4 rfl (Bv fQ rfl rfl rfl ?_);refine zg 3 rfl ?_;obtain rfl:=oi fR;exact fJ fP (aK.Aa cK) cM rfl bG
   ·refine JL.exit rfl ?_;obtain rfl:=oi fO;obtain rfl:=fI _ bG;exact dc (aK.Aa cK) cM rfl
  ·intro cN;refine FH (q:=aU≤aX) (i:=35) rfl (fun bH=>?_) (fun bH=>?_)
   ·have fS:=ip cI bH;refine Bt ht rfl [4,5,6] rfl ?_;obtain⟨aL,cO,fT⟩:=bs fS;obtain⟨_,⟨_,_,rfl,rfl,⟨_,_,rfl,rfl,⟨cP,cQ,rfl,fU⟩⟩⟩,fW⟩:=WL.at (V.1.Ad aK) cO;refine Bd 7 ht rfl rfl (fun ρ h s' hs=>FM ((V.1.Ad aK)).2 cO underlying130 AK (h _ _ rfl) (h _ _ rfl)) ?_;refine Dl 8 ht [iV aL.1,iV aL.2.1,sV cP aL.2.2 cQ] 0 aV fW B8 AK ?_;refine Bt ht rfl [9,10] rfl ?_;obtain⟨aM,cR,fX⟩:=bs fT;obtain⟨_,⟨_,_,rfl,rfl,⟨_,_,rfl,rfl,⟨cT,cV,rfl,fY⟩⟩⟩,fZ⟩:=WL.at (V.1.Ad aK) cR;refine Bd 11 ht rfl rfl (fun ρ h s' hs=>FM ((V.1.Ad aK)).2 cR underlying130 AK (h _ _ rfl) (h _ _ rfl)) ?_;refine Dl 12 ht [iV aM.1,iV aM.2.1,sV cT aM.2.2 cV] 0 aV fZ B8 AK ?_;obtain⟨gu,ga,gb⟩:=bs fX;refine GK (i:=13) ⟨⟨0,_,rfl⟩,trivial⟩ (vs:= [.agg #[iV aL.1,iV aL.2.1,sV cP aL.2.2 cQ],.agg #[iV aM.1,iV aM.2.1,sV cT aM.2.2 cV]]) (Ga fU fY ga) (by decide+kernel) rfl rfl rfl rfl F0 rfl aV ?_;rintro _ gc _ gd ⟨rfl,rfl⟩ ge;refine Bt ht rfl [14,15] rfl ?_;obtain rfl:=oi gb;refine Dp ?_ (cN _ _ ⟨gc,rfl,rfl,gd,ge⟩);exact⟨rfl,rfl,rfl,rfl,rfl,rfl,trivial⟩
   ·have gf:=im cI bH;refine Bt ht rfl [4,5,6,7,8,9,10,11,12,13,14,15] rfl ?_;obtain rfl:=oi gf;refine Dp ?_ (cN _ _ ⟨cG,rfl,rfl,Ak,aV⟩);exact⟨rfl,rfl,rfl,rfl,rfl,rfl,trivial⟩
end Pal
namespace Pal
open Go Go.Conc Go.Proofs
open Go.Proofs.Tryz
variable {J:Judge Tryz.prog}{E:LH}
def Kp(fuel:Nat)(p0:List Bi)(p1:Int)(p2:Int)(p3:Int)(ap:Unit):Option (Bz Unit (((List Bi))⊕(Unit))):= (AA (p2 - p1)).bind fun Z=> if Z≤12 then((f178 fuel p0 p1 p2).bind fun aa=> some (.done (Sum.inl aa))) else(if p3=0 then(none) else((f181 fuel p0 p1 p2).bind fun O=> Option.bind (if O.2=2 then((f182 fuel p0 p1 p2).bind fun ab=> (AA (p2 - 1)).bind fun ac=> (AA (O.1 - p1)).bind fun ae=> (AA (ac - ae)).bind fun ag=> some (ag,1,ab)) else(some (O.1,O.2,p0))) fun K=> Option.bind (if K.2.1=1 then((f183 fuel K.2.2 p1 p2).bind fun U=> if U.1=true then(some (Sum.inl U.2)) else(some (Sum.inr U.2))) else(some (Sum.inr K.2.2))) fun ah=>Sum.elim (fun r=>some (.done (Sum.inl r))) (fun V=> Option.bind (if 0<p1 then((AA (p1 - 1)).bind fun ai=> (ix V ai).bind fun aj=> (ix V K.1).bind fun ak=> (f134 fuel aj ak).bind fun al=> some (decide (¬(al<0)))) else(some false)) fun am=> if am=true then(none) else((f185 fuel V p1 p2 K.1).bind fun Y=> (AA (Y.1 - p1)).bind fun an=> (AA (p2 - Y.1)).bind fun ao=> (GB Z (8)).bind fun aq=> if an<ao then(none) else((AA (Y.1+1)).bind fun ar=> none))) ah))
def Hq(fuel:Nat)(p0:List Bi)(p1:Int)(p2:Int)(p3:Int):Option ((List Bi)):= Option.bind (iter (Kp fuel p0 p1 p2 p3) fuel ()) fun K=> Sum.elim (fun r=>some r) (fun O=> none) K
theorem OH{K:Nat}{O:Nat}{U:Nat}{ah:Aw}{p0:List (Bi)}{p1:Int}{p2:Int}{p3:Int}(hW:WL 133 Ce E K O U ah p0){fuel:Nat}{r:(List Bi)}(an:Hq fuel p0 p1 p2 p3=some r):AT J 162 [.slice (Aj K) U O,iV p1,iV p2,iV p3,(fV 134)] E [(K,.cells ah 133 (0,0))] (fun w E' B'=>∃(ao:Aw),w= .tuple #[]∧B'= [(K,.cells ao 133 (0,0))]∧WL 133 Ce E' K O U ao r):=by
 refine Bm func162 fun Q cq cs H aR ap=>?_;unfold Hq at an;obtain⟨cr,aS,aq⟩:=bs an;refine zg 8 rfl (Cc (fun L s=>False) ?_ ?_)
 ·intro _ _ aT;exact aT.elim
 ·intro ct;refine JL.block (CC aS (fun ar=> [bX K ah 133]) (fun ar=> [(0,.slice (Aj K) U O),(1,iV p1),(2,iV p2),(3,iV p3),(4,(fV 134)),(10,.bool true),(11,.bool true)]) Ak aR ?_);rintro ar cu V au av ⟨cv,ai⟩ cw;have aw:=ai;unfold Kp at aw;obtain⟨aj,aU,aV⟩:=bs aw;refine zg 5 rfl (Cq aU rfl rfl rfl ?_);refine zg 8 rfl (A7 aV (fun aW aX=>?_) (fun aW aY=>?_))
  ·obtain⟨cy,aZ,a0⟩:=bs aX;refine zg 6 rfl (CZ 0 (O9 (hW.Ad V) aZ) rfl rfl Ly au rfl ?_);rintro _ cz _ a1 ⟨f32,rfl,rfl,a2⟩ a3;refine JL.done ?_;obtain rfl:=oi a0;obtain rfl:=av _ ai;have a4:=elim_inl aq;obtain rfl:=oi a4;exact AS func162 rfl rfl (ap (V.Aa a1) rfl ⟨f32,rfl,(by first | rfl | simp | (simp [Value.cells])),a2⟩ a3)
  ·refine zg 7 rfl (A7 aY (fun a5 a6=>?_) (fun a5 a7=>?_))
   ·refine zg 6 rfl ?_;cases a6
   ·refine zg 5 rfl (Av (v:= .bool false) rfl (fun ρ h=>Yl.not (c:=true) (h _ _ rfl)) ?_);obtain⟨cA,a8,a9⟩:=bs a7;refine zg 9 rfl (CZ 0 (PG (hW.Ad V) a8) rfl rfl (Bc func181 rfl) au rfl ?_);rintro _ ay _ ak ⟨rfl,rfl⟩ az;obtain⟨Y,ba,bb⟩:=bs a9;refine zg 12 rfl (Cc (fun L s=>∃(ab:LH) (f56:Aw),Jn ay H ab [bX K f56 133] [(0,.slice (Aj K) U O),(1,iV p1),(2,iV p2),(3,iV p3),(4,(fV 134)),(10,.bool true),(11,.bool true),(12,iV aj),(13,iV Y.1),(14,iV Y.2.1)] L s (WL 133 Ce ab K O U f56 Y.2.2)) ?_ ?_)
    ·rintro _ _ ⟨ab,f56,rfl,rfl,bc,aA,aB⟩;obtain⟨bd,be,aC⟩:=bs bb;refine zg 12 rfl (Cc (fun L s=>∃(al:(List Bi)) (ac:LH) (f65:Aw),bd=Sum.inr al∧Jn ab H ac [bX K f65 133] [(0,.slice (Aj K) U O),(1,iV p1),(2,iV p2),(3,iV p3),(4,(fV 134)),(10,.bool true),(11,.bool true),(12,iV aj),(13,iV Y.1)] L s (WL 133 Ce ac K O U f65 al)) ?_ ?_)
     ·rintro _ _ ⟨al,ac,f65,rfl,rfl,rfl,cB,ae,ag⟩;have bf:=elim_inr aC;refine zg 2 rfl (Dr 17 [K] ⟨⟨0,_,rfl⟩,trivial⟩ ae fun ht=>?_);refine Bt ht rfl [0,1,2] rfl ?_;obtain⟨bg,aD,bh⟩:=bs bf;refine Fq 0 #[true,true,true,true,true,true,true,true,true,true,true,true,true,true,true,true,true] (fun L s=>∃(aE:LH),Jm ac H aE [bX K f65 133] [(0,.slice (Aj K) U O),(1,iV p1),(2,iV p2),(3,iV p3),(4,(fV 134)),(10,.bool true),(11,.bool true),(12,iV aj),(13,iV Y.1),(97,.bool bg)] L s) ?_ ?_
      ·rintro _ _ ⟨aE,rfl,rfl,bi,bj⟩;refine AQ.fin (by decide+kernel) (BO bh (fun bl bm=>?_) (fun bl bn=>?_))
       ·refine zg 7 rfl ?_;cases bm
       ·obtain⟨cC,bo,bp⟩:=bs bn;refine zg 8 rfl (CZ 0 (Pv (ag.Ad bi) bo) rfl rfl (Bc func185 rfl) bj rfl ?_);rintro _ cD _ cE ⟨f83,rfl,rfl,cF⟩ cG;obtain⟨cH,bq,br⟩:=bs bp;refine zg 15 rfl (Cq bq rfl rfl rfl ?_);obtain⟨cI,bu,bv⟩:=bs br;refine zg 2 rfl (Cq bu rfl rfl rfl ?_);obtain⟨bw,bx,bz⟩:=bs bv;refine zg 6 rfl (Av (v:=iV bw) rfl (fun ρ h=>Jh (h _ _ rfl) (h _ _ rfl) bx) ?_);refine zg 8 rfl (A7 bz (fun bA bB=>?_) (fun bA bC=>?_))
        ·refine zg 14 rfl ?_;cases bB
        ·obtain⟨cJ,bD,bE⟩:=bs bC;refine zg 11 rfl (Bv bD rfl rfl rfl ?_);refine zg 3 rfl ?_;cases bE
      ·intro aF;refine FH (q:=0<p1) (i:=83) rfl (fun am=>?_) (fun am=>?_)
       ·have bF:=ip aD am;refine Bt ht rfl [3,4,5] rfl ?_;obtain⟨cK,bG,bH⟩:=bs bF;refine Bd 6 ht rfl rfl (fun ρ h s' hs=>Db (h _ _ rfl) (h _ _ rfl) bG) ?_;obtain⟨Z,aG,bI⟩:=bs bH;obtain⟨_,⟨_,_,rfl,rfl,⟨_,_,rfl,rfl,⟨aH,aI,rfl,bJ⟩⟩⟩,bK⟩:=WL.at ag aG;refine Fe 7 ht (ag).2 aG underlying130 AK ?_;refine Dl 8 ht [iV Z.1,iV Z.2.1,sV aH Z.2.2 aI] 0 ae bK B8 AK ?_;refine Bt ht rfl [9,10] rfl ?_;obtain⟨aa,aJ,bL⟩:=bs bI;obtain⟨_,⟨_,_,rfl,rfl,⟨_,_,rfl,rfl,⟨aK,aL,rfl,bM⟩⟩⟩,bN⟩:=WL.at ag aJ;refine Fe 11 ht (ag).2 aJ underlying130 AK ?_;refine Dl 12 ht [iV aa.1,iV aa.2.1,sV aK aa.2.2 aL] 0 ae bN B8 AK ?_;obtain⟨bO,bP,bQ⟩:=bs bL;refine GK (i:=13) ⟨⟨0,_,rfl⟩,trivial⟩ (vs:= [.agg #[iV Z.1,iV Z.2.1,sV aH Z.2.2 aI],.agg #[iV aa.1,iV aa.2.1,sV aK aa.2.2 aL]]) (Ga bJ bM bP) (by decide+kernel) rfl rfl rfl rfl F0 rfl ae ?_;rintro _ bR _ bS ⟨rfl,rfl⟩ bT;refine CG 14 ht rfl rfl ?_;refine Bd (v:= .bool (decide (¬(bO<0)))) 15 ht rfl rfl (fun ρ h s' hs=>HJ (h _ _ rfl)) ?_;refine CG 16 ht rfl rfl ?_;obtain rfl:=oi bQ;refine Dp ?_ (aF _ _ ⟨bR,rfl,rfl,bS,bT⟩);exact⟨rfl,rfl,rfl,rfl,rfl,rfl,rfl,rfl,rfl,rfl,trivial⟩
       ·have bU:=im aD am;refine Bt ht rfl [3,4,5,6,7,8,9,10,11,12,13,14,15,16] rfl ?_;obtain rfl:=oi bU;refine Dp ?_ (aF _ _ ⟨ac,rfl,rfl,Ak,ae⟩);exact⟨rfl,rfl,rfl,rfl,rfl,rfl,rfl,rfl,rfl,rfl,trivial⟩
     ·intro aM;refine A7 be (fun bV bW=>?_) (fun bV bY=>?_)
      ·obtain⟨bZ,b0,b1⟩:=bs bW;refine zg 6 rfl (CZ 0 (Pk aB b0) rfl rfl (Bc func183 rfl) aA rfl ?_);rintro _ b2 _ aN ⟨f133,rfl,rfl,aO⟩ aP;refine JL.done (BO b1 (fun b3 b4=>?_) (fun b3 b5=>?_))
       ·obtain rfl:=oi b4;have b6:=elim_inl aC;obtain rfl:=oi b6;obtain rfl:=av _ ai;have b7:=elim_inl aq;obtain rfl:=oi b7;exact AS func162 rfl rfl (ap (((V.Aa ak).Aa bc).Aa aN) rfl ⟨f133,rfl,(by first | rfl | simp | (simp [Value.cells])),aO⟩ aP)
       ·exact JL.skip (AU (aM _ _ ⟨bZ.2,b2,f133,(Option.some.inj b5).symm,rfl,rfl,aN,aP,aO⟩) rfl)
      ·exact JL.skip (AU (aM _ _ ⟨Y.2.2,ab,f56,(Option.some.inj bY).symm,rfl,rfl,Ak,aA,aB⟩) rfl)
    ·intro aQ;refine A7 ba (fun b8 b9=>?_) (fun b8 ca=>?_)
     ·obtain⟨cM,cb,cc⟩:=bs b9;refine zg 6 rfl (CZ 0 (Pm (hW.Ad (V.Aa ak)) cb) rfl rfl (Bc func182 rfl) az rfl ?_);rintro _ cd _ ce ⟨f156,rfl,rfl,cf⟩ cg;obtain⟨cN,ci,ck⟩:=bs cc;refine zg 4 rfl (Cq ci rfl rfl rfl ?_);obtain⟨cO,cm,cn⟩:=bs ck;refine zg 2 rfl (Cq cm rfl rfl rfl ?_);obtain⟨cP,co,cp⟩:=bs cn;refine Cq co rfl rfl rfl (zg 5 rfl ?_);obtain rfl:=oi cp;exact AU (aQ _ _ ⟨cd,f156,rfl,rfl,ce,cg,cf⟩) rfl
     ·refine JL.skip ?_;obtain rfl:=oi ca;exact AU (aQ _ _ ⟨ay,ah,rfl,rfl,Ak,az,(hW.Ad (V.Aa ak))⟩) rfl
def Gr(fuel:Nat)(p3:Int)(K:Int×Int×Bool×Bool×(List Bi)):Option (Bz (Int×Int×Bool×Bool×(List Bi)) (((List Bi))⊕(Unit))):= Option.bind ((AA (K.2.1 - K.1)).bind fun ab=> if ab≤12 then((f178 fuel K.2.2.2.2 K.1 K.2.1).bind fun ah=> some (Sum.inl ah)) else(if p3=0 then(none) else(Option.bind (if(!K.2.2.1)=true then(none) else(some ())) fun aD=> (f181 fuel K.2.2.2.2 K.1 K.2.1).bind fun V=> Option.bind (if V.2=2 then((f182 fuel K.2.2.2.2 K.1 K.2.1).bind fun ai=> (AA (K.2.1 - 1)).bind fun aj=> (AA (V.1 - K.1)).bind fun ak=> (AA (aj - ak)).bind fun al=> some (al,1,ai)) else(some (V.1,V.2,K.2.2.2.2))) fun U=> Option.bind (if K.2.2.1=true then(some K.2.2.2.1) else(some false)) fun am=> Option.bind (if am=true then(some (decide (U.2.1=1))) else(some false)) fun an=> Option.bind (if an=true then((f183 fuel U.2.2 K.1 K.2.1).bind fun Z=> if Z.1=true then(some (Sum.inl Z.2)) else(some (Sum.inr Z.2))) else(some (Sum.inr U.2.2))) fun ao=>Sum.elim (fun r=>some (Sum.inl r)) (fun aa=> Option.bind (if 0<K.1 then((AA (K.1 - 1)).bind fun ap=> (ix aa ap).bind fun aq=> (ix aa U.1).bind fun ar=> (f134 fuel aq ar).bind fun au=> some (decide (¬(au<0)))) else(some false)) fun av=> if av=true then(none) else((f185 fuel aa K.1 K.2.1 U.1).bind fun O=> (AA (O.1 - K.1)).bind fun ac=> (AA (K.2.1 - O.1)).bind fun ae=> (GB ab (8)).bind fun ag=> Option.bind (if ac<ae then((Hq fuel O.2.2 K.1 O.1 p3).bind fun aw=> (AA (O.1+1)).bind fun ay=> some (ay,K.2.1,decide (ag≤ac),aw)) else((AA (O.1+1)).bind fun az=> (Hq fuel O.2.2 az K.2.1 p3).bind fun aA=> some (K.1,O.1,decide (ag≤ae),aA))) fun Y=> some (Sum.inr (Y.1,Y.2.1,Y.2.2.1,O.2.1,Y.2.2.2)))) ao))) fun aB=>Sum.elim (fun r=>some (.done (Sum.inl r))) (fun aC=> some (.more aC)) aB
def f162(fuel:Nat)(p0:List Bi)(p1:Int)(p2:Int)(p3:Int):Option ((List Bi)):= Option.bind (iter (Gr fuel p3) fuel (p1,p2,true,true,p0)) fun K=> Sum.elim (fun r=>some r) (fun O=> none) K
theorem Ut{O:Nat}{U:Nat}{V:Nat}{av:Aw}{p0:List (Bi)}{p1:Int}{p2:Int}{p3:Int}(hW:WL 133 Ce E O U V av p0){fuel:Nat}{r:(List Bi)}(aD:f162 fuel p0 p1 p2 p3=some r):AT J 162 [.slice (Aj O) V U,iV p1,iV p2,iV p3,(fV 134)] E [(O,.cells av 133 (0,0))] (fun w E' B'=>∃(aE:Aw),w= .tuple #[]∧B'= [(O,.cells aE 133 (0,0))]∧WL 133 Ce E' O U V aE r):=by
 refine Bm func162 fun Q dH cs H bd aF=>?_;unfold f162 at aD;obtain⟨dI,be,aG⟩:=bs aD;refine zg 8 rfl (Cc (fun L s=>False) ?_ ?_)
 ·intro _ _ bf;exact bf.elim
 ·intro dJ;refine JL.block (DT be (fun L s K=>∃(ak:LH) (f22:Aw),Jn E H ak [bX O f22 133] [(0,.slice (Aj O) V U),(1,iV K.1),(2,iV K.2.1),(3,iV p3),(4,(fV 134)),(10,.bool K.2.2.1),(11,.bool K.2.2.2.1)] L s (WL 133 Ce ak O U V f22 K.2.2.2.2)) ⟨E,av,rfl,rfl,Ak,bd,hW⟩ ?_);rintro _ _ K ⟨ak,f22,rfl,rfl,aw,aH,al⟩ aI ⟨dK,am⟩ bg;have aJ:=am;unfold Gr at aJ;obtain⟨bh,bi,ay⟩:=bs aJ;refine Cc (fun L s=>∃(Z:Int×Int×Bool×Bool×(List Bi)) (an:LH) (f36:Aw),bh=Sum.inr Z∧Jn ak H an [bX O f36 133] [(0,.slice (Aj O) V U),(1,iV Z.1),(2,iV Z.2.1),(3,iV p3),(4,(fV 134)),(10,.bool Z.2.2.1),(11,.bool Z.2.2.2.1)] L s (WL 133 Ce an O U V f36 Z.2.2.2.2)) ?_ ?_
  ·rintro _ _ ⟨Z,an,f36,rfl,rfl,rfl,bj,bl,bm⟩;have bn:=elim_inr ay;obtain rfl:=oi bn;exact AU (bg _ _ Z ⟨an,f36,rfl,rfl,(aw.Aa bj),bl,bm⟩ am) rfl
  ·intro bo;obtain⟨ab,bp,bq⟩:=bs bi;refine zg 5 rfl (Cq bp rfl rfl rfl ?_);refine zg 8 rfl (A7 bq (fun br bu=>?_) (fun br bv=>?_))
   ·obtain⟨dL,bw,bx⟩:=bs bu;refine zg 6 rfl (CZ 0 (O9 al bw) rfl rfl Ly aH rfl ?_);rintro _ dM _ bz ⟨f52,rfl,rfl,bA⟩ bB;refine JL.done ?_;obtain rfl:=oi bx;have bC:=elim_inl ay;obtain rfl:=oi bC;obtain rfl:=aI _ am;have bD:=elim_inl aG;obtain rfl:=oi bD;exact AS func162 rfl rfl (aF (aw.Aa bz) rfl ⟨f52,rfl,(by first | rfl | simp | (simp [Value.cells])),bA⟩ bB)
   ·refine zg 7 rfl (A7 bv (fun bE bF=>?_) (fun bE bG=>?_))
    ·refine zg 6 rfl ?_;cases bF
    ·refine zg 5 rfl (Av (v:= .bool (!K.2.2.1)) rfl (fun ρ h=>Yl.not (h _ _ rfl)) ?_);obtain⟨dN,bH,bI⟩:=bs bG;refine JL.done (Cw [bX O f22 133] [(0,.slice (Aj O) V U),(1,iV K.1),(2,iV K.2.1),(3,iV p3),(4,(fV 134)),(10,.bool K.2.2.1),(11,.bool K.2.2.2.1),(12,iV ab)] (fun dO ag bJ=>?_) (fun bK=>?_))
     ·obtain⟨dP,bL,bM⟩:=bs bI;refine zg 6 rfl (CZ 0 (PG (al.Ad ag) bL) rfl rfl (Bc func181 rfl) bJ rfl ?_);rintro _ aK _ ao ⟨rfl,rfl⟩ aL;obtain⟨Y,bN,bO⟩:=bs bM;refine zg 12 rfl (Cc (fun L s=>∃(az:LH) (f84:Aw),Jn aK H az [bX O f84 133] [(0,.slice (Aj O) V U),(1,iV K.1),(2,iV K.2.1),(3,iV p3),(4,(fV 134)),(10,.bool K.2.2.1),(11,.bool K.2.2.2.1),(12,iV ab),(13,iV Y.1),(14,iV Y.2.1)] L s (WL 133 Ce az O U V f84 Y.2.2)) ?_ ?_)
      ·rintro _ _ ⟨az,f84,rfl,rfl,aM,aN,aO⟩;obtain⟨bP,bQ,bR⟩:=bs bO;refine zg 5 rfl (Bj 4 4 [bX O f84 133] [(0,.slice (Aj O) V U),(1,iV K.1),(2,iV K.2.1),(3,iV p3),(4,(fV 134)),(10,.bool K.2.2.1),(11,.bool K.2.2.2.1),(12,iV ab),(13,iV Y.1),(14,iV Y.2.1),(71,.bool bP)] (fun aA ap aP=>?_) (fun aQ=>?_))
       ·obtain⟨bS,bT,bU⟩:=bs bR;refine zg 1 rfl (EK [] (fun L s=>∃(aq:LH),Jm aA H aq [bX O f84 133] [(0,.slice (Aj O) V U),(1,iV K.1),(2,iV K.2.1),(3,iV p3),(4,(fV 134)),(10,.bool K.2.2.1),(11,.bool K.2.2.2.1),(12,iV ab),(13,iV Y.1),(75,.bool bS)] L s) ?_ ?_)
        ·rintro _ _ ⟨aq,rfl,rfl,ar,aR⟩;obtain⟨bV,bW,aS⟩:=bs bU;refine JL.done (Cc (fun L s=>∃(aB:(List Bi)) (ah:LH) (f105:Aw),bV=Sum.inr aB∧Jn aq H ah [bX O f105 133] [(0,.slice (Aj O) V U),(1,iV K.1),(2,iV K.2.1),(3,iV p3),(4,(fV 134)),(10,.bool K.2.2.1),(11,.bool K.2.2.2.1),(12,iV ab),(13,iV Y.1)] L s (WL 133 Ce ah O U V f105 aB)) ?_ ?_)
         ·rintro _ _ ⟨aB,ah,f105,rfl,rfl,rfl,bY,ai,aj⟩;have bZ:=elim_inr aS;refine zg 2 rfl (Dr 17 [O] ⟨⟨0,_,rfl⟩,trivial⟩ ai fun ht=>?_);refine Bt ht rfl [0,1,2] rfl ?_;obtain⟨b0,aT,b1⟩:=bs bZ;refine Fq 0 #[true,true,true,true,true,true,true,true,true,true,true,true,true,true,true,true,true] (fun L s=>∃(aU:LH),Jm ah H aU [bX O f105 133] [(0,.slice (Aj O) V U),(1,iV K.1),(2,iV K.2.1),(3,iV p3),(4,(fV 134)),(10,.bool K.2.2.1),(11,.bool K.2.2.2.1),(12,iV ab),(13,iV Y.1),(97,.bool b0)] L s) ?_ ?_
          ·rintro _ _ ⟨aU,rfl,rfl,aV,b2⟩;refine AQ.fin (by decide+kernel) (BO b1 (fun b3 b4=>?_) (fun b3 b5=>?_))
           ·refine zg 7 rfl ?_;cases b4
           ·obtain⟨aW,b6,b7⟩:=bs b5;refine zg 8 rfl (CZ 0 (Pv (aj.Ad aV) b6) rfl rfl (Bc func185 rfl) b2 rfl ?_);rintro _ b8 _ b9 ⟨f123,rfl,rfl,aX⟩ aY;obtain⟨dQ,ca,cb⟩:=bs b7;refine zg 15 rfl (Cq ca rfl rfl rfl ?_);obtain⟨dR,cc,cd⟩:=bs cb;refine zg 2 rfl (Cq cc rfl rfl rfl ?_);obtain⟨ce,cf,cg⟩:=bs cd;refine zg 6 rfl (Av (v:=iV ce) rfl (fun ρ h=>Jh (h _ _ rfl) (h _ _ rfl) cf) ?_);obtain⟨aa,ci,ck⟩:=bs cg;refine zg 8 rfl (Cc (fun L s=>∃(au:LH) (f138:Aw),Jn b8 H au [bX O f138 133] [(0,.slice (Aj O) V U),(1,iV aa.1),(2,iV aa.2.1),(3,iV p3),(4,(fV 134)),(10,.bool aa.2.2.1),(11,.bool aW.2.1)] L s (WL 133 Ce au O U V f138 aa.2.2.2)) ?_ ?_)
            ·rintro _ _ ⟨au,f138,rfl,rfl,cm,cn,co⟩;exact M8 (AU (bo _ _ ⟨(aa.1,aa.2.1,aa.2.2.1,aW.2.1,aa.2.2.2),au,f138,(Option.some.inj ck).symm,rfl,rfl,((((((((ag.Aa ao).Aa aM).Aa ap).Aa ar).Aa bY).Aa aV).Aa b9).Aa cm),cn,co⟩) rfl)
            ·intro aZ;refine A7 ci (fun cp cq=>?_) (fun cp cr=>?_)
             ·obtain⟨dS,ct,cu⟩:=bs cq;refine zg 14 rfl (CZ 0 (OH aX ct) rfl rfl JV aY rfl ?_);rintro _ cv _ cw ⟨f150,rfl,rfl,cy⟩ cz;obtain⟨dT,cA,cB⟩:=bs cu;refine zg 3 rfl (Bv cA rfl rfl rfl ?_);refine zg 2 rfl ?_;obtain rfl:=oi cB;exact AU (aZ _ _ ⟨cv,f150,rfl,rfl,cw,cz,cy⟩) rfl
             ·obtain⟨dU,cC,cD⟩:=bs cr;refine zg 11 rfl (Bv cC rfl rfl rfl ?_);obtain⟨dV,cE,cF⟩:=bs cD;refine zg 3 rfl (CZ 0 (OH aX cE) rfl rfl JV aY rfl ?_);rintro _ cG _ cH ⟨f165,rfl,rfl,cI⟩ cJ;refine zg 5 rfl ?_;obtain rfl:=oi cF;exact AU (aZ _ _ ⟨cG,f165,rfl,rfl,cH,cJ,cI⟩) rfl
          ·intro a0;refine FH (q:=0<K.1) (i:=83) rfl (fun aC=>?_) (fun aC=>?_)
           ·have cK:=ip aT aC;refine Bt ht rfl [3,4,5] rfl ?_;obtain⟨dW,cM,cN⟩:=bs cK;refine Bd 6 ht rfl rfl (fun ρ h s' hs=>Db (h _ _ rfl) (h _ _ rfl) cM) ?_;obtain⟨ac,a1,cO⟩:=bs cN;obtain⟨_,⟨_,_,rfl,rfl,⟨_,_,rfl,rfl,⟨a2,a3,rfl,cP⟩⟩⟩,cQ⟩:=WL.at aj a1;refine Fe 7 ht (aj).2 a1 underlying130 AK ?_;refine Dl 8 ht [iV ac.1,iV ac.2.1,sV a2 ac.2.2 a3] 0 ai cQ B8 AK ?_;refine Bt ht rfl [9,10] rfl ?_;obtain⟨ae,a4,cR⟩:=bs cO;obtain⟨_,⟨_,_,rfl,rfl,⟨_,_,rfl,rfl,⟨a5,a6,rfl,cT⟩⟩⟩,cV⟩:=WL.at aj a4;refine Fe 11 ht (aj).2 a4 underlying130 AK ?_;refine Dl 12 ht [iV ae.1,iV ae.2.1,sV a5 ae.2.2 a6] 0 ai cV B8 AK ?_;obtain⟨cW,cX,cY⟩:=bs cR;refine GK (i:=13) ⟨⟨0,_,rfl⟩,trivial⟩ (vs:= [.agg #[iV ac.1,iV ac.2.1,sV a2 ac.2.2 a3],.agg #[iV ae.1,iV ae.2.1,sV a5 ae.2.2 a6]]) (Ga cP cT cX) (by decide+kernel) rfl rfl rfl rfl F0 rfl ai ?_;rintro _ cZ _ c0 ⟨rfl,rfl⟩ c1;refine CG 14 ht rfl rfl ?_;refine Bd (v:= .bool (decide (¬(cW<0)))) 15 ht rfl rfl (fun ρ h s' hs=>HJ (h _ _ rfl)) ?_;refine CG 16 ht rfl rfl ?_;obtain rfl:=oi cY;refine Dp ?_ (a0 _ _ ⟨cZ,rfl,rfl,c0,c1⟩);exact⟨rfl,rfl,rfl,rfl,rfl,rfl,rfl,rfl,rfl,rfl,trivial⟩
           ·have c2:=im aT aC;refine Bt ht rfl [3,4,5,6,7,8,9,10,11,12,13,14,15,16] rfl ?_;obtain rfl:=oi c2;refine Dp ?_ (a0 _ _ ⟨ah,rfl,rfl,Ak,ai⟩);exact⟨rfl,rfl,rfl,rfl,rfl,rfl,rfl,rfl,rfl,rfl,trivial⟩
         ·intro a7;refine BO bW (fun c3 c4=>?_) (fun c3 c5=>?_)
          ·obtain⟨c6,c7,c8⟩:=bs c4;refine zg 6 rfl (CZ 0 (Pk (aO.Ad (ap.Aa ar)) c7) rfl rfl (Bc func183 rfl) aR rfl ?_);rintro _ c9 _ a8 ⟨f205,rfl,rfl,a9⟩ ba;refine JL.done (BO c8 (fun da db=>?_) (fun da dc=>?_))
           ·obtain rfl:=oi db;have dd:=elim_inl aS;obtain rfl:=oi dd;have de:=elim_inl ay;obtain rfl:=oi de;obtain rfl:=aI _ am;have df:=elim_inl aG;obtain rfl:=oi df;exact AS func162 rfl rfl (aF ((((((aw.Aa ag).Aa ao).Aa aM).Aa ap).Aa ar).Aa a8) rfl ⟨f205,rfl,(by first | rfl | simp | (simp [Value.cells])),a9⟩ ba)
           ·exact JL.skip (AU (a7 _ _ ⟨c6.2,c9,f205,(Option.some.inj dc).symm,rfl,rfl,a8,ba,a9⟩) rfl)
          ·exact JL.skip (AU (a7 _ _ ⟨Y.2.2,aq,f84,(Option.some.inj c5).symm,rfl,rfl,Ak,aR,(aO.Ad (ap.Aa ar))⟩) rfl)
        ·intro bb;refine Bn 72 bT (fun dg dh=>?_) (fun dg di=>?_)
         ·refine zg 3 rfl ?_;obtain rfl:=oi dh;exact AU (bb _ _ ⟨aA,rfl,rfl,Ak,aP⟩) rfl
         ·refine zg 3 rfl ?_;obtain rfl:=oi di;exact AU (bb _ _ ⟨aA,rfl,rfl,Ak,aP⟩) rfl
       ·refine Bn 69 bQ (fun dj dk=>?_) (fun dj dl=>?_)
        ·refine zg 2 rfl ?_;obtain rfl:=oi dk;exact aQ Ak aN rfl
        ·refine zg 2 rfl ?_;obtain rfl:=oi dl;exact aQ Ak aN rfl
      ·intro bc;refine A7 bN (fun dm dn=>?_) (fun dm dp=>?_)
       ·obtain⟨dX,dq,dr⟩:=bs dn;refine zg 6 rfl (CZ 0 (Pm (al.Ad (ag.Aa ao)) dq) rfl rfl (Bc func182 rfl) aL rfl ?_);rintro _ dt _ du ⟨dv,rfl,rfl,dw⟩ dx;obtain⟨dY,dy,dz⟩:=bs dr;refine zg 4 rfl (Cq dy rfl rfl rfl ?_);obtain⟨dZ,dA,dB⟩:=bs dz;refine zg 2 rfl (Cq dA rfl rfl rfl ?_);obtain⟨ea,dC,dD⟩:=bs dB;refine Cq dC rfl rfl rfl (zg 5 rfl ?_);obtain rfl:=oi dD;exact AU (bc _ _ ⟨dt,dv,rfl,rfl,du,dx,dw⟩) rfl
       ·refine JL.skip ?_;obtain rfl:=oi dp;exact AU (bc _ _ ⟨aK,f22,rfl,rfl,Ak,aL,(al.Ad (ag.Aa ao))⟩) rfl
     ·refine BO bH (fun dE dF=>?_) (fun dE dG=>?_)
      ·refine zg 6 rfl ?_;cases dF
      ·refine JL.skip ?_;obtain rfl:=oi dG;exact bK Ak aH rfl
def f133(fuel:Nat)(p0:List Bi):Option ((List Bi)):= (f163 fuel (FW (p0.length:Int))).bind fun K=> (f162 fuel p0 0 (p0.length:Int) K).bind fun O=> some O
theorem UD{K:Nat}{O:Nat}{U:Nat}{V:Aw}{p0:List (Bi)}(hW:WL 133 Ce E K O U V p0){fuel:Nat}{r:(List Bi)}(Y:f133 fuel p0=some r):AT J 133 [.slice (Aj K) U O,(fV 134)] E [(K,.cells V 133 (0,0))] (fun w E' B'=>∃(Z:Aw),w= .tuple #[]∧B'= [(K,.cells Z 133 (0,0))]∧WL 133 Ce E' K O U Z r):=by
 refine Bm func133 fun Q an cs H ab ac=>?_;unfold f133 at Y;refine zg 3 rfl (Av (v:=iV (p0.length:Int)) rfl (fun ρ h=>OB (hW).2 rfl underlying130 (h _ _ rfl)) ?_);refine zg 6 rfl (Av (v:= .int .u64 ((FW (p0.length:Int):Nat):Int)) rfl (fun ρ h=>Yl.FW underlying3 underlying156 (h _ _ rfl)) ?_);obtain⟨ao,ae,ag⟩:=bs Y;refine Ba (PE ae) rfl rfl (Bc func163 rfl) ab fun ap aa ah=>?_;obtain⟨aq,ai,aj⟩:=bs ag;refine zg 1 rfl (CZ 0 (Ut (hW.Ad aa) ai) rfl rfl JV ah rfl ?_);rintro _ ar _ ak ⟨f12,rfl,rfl,al⟩ am;refine JL.done ?_;obtain rfl:=oi aj;exact JL.fin (v:= .tuple #[]) rfl rfl (BP.list func133 rfl (vs:= []) trivial) (ac (aa.Aa ak) rfl ⟨f12,rfl,(by first | rfl | simp | (simp [Value.cells])),al⟩ am)
end Pal
namespace Pal
def Bq{α:Type}(o:Option α)(Q:α→Prop):Prop:=∃a,o=some a∧Q a
section
variable {α β:Type}{Q R:α→Prop}
theorem BH{a:α}(h:Q a):Bq (some a) Q:=⟨a,rfl,h⟩
theorem Bq.Ad{o:Option α}(h:Bq o R)(k:∀a,R a→Q a):Bq o Q:=let ⟨a,K,O⟩:=h;⟨a,K,k a O⟩
theorem Bq.of_eq{o:Option α}{a:α}(h:o=some a)(k:Q a):Bq o Q:=⟨a,h,k⟩
theorem CP{o:Option β}{f:β→Option α}{S:β→Prop}(h:Bq o S)(k:∀b,S b→Bq (f b) Q):Bq (o.bind f) Q:=by
 obtain⟨b,rfl,hb⟩:=h;obtain⟨a,K,O⟩:=k b hb;exact⟨a,K,O⟩
theorem C7{o:Option β}{f:β→Option α}{b:β}(h:o=some b)(k:Bq (f b) Q):Bq (o.bind f) Q:=by subst h;exact k
theorem Bq.U2{f:Int→Option α}{x:Int}(K: -9223372036854775808≤x)(O:x≤9223372036854775807)(k:Bq (f x) Q):Bq ((AA x).bind f) Q:=C7 (if_pos ⟨K,O⟩) k
theorem PQ{xs:List β}{i:Int}{m:Nat}{b:β}(h:i=(m:Int))(hb:xs[m]? =some b):ix xs i=some b:=by subst h;simpa [ix] using hb
theorem Dk{f:β→Option α}{xs:List β}{i:Int}{m:Nat}(h:i=(m:Int))(hm:m<xs.length)(k:Bq (f xs[m]) Q):Bq ((ix xs i).bind f) Q:=C7 (PQ h (List.getElem?_eq_getElem hm)) k
theorem Fs{c:Prop} [Decidable c] {x y:Option α}(K:c→Bq x Q)(O:¬c→Bq y Q):Bq (if c then x else y) Q:=by
 by_cases h:c
 ·rw [if_pos h];exact K h
 ·rw [if_neg h];exact O h
theorem FL{c:Prop} [Decidable c] {x y:Option α}(h:c)(k:Bq x Q):Bq (if c then x else y) Q:=by rw [if_pos h];exact k
theorem EM{c:Prop} [Decidable c] {x y:Option α}(h:¬c)(k:Bq y Q):Bq (if c then x else y) Q:=by rw [if_neg h];exact k
end
end Pal
namespace Pal
open Go.Sort
abbrev PT:=Int×Int×(List (Int×(List Int)×Nat))
def AG(x y:PT):Bool:=decide (x.1<y.1)
theorem Kq:SWO AG:=⟨fun x=>by simp [AG],fun x y z K O=>by simp [AG] at*;omega,fun x y z K O=>by simp [AG] at*;omega⟩
def KO(xs:List PT):Prop:=∀x∈xs,0≤x.1∧x.1≤1000
theorem Je{fuel:Nat}{x y:PT}(K:0≤x.1∧x.1≤1000)(O:0≤y.1∧y.1≤1000):f134 fuel x y=some (x.1 - y.1):=by
 unfold f134;rw [show AA (x.1 - y.1)=some (x.1 - y.1) from if_pos (by omega)];rfl
theorem Ii(x y:PT):decide (x.1 - y.1<0)=AG x y:=by unfold AG;congr 1;apply propext;omega
theorem KO.get{xs:List PT}(h:KO xs){i:Nat}(hi:i<xs.length):0≤xs[i].1∧xs[i].1≤1000:=h _ (List.getElem_mem hi)
theorem KO.set{xs:List PT}(h:KO xs){i:Nat}{x:PT}(K:0≤x.1∧x.1≤1000):KO (xs.set i x):=fun y O=>by
 rcases List.mem_or_eq_of_mem_set O with q | q
 ·exact h y q
 ·subst q;exact K
theorem HE{xs:List PT}{i j:Nat}(hi:i<xs.length)(K:j<xs.length):((xs.set i xs[j]).set j xs[i]).toArray=swp xs.toArray i j:=by
 unfold swp;rw [show xs.toArray[j]! =xs[j] by simp [getElem!_pos,K],show xs.toArray[i]! =xs[i] by simp [getElem!_pos,hi]];simp
theorem FK{xs:List PT}{i:Nat}(hi:i<xs.length):xs.toArray[i]! =xs[i]:=by simp [getElem!_pos,hi]
section
variable {α:Type}{Q:α→Prop}
theorem Co{f:Int→Option α}{x:Int}(y:Int)(h:x=y)(K: -9223372036854775808≤y)(O:y≤9223372036854775807)(k:Bq (f y) Q):Bq ((AA x).bind f) Q:=by subst h;exact Bq.U2 K O k
end
theorem TG{F:Nat}(a:Nat):∀(j fuel:Nat) (xs:List PT),j<fuel→j<xs.length→xs.length<1000→KO xs→
  Bq (iter (Ij F (a:Int)) fuel ((j:Int),xs)) (fun ys=>ys.toArray=insInner AG a j xs.toArray∧KO ys∧ys.length=xs.length):=by
 intro j
 induction j with
 | zero=>
  intro fuel xs ab U Z K;obtain⟨fuel,rfl⟩:∃k,fuel=k+1:=⟨fuel - 1,by omega⟩;refine⟨xs,?_,rfl,K,rfl⟩;have ac:¬((a:Int)<0):=by omega
  simp [iter,Ij,ac]
 | succ j ae=>
  intro fuel xs ab U Z K;obtain⟨fuel,rfl⟩:∃k,fuel=k+1:=⟨fuel - 1,by omega⟩;have O:j<xs.length:=by omega
  have ag:Bq (Ij F (a:Int) (((j+1:Nat):Int),xs)) (fun st=>st=if(decide (j+1>a)&&AG xs[j+1] xs[j])=true then .more ((j:Int),(xs.set (j+1) xs[j]).set j xs[j+1]) else .done xs):=by
   unfold Ij;refine CP (S:=fun c=>c=(decide (j+1>a)&&AG xs[j+1] xs[j])) ?_ ?_
   ·refine Fs (fun h=>?_) (fun h=>?_)
    ·have Y:a<j+1:=by simp at h;omega
     refine Dk (m:=j+1) rfl U (Co (j:Int) (by simp) (by omega) (by omega) ?_);refine Dk (m:=j) rfl O (C7 (Je (K.get U) (K.get O)) ?_);refine BH ?_;rw [Ii];simp [Y]
    ·have Y:¬a<j+1:=by simp at h;omega
     refine BH ?_;simp [Y]
   ·rintro c rfl;refine Fs (fun h=>?_) (fun h=>?_)
    ·refine Co (j:Int) (by simp) (by omega) (by omega) (Co (j:Int) (by simp) (by omega) (by omega) ?_);refine Dk (m:=j) rfl O (Dk (m:=j+1) rfl U ?_);refine C7 (b:=(xs.set (j+1) xs[j])[j]'(by simpa using O)) (PQ rfl (List.getElem?_eq_getElem _)) ?_;refine Co (j:Int) (by simp) (by omega) (by omega) (BH ?_);rw [if_pos h];simp
    ·refine BH ?_;rw [if_neg h]
  obtain⟨st,ah,rfl⟩:=ag;unfold iter;rw [ah];have V:insInner AG a (j+1) xs.toArray=if(decide (j+1>a)&&AG xs[j+1] xs[j])=true then insInner AG a j (swp xs.toArray (j+1) j) else xs.toArray:=by
   rw [insInner,FK U,FK O]
  by_cases aa:(decide (j+1>a)&&AG xs[j+1] xs[j])=true
  ·rw [if_pos aa] at V ⊢;have ai:KO ((xs.set (j+1) xs[j]).set j xs[j+1]):=(K.set (K.get O)).set (K.get U);refine(ae fuel ((xs.set (j+1) xs[j]).set j xs[j+1]) (by omega) (by simpa using O) (by simpa using Z) ai).Ad ?_;rintro ys ⟨aj,ak,al⟩;refine⟨?_,ak,by simpa using al⟩;rw [aj,HE U O,V]
  ·rw [if_neg aa] at V ⊢;exact⟨xs,rfl,V.symm,K,rfl⟩
theorem R5{F:Nat}(a b:Nat)(ag:2000<F):∀(m i fuel:Nat) (xs:List PT),b - i=m→m<fuel→b≤xs.length→xs.length<1000→KO xs→
  Bq (iter (HM F (a:Int) (b:Int)) fuel ((i:Int),xs)) (fun ys=>ys.toArray=insOuter AG a b i xs.toArray∧KO ys∧ys.length=xs.length):=by
 intro m
 induction m with
 | zero=>
  intro i fuel xs hm Y hb V O;obtain⟨fuel,rfl⟩:∃k,fuel=k+1:=⟨fuel - 1,by omega⟩;have U:¬i<b:=by omega
  have K:Bq (HM F (a:Int) (b:Int) ((i:Int),xs)) (fun st=>st= .done xs):=by
   unfold HM;exact EM (show ¬(i:Int)<(b:Int) by omega) (BH rfl)
  obtain⟨st,K,rfl⟩:=K;unfold iter;rw [K];refine⟨xs,rfl,?_,O,rfl⟩;rw [insOuter,if_neg U]
 | succ m Z=>
  intro i fuel xs hm Y hb V O;obtain⟨fuel,rfl⟩:∃k,fuel=k+1:=⟨fuel - 1,by omega⟩;have U:i<b:=by omega
  obtain⟨ys,aa,ab,ac,ah⟩:=TG (F:=F) a i F xs (by omega) (by omega) V O;have K:Bq (HM F (a:Int) (b:Int) ((i:Int),xs)) (fun st=>st= .more (((i+1:Nat):Int),ys)):=by
   unfold HM;refine FL (show(i:Int)<(b:Int) by omega) (C7 aa ?_);exact Co ((i+1:Nat):Int) (by simp) (by omega) (by omega) (BH rfl)
  obtain⟨st,K,rfl⟩:=K;unfold iter;rw [K];refine(Z (i+1) fuel ys (by omega) (by omega) (by omega) (by omega) ac).Ad ?_;rintro ai ⟨k1,ae,aj⟩;refine⟨?_,ae,by omega⟩;rw [k1,ab,insOuter.eq_def AG a b i,if_pos U]
theorem OI{F a b:Nat}{xs:List PT}(K:2000<F)(hb:b≤xs.length)(O:xs.length<1000)(U:KO xs)(aa:a≤b):
  Bq (f178 F xs (a:Int) (b:Int)) (fun ys=>ys.toArray=insertionSort AG xs.toArray a b∧KO ys∧ys.length=xs.length):=by
 unfold f178;refine Co ((a+1:Nat):Int) (by simp) (by omega) (by omega) (CP (R5 (F:=F) a b K (b - (a+1)) (a+1) F xs rfl (by omega) hb O U) ?_);rintro ys ⟨V,Y,Z⟩;exact⟨ys,rfl,V,Y,Z⟩
end Pal
namespace Pal
open Go.Sort
theorem Mb{F a b sw:Nat}{xs:List PT}(O:a<xs.length)(hb:b<xs.length)(hs:sw<1000)(V:xs.length<1000)(U:KO xs):
  f200 F xs (a:Int) (b:Int) (sw:Int)=some ((((order2 AG xs.toArray a b sw).1:Nat):Int),(((order2 AG xs.toArray a b sw).2.1:Nat):Int),(((order2 AG xs.toArray a b sw).2.2:Nat):Int)):=by
 have h:Bq (f200 F xs (a:Int) (b:Int) (sw:Int)) (fun r=>r=((((order2 AG xs.toArray a b sw).1:Nat):Int),(((order2 AG xs.toArray a b sw).2.1:Nat):Int),(((order2 AG xs.toArray a b sw).2.2:Nat):Int))):=by
  unfold f200;refine Dk (m:=b) rfl hb (Dk (m:=a) rfl O ?_);refine C7 (Je (U.get hb) (U.get O)) ?_;have e:order2 AG xs.toArray a b sw=if AG xs[b] xs[a] then(b,a,sw+1) else(a,b,sw):=by unfold order2;rw [FK O,FK hb]
  refine Fs (fun h=>?_) (fun h=>?_)
  ·have K:AG xs[b] xs[a]=true:=by rw [← Ii];exact decide_eq_true h
   refine Co ((sw+1:Nat):Int) (by simp) (by omega) (by omega) (BH ?_);rw [e,if_pos K]
  ·have K:¬AG xs[b] xs[a]=true:=by rw [← Ii];simpa using h
   refine BH ?_;rw [e,if_neg K]
 obtain⟨r,K,rfl⟩:=h;exact K
theorem NC{n a b sw:Nat}{d:Array PT}(K:a<n)(hb:b<n):(order2 AG d a b sw).1<n∧(order2 AG d a b sw).2.1<n∧(order2 AG d a b sw).2.2≤sw+1:=by
 unfold order2;split
 ·exact⟨hb,K,Nat.le_refl _⟩
 ·exact⟨K,hb,Nat.le_succ _⟩
theorem S4{F a b c sw:Nat}{xs:List PT}(U:a<xs.length)(hb:b<xs.length)(V:c<xs.length)(hs:sw<900)(K:xs.length<1000)(O:KO xs):
  f197 F xs (a:Int) (b:Int) (c:Int) (sw:Int)=some ((((median AG xs.toArray a b c sw).1:Nat):Int),(((median AG xs.toArray a b c sw).2:Nat):Int)):=by
 unfold f197 median;obtain⟨Z,Y,ab⟩:=NC (sw:=sw) (d:=xs.toArray) U hb;rw [Mb U hb (by omega) K O];simp only [Option.bind_some];obtain⟨aa,ac,ae⟩:=NC (sw:=(order2 AG xs.toArray a b sw).2.2) (d:=xs.toArray) Y V;rw [Mb Y V (by omega) K O];simp only [Option.bind_some];rw [Mb Z aa (by omega) K O];simp only [Option.bind_some]
def Ht:Hint→Int | .unknown=>0 | .increasing=>1 | .decreasing=>2
theorem Bq.quo{α:Type}{Q:α→Prop}{f:Int→Option α}{x:Int}(m k:Nat)(K:x=(m:Int))(hm:m<1000)(O:0<k)(h:Bq (f ((m / k:Nat):Int)) Q):Bq ((GB x (k:Int)).bind f) Q:=by
 subst K;refine C7 ?_ h;unfold GB;rw [if_neg (by omega)];have e:((m:Int).tdiv (k:Int))=((m / k:Nat):Int):=by rw [Int.tdiv_eq_ediv_of_nonneg (by omega)];rfl
 have hle:m / k≤m:=Nat.div_le_self _ _;rw [e];generalize m / k=z at hle ⊢;exact if_pos (by omega)
theorem TJ{F a b:Nat}{xs:List PT}(ag:a+8≤b)(ah:b<a+50)(hb:b≤xs.length)(Z:xs.length<1000)(aa:KO xs):
  f181 F xs (a:Int) (b:Int)=some ((((choosePivot AG xs.toArray a b).1:Nat):Int),Ht (choosePivot AG xs.toArray a b).2):=by
 have h:Bq (f181 F xs (a:Int) (b:Int)) (fun r=>r=((((choosePivot AG xs.toArray a b).1:Nat):Int),Ht (choosePivot AG xs.toArray a b).2)):=by
  unfold f181;have ai:(b - a) / 4≤b - a:=Nat.div_le_self _ _;have aj:(b - a) / 4*3<b - a:=by omega
  refine Co ((b - a:Nat):Int) (by omega) (by omega) (by omega) (Bq.quo (b - a) 4 rfl (by omega) (by omega) ?_);refine Co (((b - a) / 4*1:Nat):Int) (by push_cast;rfl) (by omega) (by omega) (Co ((a+(b - a) / 4*1:Nat):Int) (by push_cast;rfl) (by omega) (by omega) ?_);refine Bq.quo (b - a) 4 rfl (by omega) (by omega) (Co (((b - a) / 4*2:Nat):Int) (by push_cast;rfl) (by omega) (by omega) ?_);refine Co ((a+(b - a) / 4*2:Nat):Int) (by push_cast;rfl) (by omega) (by omega) (Bq.quo (b - a) 4 rfl (by omega) (by omega) ?_);refine Co (((b - a) / 4*3:Nat):Int) (by push_cast;rfl) (by omega) (by omega) (Co ((a+(b - a) / 4*3:Nat):Int) (by push_cast;rfl) (by omega) (by omega) ?_);have ab:choosePivot AG xs.toArray a b=((median AG xs.toArray (a+(b - a) / 4*1) (a+(b - a) / 4*2) (a+(b - a) / 4*3) 0).1,if(median AG xs.toArray (a+(b - a) / 4*1) (a+(b - a) / 4*2) (a+(b - a) / 4*3) 0).2=0 then .increasing else if(median AG xs.toArray (a+(b - a) / 4*1) (a+(b - a) / 4*2) (a+(b - a) / 4*3) 0).2=12 then .decreasing else .unknown):=by
   unfold choosePivot;simp only;rw [if_pos (by omega),if_neg (by omega)]
  rw [ab];generalize ac:median AG xs.toArray (a+(b - a) / 4*1) (a+(b - a) / 4*2) (a+(b - a) / 4*3) 0=K;refine CP (S:=fun r=>r=(((K.1:Nat):Int),((K.2:Nat):Int))) ?_ ?_
  ·refine FL (by omega) (CP (S:=fun _=>True) (EM (by omega) (BH trivial)) fun _ _=>?_);have Y:=S4 (F:=F) (a:=a+(b - a) / 4*1) (b:=a+(b - a) / 4*2) (c:=a+(b - a) / 4*3) (sw:=0) (xs:=xs) (by omega) (by omega) (by omega) (by omega) Z aa;rw [ac] at Y;exact C7 Y (BH rfl)
  ·rintro r rfl;refine Fs (fun h=>?_) (fun h=>?_)
   ·have O:K.2=0:=by simp at h;omega
    rw [if_pos O];exact BH rfl
   ·have O:¬K.2=0:=by simp at h;omega
    rw [if_neg O];refine Fs (fun U=>?_) (fun U=>?_)
    ·have V:K.2=12:=by simp at U;omega
     rw [if_pos V];exact BH rfl
    ·have V:¬K.2=12:=by simp at U;omega
     rw [if_neg V];exact BH rfl
 obtain⟨r,ae,rfl⟩:=h;exact ae
theorem SV{F:Nat}:∀(m i j fuel:Nat) (xs:List PT),j - i≤m→m<fuel→(i<j→j<xs.length)→i≤xs.length→j≤xs.length→xs.length<1000→KO xs→
  Bq (iter (GR F) fuel ((i:Int),(j:Int),xs)) (fun ys=>ys.toArray=reverseLoop i j xs.toArray∧KO ys∧ys.length=xs.length):=by
 intro m
 induction m with
 | zero=>
  intro i j fuel xs hm ab Z hi ac aa K;obtain⟨fuel,rfl⟩:∃k,fuel=k+1:=⟨fuel - 1,by omega⟩;have O:¬i<j:=by omega
  have U:Bq (GR F ((i:Int),(j:Int),xs)) (fun st=>st= .done xs):=by
   unfold GR;exact EM (show ¬(i:Int)<(j:Int) by omega) (BH rfl)
  obtain⟨st,hb,rfl⟩:=U;unfold iter;rw [hb];refine⟨xs,rfl,?_,K,rfl⟩;rw [reverseLoop,if_neg O]
 | succ m ae=>
  intro i j fuel xs hm ab Z hi ac aa K;obtain⟨fuel,rfl⟩:∃k,fuel=k+1:=⟨fuel - 1,by omega⟩;by_cases O:i<j
  ·have V:=Z O;have Y:i<xs.length:=by omega
   have U:Bq (GR F ((i:Int),(j:Int),xs)) (fun st=>st= .more (((i+1:Nat):Int),((j - 1:Nat):Int),(xs.set i xs[j]).set j xs[i])):=by
    unfold GR;refine FL (show(i:Int)<(j:Int) by omega) (Dk (m:=j) rfl V ?_);refine Dk (m:=i) rfl Y (Co ((i+1:Nat):Int) (by simp) (by omega) (by omega) ?_);exact Co ((j - 1:Nat):Int) (by simp;omega) (by omega) (by omega) (BH rfl)
   obtain⟨st,hb,rfl⟩:=U;unfold iter;rw [hb];refine(ae (i+1) (j - 1) fuel ((xs.set i xs[j]).set j xs[i]) (by omega) (by omega) (by simp;omega) (by simp;omega) (by simp;omega) (by simpa using aa) ((K.set (K.get V)).set (K.get Y))).Ad ?_;rintro ys ⟨ag,ah,ai⟩;refine⟨?_,ah,by simpa using ai⟩;rw [ag,HE Y V,reverseLoop.eq_def i j,if_pos O]
  ·have U:Bq (GR F ((i:Int),(j:Int),xs)) (fun st=>st= .done xs):=by
    unfold GR;exact EM (show ¬(i:Int)<(j:Int) by omega) (BH rfl)
   obtain⟨st,hb,rfl⟩:=U;unfold iter;rw [hb];refine⟨xs,rfl,?_,K,rfl⟩;rw [reverseLoop,if_neg O]
theorem TF{F a b:Nat}{xs:List PT}(U:2000<F)(V:a<b)(hb:b≤xs.length)(K:xs.length<1000)(O:KO xs):
  Bq (f182 F xs (a:Int) (b:Int)) (fun ys=>ys.toArray=reverseRange xs.toArray a b∧KO ys∧ys.length=xs.length):=by
 unfold f182 reverseRange;refine Co ((b - 1:Nat):Int) (by omega) (by omega) (by omega) (CP (SV (F:=F) (b - 1 - a) a (b - 1) F xs (by omega) (by omega) (by omega) (by omega) (by omega) K O) ?_);rintro ys h;exact⟨ys,rfl,h⟩
theorem Tl{F b q1:Nat}{xs:List PT}(q2:Int)(hb:b≤xs.length)(ae:xs.length<1000)(Z:KO xs):∀(m i fuel:Nat),b - i≤m→m<fuel→1≤i→
  Bq (iter (HI F (b:Int) (((q1:Nat):Int),q2,xs)) fuel (i:Int)) (fun r=>r=((scanSorted AG xs.toArray b i:Nat):Int)):=by
 intro m
 induction m with
 | zero=>
  intro i fuel hm ac hi;obtain⟨fuel,rfl⟩:∃k,fuel=k+1:=⟨fuel - 1,by omega⟩;have K:¬i<b:=by omega
  have O:Bq (HI F (b:Int) (((q1:Nat):Int),q2,xs) (i:Int)) (fun st=>st= .done (i:Int)):=by
   unfold HI;refine CP (S:=fun c=>c=false) (EM (by omega) (BH rfl)) ?_;rintro c rfl;exact EM (by simp) (BH rfl)
  obtain⟨st,U,rfl⟩:=O;unfold iter;rw [U];refine⟨_,rfl,?_⟩;rw [scanSorted,if_neg (by simp [K])]
 | succ m aa=>
  intro i fuel hm ac hi;obtain⟨fuel,rfl⟩:∃k,fuel=k+1:=⟨fuel - 1,by omega⟩;by_cases K:i<b
  ·have V:i<xs.length:=by omega
   have Y:i - 1<xs.length:=by omega
   have O:Bq (HI F (b:Int) (((q1:Nat):Int),q2,xs) (i:Int)) (fun st=>st=if(!AG xs[i] xs[i-1])=true then .more ((i+1:Nat):Int) else .done (i:Int)):=by
    unfold HI;refine CP (S:=fun c=>c= !AG xs[i] xs[i-1]) ?_ ?_
    ·refine FL (by omega) (Dk (m:=i) rfl V ?_);refine Co ((i - 1:Nat):Int) (by omega) (by omega) (by omega) (Dk (m:=i - 1) rfl Y ?_);refine C7 (Je (Z.get V) (Z.get Y)) (BH ?_);rw [← Ii];exact decide_not
    ·rintro c rfl;refine Fs (fun h=>?_) (fun h=>?_)
     ·refine Co ((i+1:Nat):Int) (by simp) (by omega) (by omega) ?_;rw [if_pos h];exact BH rfl
     ·rw [if_neg h];exact BH rfl
   obtain⟨st,U,rfl⟩:=O;unfold iter;rw [U];have hs:scanSorted AG xs.toArray b i=if(!AG xs[i] xs[i-1])=true then scanSorted AG xs.toArray b (i+1) else i:=by
    rw [scanSorted.eq_def AG xs.toArray b i,FK V,FK Y];simp [K]
   by_cases ab:(!AG xs[i] xs[i-1])=true
   ·rw [if_pos ab] at hs ⊢;rw [hs];exact aa (i+1) fuel (by omega) (by omega) (by omega)
   ·rw [if_neg ab] at hs ⊢;exact⟨_,rfl,by rw [hs]⟩
  ·exact aa i (fuel+1) (by omega) (by omega) hi
theorem Tf{F a b:Nat}{xs:List PT}(aa:2000<F)(ab:a<b)(ac:b<a+50)(hb:b≤xs.length)(O:xs.length<1000)(U:KO xs):
  f183 F xs (a:Int) (b:Int)=some ((partialInsertionSort AG xs.toArray a b).2,xs)∧(partialInsertionSort AG xs.toArray a b).1=xs.toArray:=by
 have e:partialInsertionSort AG xs.toArray a b=if scanSorted AG xs.toArray b (a+1)=b then(xs.toArray,true) else(xs.toArray,false):=by
  unfold partialInsertionSort partialIns;simp only;split
  ·rfl
  ·rw [if_pos (by omega)]
 have h:Bq (f183 F xs (a:Int) (b:Int)) (fun r=>r=((partialInsertionSort AG xs.toArray a b).2,xs)):=by
  unfold f183;refine Co ((a+1:Nat):Int) (by simp) (by omega) (by omega) (CP (S:=fun r=>r=Sum.inl ((partialInsertionSort AG xs.toArray a b).2,xs)) ?_ ?_)
  ·obtain⟨K,rfl⟩:∃k,F=k+1:=⟨F - 1,by omega⟩;have V:Bq (Kr (K+1) (a:Int) (b:Int) (((a+1:Nat):Int),0,xs)) (fun st=>st= .done (Sum.inl ((partialInsertionSort AG xs.toArray a b).2,xs))):=by
    unfold Kr;refine FL (show(0:Int)<5 by omega) (CP (Tl (F:=K+1) (q1:=a+1) 0 hb O U (b - (a+1)) (a+1) (K+1) (by omega) (by omega) (by omega)) ?_);rintro r rfl;rw [e];refine Fs (fun h=>?_) (fun h=>?_)
    ·rw [if_pos (by omega)];exact BH rfl
    ·rw [if_neg (by omega)];exact Co ((b - a:Nat):Int) (by omega) (by omega) (by omega) (FL (by omega) (BH rfl))
   obtain⟨st,Y,rfl⟩:=V;unfold iter;rw [Y];exact⟨_,rfl,rfl⟩
  ·rintro r rfl;exact BH rfl
 obtain⟨r,Z,rfl⟩:=h;refine⟨Z,?_⟩;rw [e];split <;> rfl
end Pal
namespace Pal
open Go.Sort
theorem Nk{body:Int→Option (Bz Int Int)}{d:Array PT}{p:PT→Bool}{j:Nat}(V:j<900)
  (h:∀i:Nat,i≤j+2→body (i:Int)=some (if(decide (i≤j)&&p d[i]!)=true then .more ((i+1:Nat):Int) else .done (i:Int))):
  ∀(m i fuel:Nat),j+1 - i≤m→m<fuel→i≤j+2→iter body fuel (i:Int)=some ((scanUp p d j i:Nat):Int):=by
 intro m
 induction m with
 | zero=>
  intro i fuel hm O hi;obtain⟨fuel,rfl⟩:∃k,fuel=k+1:=⟨fuel - 1,by omega⟩;have K:¬(decide (i≤j)&&p d[i]!)=true:=by simp;omega
  unfold iter;rw [h i hi,if_neg K,scanUp,if_neg K]
 | succ m U=>
  intro i fuel hm O hi;obtain⟨fuel,rfl⟩:∃k,fuel=k+1:=⟨fuel - 1,by omega⟩;unfold iter;rw [h i hi,scanUp];by_cases K:(decide (i≤j)&&p d[i]!)=true
  ·rw [if_pos K,if_pos K];have:i≤j:=by simp at K;exact K.1
   exact U (i+1) fuel (by omega) (by omega) (by omega)
  ·rw [if_neg K,if_neg K]
theorem M1{body:Int→Option (Bz Int Int)}{d:Array PT}{p:PT→Bool}{i:Nat}(hi:1≤i){n:Nat}
  (h:∀j:Nat,j<n→body (j:Int)=some (if(decide (i≤j)&&p d[j]!)=true then .more ((j - 1:Nat):Int) else .done (j:Int))):
  ∀(j fuel:Nat),j<n→j<fuel→iter body fuel (j:Int)=some ((scanDown p d i j:Nat):Int):=by
 intro j
 induction j with
 | zero=>
  intro fuel O U;obtain⟨fuel,rfl⟩:∃k,fuel=k+1:=⟨fuel - 1,by omega⟩;have K:¬(decide (i≤0)&&p d[0]!)=true:=by simp;omega
  unfold iter;rw [h 0 O,if_neg K];rfl
 | succ j V=>
  intro fuel O U;obtain⟨fuel,rfl⟩:∃k,fuel=k+1:=⟨fuel - 1,by omega⟩;unfold iter;rw [h (j+1) O,scanDown];by_cases K:(decide (i≤j+1)&&p d[j+1]!)=true
  ·rw [if_pos K,if_pos K];exact V fuel (by omega) (by omega)
  ·rw [if_neg K,if_neg K]
theorem Bq.JH{α:Type}{o:Option α}{a:α}(h:Bq o (fun x=>x=a)):o=some a:=by obtain⟨x,K,rfl⟩:=h;exact K
theorem O5{F a:Nat}{q2:Int}{j:Nat}{q1:Int}{ys:List PT}(K:a<ys.length)(Y:j<ys.length)(Z:ys.length<900)(V:KO ys)(i:Nat)(hi:i≤j+2):
  Ig F (a:Int) (q1,(j:Int),ys) (i:Int)=some (if(decide (i≤j)&&AG ys.toArray[i]! ys.toArray[a]!)=true then .more ((i+1:Nat):Int) else .done (i:Int)):=by
 refine Bq.JH ?_;unfold Ig;refine CP (S:=fun c=>c=(decide (i≤j)&&AG ys.toArray[i]! ys.toArray[a]!)) ?_ ?_
 ·refine Fs (fun h=>?_) (fun h=>?_)
  ·have O:i≤j:=by simp at h;omega
   have U:i<ys.length:=by omega
   refine Dk (m:=i) rfl U (Dk (m:=a) rfl K ?_);refine C7 (Je (V.get U) (V.get K)) (BH ?_);rw [Ii,FK U,FK K];simp [O]
  ·have O:¬i≤j:=by simp at h;omega
   refine BH ?_;simp [O]
 ·rintro c rfl;refine Fs (fun h=>?_) (fun h=>?_)
  ·refine Co ((i+1:Nat):Int) (by simp) (by omega) (by omega) ?_;rw [if_pos h];exact BH rfl
  ·rw [if_neg h];exact BH rfl
theorem NB{F a i:Nat}{q1 q2:Int}{ys:List PT}(O:a<ys.length)(Y:ys.length<900)(V:KO ys)(hi:1≤i)(j:Nat)(U:j<ys.length):
  Il F (a:Int) (q1,q2,ys) (i:Int) (j:Int)=some (if(decide (i≤j)&& !AG ys.toArray[j]! ys.toArray[a]!)=true then .more ((j - 1:Nat):Int) else .done (j:Int)):=by
 refine Bq.JH ?_;unfold Il;refine CP (S:=fun c=>c=(decide (i≤j)&& !AG ys.toArray[j]! ys.toArray[a]!)) ?_ ?_
 ·refine Fs (fun h=>?_) (fun h=>?_)
  ·have K:i≤j:=by omega
   refine Dk (m:=j) rfl U (Dk (m:=a) rfl O ?_);refine C7 (Je (V.get U) (V.get O)) (BH ?_);rw [FK U,FK O,← Ii,← decide_not];simp [K]
  ·have K:¬i≤j:=by omega
   refine BH ?_;simp [K]
 ·rintro c rfl;refine Fs (fun h=>?_) (fun h=>?_)
  ·have K:i≤j:=by simp at h;exact h.1
   refine Co ((j - 1:Nat):Int) (by omega) (by omega) (by omega) ?_;rw [if_pos h];exact BH rfl
  ·rw [if_neg h];exact BH rfl
theorem Ts{F a b:Nat}(av:2000<F)(aw:a<b):∀(m i j fuel:Nat) (ys:List PT),j+1 - i≤m→m<fuel→a<i→i≤j+2→j<b→b≤ys.length→ys.length<900→KO ys→
  Bq (iter (HK F (a:Int)) fuel ((i:Int),(j:Int),ys)) (fun r=>r.1=(((partLoop AG a i j ys.toArray).1:Nat):Int)∧r.2.toArray=(partLoop AG a i j ys.toArray).2∧KO r.2∧r.2.length=ys.length):=by
 intro m
 induction m with
 | zero=>?_
 | succ m aj=>?_
 all_goals
  intro i j fuel ys hm ay az ak aA hb V U;obtain⟨fuel,rfl⟩:∃k,fuel=k+1:=⟨fuel - 1,by omega⟩;have ae:a<ys.length:=by omega
  have ag:j<ys.length:=by omega
  have Y:iter (Ig F (a:Int) ((i:Int),(j:Int),ys)) F (i:Int)=some ((scanUp (fun x=>AG x ys.toArray[a]!) ys.toArray j i:Nat):Int):=
   Nk (by omega) (fun al am=>O5 (q2:=0) ae ag V U al am) (j+1 - i) i F (by omega) (by omega) ak
  have an:=scanUp_ge (fun x=>AG x ys.toArray[a]!) ys.toArray j i;have ao:=scanUp_spec (fun x=>AG x ys.toArray[a]!) ys.toArray j _ i rfl;have O:=partLoop_eq AG a i j ys.toArray;generalize aB:scanUp (fun x=>AG x ys.toArray[a]!) ys.toArray j i=i2 at Y an ao O;have Z:iter (Il F (a:Int) ((i:Int),(j:Int),ys) (i2:Int)) F (j:Int)=some ((scanDown (fun x=> !AG x ys.toArray[a]!) ys.toArray i2 j:Nat):Int):=
   M1 (n:=ys.length) (by omega) (fun ap aq=>NB ae V U (by omega) ap aq) j F ag (by omega)
  have hle:=scanDown_le (fun x=> !AG x ys.toArray[a]!) ys.toArray i2 j;generalize aC:scanDown (fun x=> !AG x ys.toArray[a]!) ys.toArray i2 j=K at Z hle O;by_cases ah:i2>K
  ·have aa:HK F (a:Int) ((i:Int),(j:Int),ys)=some (.done ((K:Int),ys)):=by
    refine Bq.JH ?_;unfold HK;refine C7 Y (C7 Z ?_);exact FL (by omega) (BH rfl)
   unfold iter;rw [aa];rw [if_pos ah] at O;exact⟨_,rfl,by rw [O],by rw [O],U,rfl⟩
  ·first
    | (exfalso;omega)
    | (
     have ab:i2<ys.length:=by omega
     have ac:K<ys.length:=by omega
     have aa:HK F (a:Int) ((i:Int),(j:Int),ys)=some (.more (((i2+1:Nat):Int),((K - 1:Nat):Int),(ys.set i2 ys[K]).set K ys[i2])):=by
      refine Bq.JH ?_
      unfold HK
      refine C7 Y ?_
      refine C7 Z ?_
      refine EM (by omega) ?_
      refine Dk (m:=K) rfl ac ?_
      refine Dk (m:=i2) rfl ab ?_
      refine Co ((i2+1:Nat):Int) (by simp) (by omega) (by omega) ?_
      refine Co ((K - 1:Nat):Int) (by omega) (by omega) (by omega) ?_
      exact BH rfl
     unfold iter;rw [aa]
     rw [if_neg ah] at O
     refine(aj (i2+1) (K - 1) fuel ((ys.set i2 ys[K]).set K ys[i2]) (by omega) (by omega) (by omega) (by omega) (by omega) (by simpa using hb) (by simpa using V) ((U.set (U.get ac)).set (U.get ab))).Ad ?_
     rintro r ⟨k1,ai,ar,au⟩
     rw [HE ab ac,← O] at k1 ai
     exact⟨k1,ai,ar,by simpa using au⟩)
theorem SC{F a:Nat}{j p3:Nat}{xs ys:List PT}{K O:PT}(he:(xs.set a K).set p3 O=ys)(U:a<ys.length)(V:j<ys.length)(Y:ys.length<900)(Z:KO ys)(i:Nat)(hi:i≤j+2):
  Jg F xs (a:Int) (p3:Int) K O (j:Int) (i:Int)=some (if(decide (i≤j)&&AG ys.toArray[i]! ys.toArray[a]!)=true then .more ((i+1:Nat):Int) else .done (i:Int)):=by
 rw [← O5 (F:=F) (q1:=0) (q2:=0) U V Y Z i hi];unfold Jg Ig;simp only [Int.toNat_natCast,he]
theorem QT{F a i p3:Nat}{xs ys:List PT}{K O:PT}(he:(xs.set a K).set p3 O=ys)(U:a<ys.length)(V:ys.length<900)(Y:KO ys)(hi:1≤i)(j:Nat)(Z:j<ys.length):
  Ji F xs (a:Int) (p3:Int) K O (i:Int) (j:Int)=some (if(decide (i≤j)&& !AG ys.toArray[j]! ys.toArray[a]!)=true then .more ((j - 1:Nat):Int) else .done (j:Int)):=by
 rw [← NB (F:=F) (q1:=0) (q2:=0) U V Y hi j Z];unfold Ji Il;simp only [Int.toNat_natCast,he]
theorem QF(a:Nat):∀(n i j:Nat) (d:Array PT),j+1 - i≤n→(partLoop AG a i j d).1≤j:=by
  intro n
  induction n with
  | zero=>?_
  | succ n V=>?_
  all_goals
    intro i j d Z;have K:=partLoop_eq AG a i j d;have Y:=scanUp_ge (fun x=>AG x d[a]!) d j i;generalize aa:scanUp (fun x=>AG x d[a]!) d j i=i2 at Y K;have hle:=scanDown_le (fun x=> !AG x d[a]!) d i2 j;generalize ab:scanDown (fun x=> !AG x d[a]!) d i2 j=O at hle K;by_cases U:i2>O
    ·rw [K,if_pos U];exact hle
    ·first
        | (exfalso;omega)
        | (rw [K,if_neg U]
           have:=V (i2+1) (O - 1) (swp d i2 O) (by omega)
           omega)
theorem Tu{F a b pv:Nat}(ap:2000<F){xs:List PT}(aC:a≤pv)(aD:pv<b)(hb:b≤xs.length)(aE:xs.length<900)(ab:KO xs):
  Bq (f185 F xs (a:Int) (b:Int) (pv:Int)) (fun r=>r.1=(((partition AG xs.toArray a b pv).1:Nat):Int)∧r.2.1=(partition AG xs.toArray a b pv).2.1∧r.2.2.toArray=(partition AG xs.toArray a b pv).2.2∧KO r.2.2∧r.2.2.length=xs.length):=by
 have ac:a<xs.length:=by omega
 have ae:pv<xs.length:=by omega
 obtain⟨ys,V⟩:∃ys,(xs.set a xs[pv]).set pv xs[a]=ys:=⟨_,rfl⟩;have O:KO ys:=by rw [← V];exact(ab.set (ab.get ae)).set (ab.get ac)
 have am:ys.length=xs.length:=by rw [← V];simp
 have aq:ys.toArray=swp xs.toArray a pv:=by rw [← V,HE ac ae]
 have Z:a<ys.length:=by omega
 have an:b - 1<ys.length:=by omega
 unfold f185;refine Dk (m:=pv) rfl ae (Dk (m:=a) rfl ac ?_);refine Co ((a+1:Nat):Int) (by simp) (by omega) (by omega) (Co ((b - 1:Nat):Int) (by omega) (by omega) (by omega) ?_);have ar:iter (Jg F xs (a:Int) (pv:Int) xs[pv] xs[a] ((b - 1:Nat):Int)) F ((a+1:Nat):Int)=some ((scanUp (fun x=>AG x ys.toArray[a]!) ys.toArray (b - 1) (a+1):Nat):Int):=
  Nk (by omega) (fun au av=>SC V Z an (by omega) O au av) (b - 1+1 - (a+1)) (a+1) F (by omega) (by omega) (by omega)
 refine C7 ar ?_;have aw:=scanUp_ge (fun x=>AG x ys.toArray[a]!) ys.toArray (b - 1) (a+1);have U:partition AG xs.toArray a b pv=if scanUp (fun x=>AG x ys.toArray[a]!) ys.toArray (b - 1) (a+1)>scanDown (fun x=> !AG x ys.toArray[a]!) ys.toArray (scanUp (fun x=>AG x ys.toArray[a]!) ys.toArray (b - 1) (a+1)) (b - 1) then
   (scanDown (fun x=> !AG x ys.toArray[a]!) ys.toArray (scanUp (fun x=>AG x ys.toArray[a]!) ys.toArray (b - 1) (a+1)) (b - 1),true,swp ys.toArray (scanDown (fun x=> !AG x ys.toArray[a]!) ys.toArray (scanUp (fun x=>AG x ys.toArray[a]!) ys.toArray (b - 1) (a+1)) (b - 1)) a) else
   ((partLoop AG a (scanUp (fun x=>AG x ys.toArray[a]!) ys.toArray (b - 1) (a+1)+1) (scanDown (fun x=> !AG x ys.toArray[a]!) ys.toArray (scanUp (fun x=>AG x ys.toArray[a]!) ys.toArray (b - 1) (a+1)) (b - 1) - 1) (swp ys.toArray (scanUp (fun x=>AG x ys.toArray[a]!) ys.toArray (b - 1) (a+1)) (scanDown (fun x=> !AG x ys.toArray[a]!) ys.toArray (scanUp (fun x=>AG x ys.toArray[a]!) ys.toArray (b - 1) (a+1)) (b - 1)))).1,false,
    swp (partLoop AG a (scanUp (fun x=>AG x ys.toArray[a]!) ys.toArray (b - 1) (a+1)+1) (scanDown (fun x=> !AG x ys.toArray[a]!) ys.toArray (scanUp (fun x=>AG x ys.toArray[a]!) ys.toArray (b - 1) (a+1)) (b - 1) - 1) (swp ys.toArray (scanUp (fun x=>AG x ys.toArray[a]!) ys.toArray (b - 1) (a+1)) (scanDown (fun x=> !AG x ys.toArray[a]!) ys.toArray (scanUp (fun x=>AG x ys.toArray[a]!) ys.toArray (b - 1) (a+1)) (b - 1)))).2
     (partLoop AG a (scanUp (fun x=>AG x ys.toArray[a]!) ys.toArray (b - 1) (a+1)+1) (scanDown (fun x=> !AG x ys.toArray[a]!) ys.toArray (scanUp (fun x=>AG x ys.toArray[a]!) ys.toArray (b - 1) (a+1)) (b - 1) - 1) (swp ys.toArray (scanUp (fun x=>AG x ys.toArray[a]!) ys.toArray (b - 1) (a+1)) (scanDown (fun x=> !AG x ys.toArray[a]!) ys.toArray (scanUp (fun x=>AG x ys.toArray[a]!) ys.toArray (b - 1) (a+1)) (b - 1)))).1 a):=by
  rw [aq];rfl
 generalize aF:scanUp (fun x=>AG x ys.toArray[a]!) ys.toArray (b - 1) (a+1)=i2 at aw U ⊢;have ay:iter (Ji F xs (a:Int) (pv:Int) xs[pv] xs[a] (i2:Int)) F ((b - 1:Nat):Int)=some ((scanDown (fun x=> !AG x ys.toArray[a]!) ys.toArray i2 (b - 1):Nat):Int):=
  M1 (n:=ys.length) (by omega) (fun az aA=>QT V Z (by omega) O (by omega) az aA) (b - 1) F an (by omega)
 refine C7 ay ?_;have hle:=scanDown_le (fun x=> !AG x ys.toArray[a]!) ys.toArray i2 (b - 1);generalize aG:scanDown (fun x=> !AG x ys.toArray[a]!) ys.toArray i2 (b - 1)=K at hle U ⊢;have Y:K<ys.length:=by omega
 simp only [Int.toNat_natCast,V];refine Fs (fun h=>?_) (fun h=>?_)
 ·have ag:i2>K:=by omega
  rw [if_pos ag] at U;refine Dk (m:=a) rfl Z (Dk (m:=K) rfl Y ?_);refine BH ?_;rw [U];exact⟨rfl,rfl,HE Y Z,(O.set (O.get Z)).set (O.get Y),by simp [am]⟩
 ·have ag:¬i2>K:=by omega
  have ah:i2<ys.length:=by omega
  rw [if_neg ag] at U;refine Dk (m:=K) rfl Y (Dk (m:=i2) rfl ah ?_);refine Co ((i2+1:Nat):Int) (by simp) (by omega) (by omega) (Co ((K - 1:Nat):Int) (by omega) (by omega) (by omega) ?_);refine CP (Ts (F:=F) ap (show a<b by omega) (K - 1+1 - (i2+1)) (i2+1) (K - 1) F ((ys.set i2 ys[K]).set K ys[i2]) (by omega) (by omega) (by omega) (by omega) (by omega) (by simp;omega) (by simp;omega) ((O.set (O.get Y)).set (O.get ah))) ?_;rintro r ⟨k1,ai,aa,ao⟩;rw [HE ah Y] at k1 ai;have aB:=QF a _ (i2+1) (K - 1) (swp ys.toArray i2 K) (Nat.le_refl _);obtain⟨aH,aj⟩:=r;simp only at k1 ai aa ao ⊢;subst k1;rw [← ai] at U;have hlen:aj.length=ys.length:=by simpa using ao
  generalize (partLoop AG a (i2+1) (K - 1) (swp ys.toArray i2 K)).1=pm at aB U ⊢;have ak:pm<aj.length:=by omega
  have al:a<aj.length:=by omega
  refine Dk (m:=a) rfl al (Dk (m:=pm) rfl ak ?_);refine BH ?_;rw [U];exact⟨rfl,rfl,HE ak al,(aa.set (aa.get al)).set (aa.get ak),by simp [hlen,am]⟩
end Pal
namespace Pal
open Go.Sort
theorem Tc(F:Nat):∀n:Nat,n<13→∃l,f163 F (FW (n:Int))=some l:=by
 intro n K
 match n,K with
 | 0,_=>exact⟨_,rfl⟩
 | 1,_=>exact⟨_,rfl⟩
 | 2,_=>exact⟨_,rfl⟩
 | 3,_=>exact⟨_,rfl⟩
 | 4,_=>exact⟨_,rfl⟩
 | 5,_=>exact⟨_,rfl⟩
 | 6,_=>exact⟨_,rfl⟩
 | 7,_=>exact⟨_,rfl⟩
 | 8,_=>exact⟨_,rfl⟩
 | 9,_=>exact⟨_,rfl⟩
 | 10,_=>exact⟨_,rfl⟩
 | 11,_=>exact⟨_,rfl⟩
 | 12,_=>exact⟨_,rfl⟩
 | n+13,h=>omega
theorem SD(F:Nat):f163 F (FW ((13:Nat):Int))=some 4:=rfl
def Is(xs:List PT)(d:Array PT)(ys:List PT):Prop:=ys.toArray=d∧KO ys∧ys.length=xs.length
theorem M7{F a b:Nat}{l:Int}{xs:List PT}(K:2000<F)(O:a≤b)(ae:b≤a+12)(hb:b≤xs.length)(ag:xs.length<900)(U:KO xs):
  Bq (Hq F xs (a:Int) (b:Int) l) (Is xs (insertionSort AG xs.toArray a b)):=by
 unfold Hq;refine CP (S:=fun r=>∃ys,r=Sum.inl ys∧Is xs (insertionSort AG xs.toArray a b) ys) ?_ ?_
 ·obtain⟨V,rfl⟩:∃k,F=k+1:=⟨F - 1,by omega⟩;obtain⟨ys,Y,Z,aa,ab⟩:=OI K hb (by omega) U O;have ac:Kp (V+1) xs (a:Int) (b:Int) l ()=some (.done (Sum.inl ys)):=by
   refine Bq.JH ?_;unfold Kp;refine Co ((b - a:Nat):Int) (by omega) (by omega) (by omega) (FL (by omega) ?_);exact C7 Y (BH rfl)
  unfold iter;rw [ac];exact⟨_,rfl,ys,rfl,Z,aa,ab⟩
 ·rintro r ⟨ys,rfl,h⟩;exact BH h
theorem LG{F a b:Nat}{l:Int}{wb wp:Bool}{xs:List PT}(K:2000<F)(O:a≤b)(ab:b≤a+12)(hb:b≤xs.length)(ac:xs.length<900)(U:KO xs):
  Bq (Gr F l ((a:Int),(b:Int),wb,wp,xs)) (fun st=>∃ys,st= .done (Sum.inl ys)∧Is xs (insertionSort AG xs.toArray a b) ys):=by
 obtain⟨ys,V,Y,Z,aa⟩:=OI K hb (by omega) U O;unfold Gr;refine CP (S:=fun r=>r=Sum.inl ys) ?_ ?_
 ·refine Co ((b - a:Nat):Int) (by dsimp only;omega) (by omega) (by omega) (FL (by omega) ?_);exact C7 V (BH rfl)
 ·rintro r rfl;exact BH ⟨ys,rfl,Y,Z,aa⟩
theorem QZ{F n:Nat}{l:Int}{xs:List PT}(O:2000<F)(aa:n=xs.length)(ab:n≤12)(U:KO xs):
  Bq (f162 F xs 0 (n:Int) l) (Is xs (insertionSort AG xs.toArray 0 n)):=by
 unfold f162;refine CP (S:=fun r=>∃ys,r=Sum.inl ys∧Is xs (insertionSort AG xs.toArray 0 n) ys) ?_ ?_
 ·obtain⟨K,rfl⟩:∃k,F=k+1:=⟨F - 1,by omega⟩;obtain⟨st,V,ys,rfl,Y⟩:=LG (F:=K+1) (a:=0) (b:=n) (l:=l) (wb:=true) (wp:=true) (xs:=xs) O (by omega) (by omega) (by omega) (by omega) U;have Z:Gr (K+1) l (0,(n:Int),true,true,xs)=some (.done (Sum.inl ys)):=V;unfold iter;rw [Z];exact⟨_,rfl,ys,rfl,Y⟩
 ·rintro r ⟨ys,rfl,h⟩;exact BH h
theorem SI{S A:Type}{body:S→Option (Bz S A)}{F:Nat}{s s':S}(h:body s=some (.more s')){Q:A→Prop}(k:Bq (iter body F s') Q):Bq (iter body (F+1) s) Q:=by
 unfold iter;rw [h];exact k
theorem Sk{S A:Type}{body:S→Option (Bz S A)}{F:Nat}{s:S}{Q:A→Prop}(h:Bq (body s) (fun st=>∃a,st= .done a∧Q a)):Bq (iter body (F+1) s) Q:=by
 obtain⟨st,K,a,rfl,O⟩:=h;unfold iter;rw [K];exact⟨a,rfl,O⟩
set_option maxHeartbeats 1000000 in
theorem S1{F:Nat}{xs:List PT}(ba:3000<F)(aH:xs.length=13)(an:KO xs):
  Bq (f162 F xs 0 ((13:Nat):Int) 4) (Is xs (pdq AG xs.toArray 0 13 4 true true)):=by
 have aI:xs.toArray.size=13:=by simpa using aH
 obtain⟨s1,B1,bb,s2,bc,ao,bd,be⟩:=rd_facts (lt:=AG) (d:=xs.toArray) (a:=0) (b:=13) (limit:=4) (wb:=true) (wp:=true) Kq partialInsertionSort_holds reverseRange_holds (by omega) (by rw [aI];omega) (.inl rfl);have ap:¬(13 - 0≤12):=by omega
 have aA:=TJ (F:=F) (a:=0) (b:=13) (xs:=xs) (by omega) (by omega) (by omega) (by omega) an;have aJ:choosePivot AG xs.toArray 0 13=(rd AG xs.toArray 0 13 4 true true).c:=rfl;rw [aJ] at aA;generalize K:rd AG xs.toArray 0 13 4 true true=R at*;have aK:R.lim=4:=by rw [← K];rfl
 have aL:R.c.2= .decreasing→R.d2=reverseRange xs.toArray 0 13∧R.pivot=(13 - 1) - (R.c.1 - 0)∧R.hint= .increasing:=by
  intro h;rw [← K] at h ⊢;exact rd_dec h
 have aM:R.c.2≠ .decreasing→R.d2=xs.toArray∧R.pivot=R.c.1∧R.hint=R.c.2:=by
  intro h;rw [← K] at h ⊢;exact rd_not h
 have aN:R.hint= .increasing→R.pi=partialInsertionSort AG R.d2 0 13:=by
  intro h;rw [← K] at h ⊢;exact rd_pi_yes (by simp [h])
 have aO:R.hint≠ .increasing→R.pi=(R.d2,false):=by
  intro h;rw [← K] at h ⊢;exact rd_pi_no (by simp [h])
 have aP:Bq (if Ht R.c.2=2 then(f182 F xs 0 ((13:Nat):Int)).bind fun aQ=>(AA (((13:Nat):Int) - 1)).bind fun aR=>(AA (((R.c.1:Nat):Int) - 0)).bind fun aS=>(AA (aR - aS)).bind fun aT=>some (aT,(1:Int),aQ) else some (((R.c.1:Nat):Int),Ht R.c.2,xs))
   (fun q=>q.1=((R.pivot:Nat):Int)∧q.2.1=Ht R.hint∧Is xs R.d2 q.2.2):=by
  by_cases ah:R.c.2= .decreasing
  ·obtain⟨ac,e2,Y⟩:=aL ah;refine FL (by rw [ah];rfl) (CP (TF (F:=F) (a:=0) (b:=13) (xs:=xs) (by omega) (by omega) (by omega) (by omega) an) ?_);rintro ys ⟨k1,U,V⟩;refine Co 12 (by omega) (by omega) (by omega) (Co ((R.c.1:Nat):Int) (by omega) (by omega) (by omega) ?_);refine Co ((12 - R.c.1:Nat):Int) (by omega) (by omega) (by omega) (BH ⟨?_,?_,?_,U,V⟩)
   ·rw [e2];rfl
   ·rw [Y];rfl
   ·rw [ac];exact k1
  ·obtain⟨ac,e2,Y⟩:=aM ah;refine EM (by intro h;cases aq:R.c.2 <;> rw [aq] at h ah <;> first | (exact ah rfl) | (cases h)) ?_
   refine BH ⟨?_,?_,?_,an,rfl⟩
   ·rw [e2]
   ·rw [Y]
   ·rw [ac]
 unfold f162;refine CP (S:=fun r=>∃ys,r=Sum.inl ys∧Is xs (pdq AG xs.toArray 0 13 4 true true) ys) ?_ (by rintro r ⟨ys,rfl,h⟩;exact BH h);have aU:∀(Z:List PT),Is xs R.pi.1 Z→R.pi.2=false→
   Bq ((f185 F Z 0 ((13:Nat):Int) ((R.pivot:Nat):Int)).bind fun O=>(AA (O.1 - 0)).bind fun aB=>(AA (((13:Nat):Int) - O.1)).bind fun aC=>(GB (13:Int) (8)).bind fun aD=>
     Option.bind (
      if aB<aC then(
       (Hq F O.2.2 0 O.1 4).bind fun aV=>
       (AA (O.1+1)).bind fun aW=>
       some (aW,((13:Nat):Int),decide (aD≤aB),aV)
      ) else(
       (AA (O.1+1)).bind fun aX=>
       (Hq F O.2.2 aX ((13:Nat):Int) 4).bind fun aY=>
       some ((0:Int),O.1,decide (aD≤aC),aY)
      )
     ) fun al=>
     some (al.1,al.2.1,al.2.2.1,O.2.1,al.2.2.2))
    (fun st=>Bq (Gr F 4 st) (fun q=>∃a,q= .done a∧∃ys,a=Sum.inl ys∧Is xs (pdq AG xs.toArray 0 13 4 true true) ys)):=by
  intro Z aZ aE;obtain⟨z1,a0,bf⟩:=aZ;have bg:Z.length=13:=by omega
  refine CP (Tu (F:=F) (a:=0) (b:=13) (pv:=R.pivot) (xs:=Z) (by omega) (by omega) ao.2 (by omega) (by omega) a0) ?_;rw [z1];have aa:=partition_holds AG Kq R.pi.1 0 13 R.pivot ao.1 ao.2 (by omega);have ai:=fun ar=>pdq_left (lt:=AG) (d:=xs.toArray) (a:=0) (b:=13) (limit:=4) (wb:=true) (wp:=true) ap (by omega) (by rw [K];exact aE) (by simp) (by rw [K];exact⟨aa.1,aa.2.1⟩) ar;have aj:=fun ar=>pdq_right (lt:=AG) (d:=xs.toArray) (a:=0) (b:=13) (limit:=4) (wb:=true) (wp:=true) ap (by omega) (by rw [K];exact aE) (by simp) (by rw [K];exact⟨aa.1,aa.2.1⟩) ar;rw [K] at ai aj;rw [aK] at ai aj;generalize partition AG R.pi.1 0 13 R.pivot=PA at aa ai aj ⊢;obtain⟨m,bh,d4⟩:=PA;rintro⟨bi,a1,ab⟩ ⟨k1,U,V,au,a2⟩;simp only at k1 U V au a2 aa ai aj ⊢;subst k1 U;have hm:m<13:=aa.2.1;have bj:ab.length=13:=by omega
  refine Co (m:Int) (by omega) (by omega) (by omega) (Co ((13 - m:Nat):Int) (by omega) (by omega) (by omega) ?_);refine C7 (b:=1) rfl ?_;by_cases aF:m - 0<13 - m
  ·refine CP (S:=fun q=>∃us,q=(((m+1:Nat):Int),((13:Nat):Int),decide ((1:Int)≤(m:Int)),us)∧Is ab (insertionSort AG ab.toArray 0 m) us) ?_ ?_
   ·refine FL (by omega) (CP (M7 (F:=F) (a:=0) (b:=m) (l:=4) (xs:=ab) (by omega) (by omega) (by omega) (by omega) (by omega) au) ?_);intro us av;exact Co ((m+1:Nat):Int) (by simp) (by omega) (by omega) (BH ⟨us,rfl,av⟩)
   ·rintro q ⟨us,rfl,u1,u2,a3⟩;refine BH ?_;refine(LG (F:=F) (a:=m+1) (b:=13) (l:=4) (xs:=us) (by omega) (by omega) (by omega) (by omega) (by omega) u2).Ad ?_;rintro st ⟨ys,rfl,v1,v2,a4⟩;refine⟨_,rfl,ys,rfl,?_,v2,by omega⟩;rw [v1,u1,V,ai aF,pdq_small (by omega),pdq_small (by omega)]
  ·refine CP (S:=fun q=>∃us,q=((0:Int),(m:Int),decide ((1:Int)≤((13 - m:Nat):Int)),us)∧Is ab (insertionSort AG ab.toArray (m+1) 13) us) ?_ ?_
   ·refine EM (by omega) (Co ((m+1:Nat):Int) (by simp) (by omega) (by omega) ?_);refine CP (M7 (F:=F) (a:=m+1) (b:=13) (l:=4) (xs:=ab) (by omega) (by omega) (by omega) (by omega) (by omega) au) ?_;intro us av;exact BH ⟨us,rfl,av⟩
   ·rintro q ⟨us,rfl,u1,u2,a3⟩;refine BH ?_;have:=LG (F:=F) (a:=0) (b:=m) (l:=4) (wb:=decide ((1:Int)≤((13 - m:Nat):Int))) (wp:=a1) (xs:=us) (by omega) (by omega) (by omega) (by omega) (by omega) u2;refine Bq.Ad this ?_;rintro st ⟨ys,rfl,v1,v2,a4⟩;refine⟨_,rfl,ys,rfl,?_,v2,by omega⟩;rw [v1,u1,V,aj aF,pdq_small (by omega),pdq_small (by omega)]
 have a5:Bq (Gr F 4 (0,((13:Nat):Int),true,true,xs)) (fun st=>(∃a,st= .done a∧∃ys,a=Sum.inl ys∧Is xs (pdq AG xs.toArray 0 13 4 true true) ys)∨
   ∃s',st= .more s'∧Bq (Gr F 4 s') (fun q=>∃a,q= .done a∧∃ys,a=Sum.inl ys∧Is xs (pdq AG xs.toArray 0 13 4 true true) ys)):=by
  unfold Gr;refine CP (S:=fun r=>(∃ys,r=Sum.inl ys∧Is xs (pdq AG xs.toArray 0 13 4 true true) ys)∨∃s',r=Sum.inr s'∧Bq (Gr F 4 s') (fun q=>∃a,q= .done a∧∃ys,a=Sum.inl ys∧Is xs (pdq AG xs.toArray 0 13 4 true true) ys)) ?_ ?_
  ·refine Co 13 (by dsimp only;omega) (by omega) (by omega) (EM (by omega) ?_);refine EM (by omega) (CP (S:=fun _=>True) (EM (by simp) (BH trivial)) fun _ _=>?_);refine C7 aA (CP aP ?_);rintro⟨q1,q2,ae⟩ ⟨ac,e2,Y⟩;simp only at ac e2 Y ⊢;subst ac e2;refine C7 (b:=true) (by simp) (C7 (b:=decide (Ht R.hint=1)) (by simp) ?_);have a6:Bq (if(decide (Ht R.hint=1))=true then(f183 F ae 0 ((13:Nat):Int)).bind fun aw=>if aw.1=true then some (Sum.inl aw.2) else some (Sum.inr aw.2) else some (Sum.inr ae))
     (fun r=>(R.pi.2=true∧∃ys,r=Sum.inl ys∧Is xs R.pi.1 ys)∨(R.pi.2=false∧∃ys,r=Sum.inr ys∧Is xs R.pi.1 ys)):=by
    by_cases hh:R.hint= .increasing
    ·refine FL (by rw [hh];rfl) ?_;obtain⟨k1,U,V⟩:=Y;obtain⟨ay,g2⟩:=Tf (F:=F) (a:=0) (b:=13) (xs:=ae) (by omega) (by omega) (by omega) (by omega) (by omega) U;rw [k1] at ay g2;rw [← aN hh] at ay g2;refine C7 ay (Fs (fun h=>?_) (fun h=>?_))
     ·exact BH (.inl ⟨h,ae,rfl,by rw [g2];exact k1,U,V⟩)
     ·exact BH (.inr ⟨by simpa using h,ae,rfl,by rw [g2];exact k1,U,V⟩)
    ·refine EM (by intro h;cases aq:R.hint <;> rw [aq] at h hh <;> first | (exact hh rfl) | (simp [Ht] at h)) ?_
     rw [aO hh];exact BH (.inr ⟨rfl,ae,rfl,Y⟩)
   refine CP a6 ?_;rintro r (⟨p2,ys,rfl,az⟩ | ⟨p2,Z,rfl,a7⟩)
   ·refine BH (.inl ⟨ys,rfl,?_⟩);rw [pdq_done ap (by omega) (by rw [K];exact p2),K];exact az
   ·rw [Sum.elim_inr];refine CP (S:=fun c=>c=false) (EM (by omega) (BH rfl)) ?_;rintro c rfl;refine EM (by simp) ?_;obtain⟨s',ag,ak⟩:=aU Z a7 p2;have bl:∀{α β:Type} (o:Option α) (f:α→Option β) (g:β→(List PT)⊕(Int×Int×Bool×Bool×List PT)),True:=fun _ _ _=>trivial;refine Bq.of_eq (a:=Sum.inr s') ?_ (.inr ⟨s',rfl,ak⟩);have key:∀(o:Option (Int×Int×Bool×Bool×List PT)),o=some s'→(o.bind fun x=>some (Sum.inr x:List PT⊕(Int×Int×Bool×Bool×List PT)))=some (Sum.inr s'):=fun o a8=>by rw [a8];rfl
    refine Eq.trans ?_ (key _ ag);simp only [Option.bind_assoc,Option.bind_some]
  ·rintro r (⟨ys,rfl,az⟩ | ⟨s',rfl,a9⟩)
   ·exact BH (.inl ⟨_,rfl,ys,rfl,az⟩)
   ·exact BH (.inr ⟨s',rfl,a9⟩)
 obtain⟨bm,aG⟩:∃k,F=k+2:=⟨F - 2,by omega⟩;obtain⟨st,ag,ak | ak⟩:=a5
 ·obtain⟨a,rfl,am⟩:=ak;rw [aG] at ag ⊢;unfold iter;rw [ag];exact⟨a,rfl,am⟩
 ·obtain⟨s',rfl,am⟩:=ak;rw [aG] at ag am ⊢;exact SI ag (Sk am)
end Pal
namespace Pal
open Go Go.Conc Go.Proofs
open Go.Proofs.Tryz
variable {J:Judge Tryz.prog}{E:LH}
def N2(fuel:Nat)(p1:Int)(K:Int)(U:Unit):Option (Bz Unit Unit):= Option.bind (if p1<K then(none) else(some false)) fun O=> if O=true then((AA (K - 1)).bind fun V=> (AA (K - 1)).bind fun Y=> none) else(some (.done ()))
def NR(fuel:Nat)(p1:Int)(p2:Int)(K:Int):Option (Bz Int Unit):= if K<p2 then(Option.bind (iter (N2 fuel p1 K) fuel ()) fun U=> (AA (K+1)).bind fun O=> some (.more O)) else(some (.done ()))
def Mt(fuel:Nat)(p1:Int)(p2:Int):Option Unit:= (AA (p1+1)).bind fun K=> Option.bind (iter (NR fuel p1 p2) fuel K) fun O=> some ()
theorem SS{p1:Int}{p2:Int}{fuel:Nat}{r:Unit}(V:Mt fuel p1 p2=some r):AT J 178 [nS,iV p1,iV p2,(fV 134)] E [] (fun w E' B'=>w= .tuple #[]∧B'= []):=by
 refine Bm func178 fun Q aZ cs H aj ak=>?_;unfold Mt at V;obtain⟨a0,al,am⟩:=bs V;refine zg 3 rfl (Bv al rfl rfl rfl ?_);obtain⟨a1,an,ao⟩:=bs am;refine zg 2 rfl (Cw [] [] (fun a2 ap aq=>?_) (fun ar=>?_))
 ·obtain rfl:=oi ao;exact JL.fin (v:= .tuple #[]) rfl rfl (BP.list func178 rfl (vs:= []) trivial) (ak ap rfl ⟨rfl,rfl⟩ aq)
 ·refine JL.block (CC an (fun K=> []) (fun K=> [(0,.slice none 0 0),(1,iV p1),(2,iV p2),(3,(fV 134)),(8,iV K)]) Ak aj ?_);rintro K a3 Y Z au ⟨a4,O⟩ av;have aa:=O;unfold NR at aa;refine zg 7 rfl (A7 aa (fun aw ay=>?_) (fun aw az=>?_))
  ·obtain⟨a5,aA,aB⟩:=bs ay;refine zg 8 rfl (Cw [] [(0,.slice none 0 0),(1,iV p1),(2,iV p2),(3,(fV 134)),(8,iV K)] (fun a6 aC aD=>?_) (fun aE=>?_))
   ·obtain⟨aF,aG,aH⟩:=bs aB;refine zg 3 rfl (Bv aG rfl rfl rfl ?_);refine zg 2 rfl ?_;obtain rfl:=oi aH;exact av aF (Y.Aa aC) aD rfl O
   ·refine JL.block (CC aA (fun ab=> []) (fun ab=> [(0,.slice none 0 0),(1,iV p1),(2,iV p2),(3,(fV 134)),(8,iV K),(9,iV K)]) Ak Z ?_);rintro ab ac aI aJ aK ⟨a7,ae⟩ a8;have ag:=ae;unfold N2 at ag;refine zg 2 rfl (Er 17 fun ht=>?_);refine Bt ht rfl [0,1,2,3] rfl ?_;obtain⟨aL,ah,aM⟩:=bs ag;refine Fq 0 #[true,true,true,true,true,true,true,true,true,true,true,true,true,true,true,true,true] (fun L s=>∃(ai:LH),Jm ac H ai [] [(0,.slice none 0 0),(1,iV p1),(2,iV p2),(3,(fV 134)),(8,iV K),(9,iV K),(34,.bool aL)] L s) ?_ ?_
    ·rintro _ _ ⟨ai,rfl,rfl,aN,aO⟩;refine AQ.fin (by decide+kernel) (BO aM (fun aP aQ=>?_) (fun aP aR=>?_))
     ·refine zg 3 rfl (Er 16 fun ht=>?_);refine Bt ht rfl [0,1,2,3] rfl ?_;obtain⟨a9,aS,aT⟩:=bs aQ;refine Bd 4 ht rfl rfl (fun ρ h s' hs=>Db (h _ _ rfl) (h _ _ rfl) aS) (Bt ht rfl [5,6] rfl ?_);obtain⟨ba,aU,aV⟩:=bs aT;refine Bd 7 ht rfl rfl (fun ρ h s' hs=>Db (h _ _ rfl) (h _ _ rfl) aU) ?_;cases aV
     ·refine JL.exit rfl ?_;obtain rfl:=oi aR;obtain rfl:=aK _ ae;exact aE (aI.Aa aN) aO rfl
    ·intro aW;refine FH (q:=p1<K) (i:=21) rfl (fun U=>?_) (fun U=>?_)
     ·have aX:=ip ah U;refine Bt ht rfl [4,5,6] rfl ?_;cases aX
     ·have aY:=im ah U;refine Bt ht rfl [4,5,6,7,8,9,10,11,12,13,14,15,16] rfl ?_;obtain rfl:=oi aY;refine Dp ?_ (aW _ _ ⟨ac,rfl,rfl,Ak,aJ⟩);exact⟨rfl,rfl,rfl,rfl,rfl,rfl,rfl,trivial⟩
  ·refine JL.exit rfl ?_;obtain rfl:=oi az;obtain rfl:=au _ O;exact ar Y Z rfl
def NN(fuel:Nat)(p1:Int)(p2:Int)(p3:Int)(O:Unit):Option (Bz Unit ((Unit)⊕(Unit))):= (AA (p2 - p1)).bind fun K=> if K≤12 then((Mt fuel p1 p2).bind fun U=> some (.done (Sum.inl ()))) else(if p3=0 then(none) else(none))
def MC(fuel:Nat)(p1:Int)(p2:Int)(p3:Int):Option Unit:= Option.bind (iter (NN fuel p1 p2 p3) fuel ()) fun K=> Sum.elim (fun r=>some r) (fun O=> none) K
theorem Tw{p1:Int}{p2:Int}{p3:Int}{fuel:Nat}{r:Unit}(K:MC fuel p1 p2 p3=some r):AT J 162 [nS,iV p1,iV p2,iV p3,(fV 134)] E [] (fun w E' B'=>w= .tuple #[]∧B'= []):=by
 refine Bm func162 fun Q ay cs H Y Z=>?_;unfold MC at K;obtain⟨az,aa,ab⟩:=bs K;refine zg 8 rfl (Cc (fun L s=>False) ?_ ?_)
 ·intro _ _ ac;exact ac.elim
 ·intro aA;refine JL.block (CC aa (fun O=> []) (fun O=> [(0,.slice none 0 0),(1,iV p1),(2,iV p2),(3,iV p3),(4,(fV 134)),(10,.bool true),(11,.bool true)]) Ak Y ?_);rintro O aB ae ag ah ⟨aC,U⟩ aD;have V:=U;unfold NN at V;obtain⟨aE,ai,aj⟩:=bs V;refine zg 5 rfl (Cq ai rfl rfl rfl ?_);refine zg 8 rfl (A7 aj (fun ak al=>?_) (fun ak am=>?_))
  ·obtain⟨aF,an,ao⟩:=bs al;refine zg 6 rfl (Ba (SS an) rfl rfl Ly ag fun aG ap aq=>?_);refine JL.done ?_;obtain rfl:=oi ao;obtain rfl:=ah _ U;have ar:=elim_inl ab;obtain rfl:=oi ar;exact AS func162 rfl rfl (Z (ae.Aa ap) rfl ⟨rfl,rfl⟩ aq)
  ·refine zg 7 rfl (A7 am (fun au av=>?_) (fun au aw=>?_))
   ·refine zg 6 rfl ?_;cases av
   ·refine zg 5 rfl (Av (v:= .bool false) rfl (fun ρ h=>Yl.not (c:=true) (h _ _ rfl)) ?_);refine zg 9 rfl ?_;cases aw
def PV(fuel:Nat):Option Unit:= (f163 fuel (FW ((0:Nat):Int))).bind fun K=> (MC fuel 0 ((0:Nat):Int) K).bind fun O=> some ()
theorem Tj{fuel:Nat}{r:Unit}(K:PV fuel=some r):AT J 133 [nS,(fV 134)] E [] (fun w E' B'=>w= .tuple #[]∧B'= []):=by
 refine Bm func133 fun Q ah cs H O U=>?_;unfold PV at K;refine zg 3 rfl (BR underlying130 rfl rfl rfl ?_);refine zg 6 rfl (Av (v:= .int .u64 ((FW ((0:Nat):Int):Nat):Int)) rfl (fun ρ h=>Yl.FW underlying3 underlying156 (h _ _ rfl)) ?_);obtain⟨ai,V,Y⟩:=bs K;refine Ba (PE V) rfl rfl (Bc func163 rfl) O fun aj Z aa=>?_;obtain⟨ak,ab,ac⟩:=bs Y;refine zg 1 rfl (Ba (Tw ab) rfl rfl JV aa fun al ae ag=>?_);refine JL.done ?_;obtain rfl:=oi ac;exact JL.fin (v:= .tuple #[]) rfl rfl (BP.list func133 rfl (vs:= []) trivial) (U (Z.Aa ae) rfl ⟨rfl,rfl⟩ ag)
end Pal
namespace Pal
open Go Go.Conc Go.Proofs Go.Sort
theorem Ri:∀(ys K:List PT),K.Perm ys→ys.Pairwise (fun p q=>p.1<q.1)→K.Pairwise (fun p q=>p.1≤q.1)→K=ys:=by
 intro ys
 induction ys with
 | nil=>intro K h _ _;exact h.eq_nil
 | cons y ys Z=>
  intro K h O U;cases K with
  | nil=>exact absurd h.symm.eq_nil (by simp)
  | cons z K=>
   rw [List.pairwise_cons] at O U;have V:z∈y::ys:=h.mem_iff.1 (by simp);have Y:y∈z::K:=h.mem_iff.2 (by simp);have e:z=y:=by
    rcases List.mem_cons.1 V with e | V
    ·exact e
    ·rcases List.mem_cons.1 Y with e | Y
     ·exact e.symm
     ·have:=O.1 z V;have:=U.1 y Y;omega
   subst e;rw [Z K ((List.perm_cons z).1 h) O.2 U.2]
theorem SY{F:Nat}{xs ys:List PT}(ag:3000<F)(an:xs.length≤13)(Y:KO xs)(ah:ys.Perm xs)(hs:ys.Pairwise (fun p q=>p.1<q.1)):f133 F xs=some ys:=by
 have fin:∀(d:Array PT) (K:List PT),PermIn 0 xs.toArray.size xs.toArray d→SortedIn AG 0 xs.toArray.size d→K.toArray=d→K=ys:=by
  rintro d K Z ai rfl;have aa:K.Perm xs:=by
   have ab:=Z.2.2;have O:=Z.1;simp only [List.size_toArray] at O ab;have e2:(K.toArray.extract 0 xs.length).toList=K:=by simp [← O]
   have aj:(xs.toArray.extract 0 xs.length).toList=xs:=by simp
   rwa [e2,aj] at ab
  refine Ri ys K (aa.trans ah.symm) hs ?_;rw [List.pairwise_iff_getElem];intro i j hi ac ak;have h:=ai i j (Nat.zero_le _) ak (by simpa using (aa.length_eq▸ac));rw [FK hi,FK ac] at h;simpa [AG] using h
 have h:Bq (f133 F xs) (fun K=>K=ys):=by
  unfold f133;rcases Nat.lt_or_ge xs.length 13 with ae | ae
  ·obtain⟨l,O⟩:=Tc F xs.length ae;refine C7 O (CP (QZ (F:=F) (n:=xs.length) (l:=l) (by omega) rfl (by omega) Y) ?_);rintro K ⟨k1,al,am⟩;obtain⟨V,g2⟩:=insertionSort_holds Kq xs.toArray 0 xs.length (Nat.zero_le _) (by simp);exact BH (fin _ K (by simpa using V) (by simpa using g2) k1)
  ·have U:xs.length=13:=by omega
   refine C7 (b:=4) (by rw [U];exact SD F) ?_;rw [U];refine CP (S1 (F:=F) (xs:=xs) ag U Y) ?_;rintro K ⟨k1,al,am⟩;obtain⟨V,g2⟩:=pdq_sorts AG Kq xs.toArray 0 13 4 true true (Nat.zero_le _) (by simp [U]) (.inl rfl);have e:xs.toArray.size=13:=by simpa using U
   exact BH (fin _ K (by rw [e];exact V) (by rw [e];exact g2) k1)
 obtain⟨K,O,rfl⟩:=h;exact O
theorem T1{J:Judge Tryz.prog}{E:LH}{a:Option Addr}{c:Nat}{g:Seg}{xs ys:List PT}(U:xs.length≤13)(V:KO xs)(O:ys.Perm xs)(hs:ys.Pairwise (fun p q=>p.1<q.1))(Y:OL 133 (rP rI (rP rI (rL (rP rI (rP (rL rI) (rN .u16)))))) E a c g xs):
  AT J 133 [.slice a xs.length c,.func (.func 134) #[] #[]] E g (fun w E' B'=>w= .tuple #[]∧OL 133 (rP rI (rP rI (rL (rP rI (rP (rL rI) (rN .u16)))))) E' a c B' ys):=by
 rcases Y.cases with⟨rfl,rfl,rfl,rfl⟩ | ⟨bk,f,rfl,rfl,hW⟩
 ·obtain rfl:ys= []:=O.eq_nil;refine(Tj (fuel:=10) (r:=()) rfl).Ad ?_;rintro w E' B' hle ⟨K,rfl⟩;exact⟨K,OL.nil⟩
 ·refine(UD hW (fuel:=4000) (SY (by omega) U V O hs)).Ad ?_;rintro w E' B' hle ⟨aa,K,rfl,Z⟩;exact⟨K,Z.1⟩
end Pal
namespace Pal
open Go Go.Conc Go.Proofs
open Go.Proofs.Tryz
open Go.Conc.Lib Go.ConcR.Gen
def GU(qs:Nat→Int×List (BS)):List (Bi):=((List.range 13).filter (fun j=>decide (0<(qs j).2.length))).map (partOf qs)
theorem Ti
  {E:LH} {k1 o2:Nat} {am an ao:Az} {ap aq ar:Nat} {au:Lv_} {U:BG} {ab:AZ} (ac:At E k1 o2 (([sV am U.1 ap,sV an U.2.1 aq]:Lv_)++au)) (aA:Aq (rL rI) E am ap U.1) (aB:Aq (rL rI) E an aq U.2.1) (aC:(rA 13 (rN .u16)).r E au U.2.2) (aD:Aq BE E ao ar ab) {fuel:Nat} {qs:Nat→Int×List (BS)} (aE:∀j,j<13→GZ fuel U ab ((j:Nat):Int)=some (qs j)):
  AT (C5 Tryz.prog) 102 [pV k1 o2,.slice ao ab.length ar] E [] (fun w E' B'=>∃a c,w= .slice a (GU qs).length c∧B'= []∧Aq Ce E' a c (GU qs)):=by
 refine Im func102 rfl rfl fun Q be cs H aF aG=>zg 2 rfl (CB aF fun aH bf aI ae aJ=>?_);refine CB aJ fun aK bg av aL aM=>?_;refine Da (S':= []) (by simp) aM fun aN=>zg 4 rfl (JS.makeChan rfl rfl rfl underlying162 (FJ type133) aN fun ch aO=>?_);refine Ci aO (Dw type162) fun rc aP=>?_;refine JS.store (v:= .chan (some ch)) (off:=0) 1 rfl rfl rfl aP rfl rfl (A3 type162) (by simp [Value.cells,AL]) rfl (Nat.le_of_ble_eq_true rfl) fun aQ=>Cn 1 aQ rfl fun V ag ah aR=>zg 3 rfl (Ci aR (Dw type171) fun wg aS=>?_);refine Da (S':= [[(ch,.chan 0 #[] false 0 0 false)],[(wg,.cells #[.int .u64 0,.int .u32 0] 171 (0,0))]]) (by simp [Value.cells]) aS fun aa=>zg 7 rfl (HB ?_);refine Hr [(2,pV aH 0),(3,pV aK 0),(5,pV rc 0),(6,pV wg 0),(11,iV ((0:Nat):Int))] rfl ?_;have aT:=aI.Aa av;have Y:=aT.Aa ag;have ai:=Nd.iff.1 aa;intro T aU;let F:Fam:=⟨wg,ch,171,13,fun j=>decide (0<(qs j).2.length),fun kk v E=>kk<13∧∃a c,v= .agg #[iV ((kk:Nat):Int),iV (qs kk).1,.slice a (qs kk).2.length c]∧Aq CW E a c (qs kk).2,fun g s=>(C5 Tryz.prog).ok Q g s⟩;refine Ty F (Nat.le_of_ble_eq_true rfl) (show 13<2147483647 by omega) ?_ ?_ (Ll (j:=1) aa rfl) (Ll (j:=0) aa rfl) ?_ (fun g s h=>h)
 ·rintro kk v bh bi aj ⟨Z,a,c,aV,ac⟩;exact⟨Z,a,c,aV,ac.Ad aj⟩
 ·intro e;have:=ai.1;simp at this;exact this e.symm
 have aW:=QR aa;show Way Tryz.prog true (Stop Tryz.prog F (.Es 0)) _ (⟨(Am V H [[(ch,.chan 0 #[] false 0 0 false)],[(wg,.cells #[.int .u64 0,.int .u32 0] 171 (0,0))]]).E,Hl (Am V H [[(ch,.chan 0 #[] false 0 0 false)],[(wg,.cells #[.int .u64 0,.int .u32 0] 171 (0,0))]]).H wg ch,false⟩:St);rw [show(Am V H [[(ch,.chan 0 #[] false 0 0 false)],[(wg,.cells #[.int .u64 0,.int .u32 0] 171 (0,0))]]).E=V from rfl,aW];have aX:Ar V H []:=trivial;refine Q9 (F:=F) rfl (ac.Ad Y) (aA.Ad Y) (aB.Ad Y) (Rp.Ad _ Y aC) (aD.Ad Y) (ae.Ad (av.Aa ag)) (aL.Ad ag) ah aE (fun j _=>rfl) (fun j aY E' a c aZ=>⟨aY,a,c,rfl,aZ⟩) (fun aw ak bj=>?_) 13 0 rfl (by decide) V Ak aX T aU;refine zg 9 rfl ?_;refine Av (v:= .func (.func 131) #[] ([.pointer (some F.sA),pV rc 0]:Lv_).toArray) rfl (fun ρ h=>HD (by simp) (by simp [h (.tmp 6) _ rfl,h (.tmp 5) _ rfl])) ?_;have ay:=SH (F:=F) (show 13<2147483648 by omega) (ah.Ad ak);refine JL.FV (fi:= #[]) rfl rfl rfl rfl rfl rfl rfl (by first | exact ay | (simp only [List.append_toArray,List.nil_append,Array.append_empty,Array.empty_append];exact ay)) ?_
 refine zg 8 rfl (Av (v:= .chan (some ch)) rfl (fun ρ h=>Yl.load JN (h _ _ rfl) (At.Iu (j:=0) (ah.Ad ak) rfl)) ?_);refine zg 2 rfl (HB ?_);refine Hr [(8,.slice none 0 0),(18,.chan (some ch))] rfl ?_;have a0:Ar aw H [[]]:=trivial;refine RN (F:=F) (Q:=Q) rfl (fun g s h=>h) (qs:=qs) (fun kk v E' h=>h.2) (fun K bl a c g a1 ai az a2 a3 a4=>?_) 13 [] [] aw none 0 [] rfl List.nodup_nil (by simp) (by decide) Ak OL.nil a0;have al:(GU qs).Perm (K.map (partOf qs)):=by
  unfold GU;refine List.Perm.map _ ?_;refine(List.perm_ext_iff_of_nodup (List.nodup_range.filter _) ai).2 fun x=>?_;constructor
  ·intro O;simp at O;exact a2 x O.1 (by simpa [F] using O.2)
  ·intro O;have Z:=az x O;simp;exact⟨Z.1,by simpa [F] using Z.2⟩
 have a5:(GU qs).Pairwise (fun p q=>p.1<q.1):=by
  unfold GU;rw [List.pairwise_map];refine List.Pairwise.filter _ (List.Pairwise.imp ?_ List.pairwise_lt_range);intro a b aj;exact Int.ofNat_lt.2 aj
 have hlen:(K.map (partOf qs)).length≤13:=by
  rw [← al.length_eq];unfold GU;rw [List.length_map];exact Nat.le_trans (List.length_filter_le _ _) (by simp)
 have a6:KO (K.map (partOf qs)):=by
  intro x O;obtain⟨j,ae,rfl⟩:=List.mem_map.1 O;have Z:=(az j ae).1;simp only [partOf];omega
 have a7:(K.map (partOf qs)).length=(GU qs).length:=al.length_eq.symm;refine zg 3 rfl ?_;refine L4 (vs:= [.slice a (K.map (partOf qs)).length c,.func (.func 134) #[] #[]]) 0 (T1 hlen a6 al a5 a3) rfl rfl rfl (Bc func133 rfl) rfl a4 rfl ?_;rintro _ bm g' a8 ⟨rfl,a9⟩ ba;refine zg 6 rfl ?_;refine BA 0 a9 ba rfl fun bn bb bc bd=>?_;refine JL.ret (v:= .slice a (K.map (partOf qs)).length c) rfl rfl (BP.list func102 rfl (vs:= [.slice a (K.map (partOf qs)).length c]) ⟨rfl,trivial⟩) ?_;exact aG _ _ _ [] ((((Y.Aa ak).Aa a1).Aa a8).Aa bb) (by simp) ⟨a,c,by rw [a7],rfl,bc⟩ bd
end Pal
namespace Pal
open Go Go.Conc Go.Proofs
open Go.Proofs.Tryz
open Go.Conc.Lib Go.ConcR.Gen
def KT(fuel:Nat)(K:BG)(O:AZ):Option (List (Bi)):=
 if(List.range 13).all (fun j=>(GZ fuel K O ((j:Nat):Int)).isSome)=true then some (GU fun j=>(GZ fuel K O ((j:Nat):Int)).getD (0,[])) else none
theorem N8
  {E:LH} {k1 o2:Nat} {V Y Z:Az} {aa ab ac:Nat} {ae:Lv_} {K:BG} {O:AZ} (aj:At E k1 o2 (([sV V K.1 aa,sV Y K.2.1 ab]:Lv_)++ae)) (ak:Aq (rL rI) E V aa K.1) (al:Aq (rL rI) E Y ab K.2.1) (am:(rA 13 (rN .u16)).r E ae K.2.2) (an:Aq BE E Z ac O) {fuel:Nat} {r:List (Bi)} (U:KT fuel K O=some r):
  AT (C5 Tryz.prog) 102 [pV k1 o2,.slice Z O.length ac] E [] (fun w E' B'=>∃(ag:Az) (ah:Nat),w= .slice ag r.length ah∧B'= []∧Aq Ce E' ag ah r):=by
 unfold KT at U;split at U
 ·rename_i ai;cases U;refine(Ti aj ak al am an (fuel:=fuel) (qs:=fun j=>(GZ fuel K O ((j:Nat):Int)).getD (0,[])) fun j ao=>?_).Ad ?_
  ·rw [List.all_eq_true] at ai;obtain⟨q,ap⟩:=Option.isSome_iff_exists.1 (ai j (List.mem_range.2 ao));rw [ap];rfl
  ·rintro w E' B' _ ⟨a,c,aq,ar,au⟩;exact⟨a,c,aq,ar,au⟩
 ·cases U
end Pal
namespace Pal
open Go Go.Conc Go.Proofs
open Go.Proofs.Tryz
def PL(fuel:Nat)(O:Bi)(K:Int×(List BS)×Int):Option (Bz (Int×(List BS)×Int) (Int×(List BS))):= if K.2.2<(O.2.2.length:Int) then((ix O.2.2 K.2.2).bind fun V=> (Iz fuel K.1 K.2.1 V O.2.1).bind fun U=> (AA (K.2.2+1)).bind fun Y=> some (.more (U.1,U.2,Y))) else(some (.done (K.1,K.2.1)))
def Po(fuel:Nat)(O:(List Bi))(K:Int×(List BS)×Int):Option (Bz (Int×(List BS)×Int) (Int×(List BS))):= if K.2.2<(O.length:Int) then((ix O K.2.2).bind fun V=> Option.bind (iter (PL fuel V) fuel (K.1,K.2.1,0)) fun U=> (AA (K.2.2+1)).bind fun Y=> some (.more (U.1,U.2,Y))) else(some (.done (K.1,K.2.1)))
def f93(fuel:Nat)(p0:BG)(p1:AZ):Option ((Int×(List BS))):= (KT fuel p0 p1).bind fun K=> Option.bind (iter (Po fuel K) fuel (0,[],0)) fun O=> some O
theorem K8{E:LH}{k1:Nat}{o2:Nat}{aG:Az}{aH:Nat}{aI:Az}{aJ:Nat}{aK:Lv_}{aL:Az}{aM:Nat}{p0:BG}{p1:AZ}(a1:At E k1 o2 (([sV aG p0.1 aH,sV aI p0.2.1 aJ]:Lv_)++aK))(a2:Aq (rL rI) E aG aH p0.1)(a3:Aq (rL rI) E aI aJ p0.2.1)(a4:(rA 13 (rN .u16)).r E aK p0.2.2)(a5:Aq BE E aL aM p1){fuel:Nat}{r:(Int×(List BS))}(aN:f93 fuel p0 p1=some r):AT (C5 Tryz.prog) 93 [pV k1 o2,sV aL p1 aM] E [] (fun w E' B'=>∃(aO:Az) (aP:Nat),w= .agg #[iV r.1,sV aO r.2 aP]∧B'= []∧Aq CW E' aO aP r.2):=by
 refine Bm func93 fun Q cn cs H a6 a7=>?_;unfold f93 at aN;refine zg 2 rfl (Ci a6 EH fun O a8=>?_);refine zg 3 rfl (Ci a8 EH fun U a9=>?_);obtain⟨aa,ba,bb⟩:=bs aN;refine zg 6 rfl (AJ (N8 a1 a2 a3 a4 a5 ba) rfl rfl (Bc func102 rfl) a9 ?_);rintro _ av _ bc ⟨aw,ay,rfl,rfl,bd⟩ be;refine BR underlying130 rfl rfl rfl ?_;obtain⟨K,bf,bg⟩:=bs bb;refine zg 2 rfl (Cc (fun L s=>∃(az:LH) (V:Az) (Y:Nat) (aA:Seg),Jn av H az [bX O #[iV 0,nS] 97,bX U #[iV K.1,sV V K.2 Y] 97,aA] [(4,pV O 0),(5,pV U 0)] L s (OL 104 CW az V Y aA K.2)) ?_ ?_)
 ·rintro _ _ ⟨az,V,Y,aA,rfl,rfl,bh,aQ,bi⟩;refine zg 2 rfl (Av rfl (fun ρ h=>EZ (vs:= [iV K.1,sV V K.2 Y]) Ha CN (h _ _ rfl) (EJ (off:=0) 1 aQ rfl rfl)) ?_);refine BI 0 aQ CN fun bj=>?_;refine JL.done (BA 2 bi bj rfl fun co bl bm bn=>?_);refine JS.drop 1 bn rfl fun aR=>?_;obtain rfl:=oi bg;refine JL.ret (v:= .agg #[iV K.1,sV V K.2 Y]) rfl rfl (BP.list func93 rfl (vs:= [.agg #[iV K.1,sV V K.2 Y]]) ⟨⟨_,rfl,Ld.many (vs:= [iV K.1,sV V K.2 Y]) Ha CN (EJ (off:=0) 0 aR rfl rfl)⟩,trivial⟩) (GQ 0 aR rfl fun bo=>?_);exact a7 ((bc.Aa bh).Aa bl) rfl ⟨V,Y,rfl,rfl,bm⟩ bo
 ·intro bp;refine JL.block (DT bf (fun L s Z=>∃(ai:LH) (ab:Az) (ac:Nat) (ae:Seg),Jn av H ai [bX O #[iV 0,nS] 97,bX U #[iV Z.1,sV ab Z.2.1 ac] 97,ae] [(4,pV O 0),(5,pV U 0),(12,sV aw aa ay),(13,iV (aa.length:Int)),(14,iV Z.2.2)] L s (OL 104 CW ai ab ac ae Z.2.1)) ⟨av,none,0,[],rfl,rfl,Ak,be,OL.nil⟩ ?_);rintro _ _ Z ⟨ai,ab,ac,ae,rfl,rfl,aB,aS,aT⟩ bq ⟨cp,aC⟩ br;have aU:=aC;unfold Po at aU;refine zg 5 rfl (A7 aU (fun bu bv=>?_) (fun bu bw=>?_))
  ·obtain⟨aV,bx,bz⟩:=bs bv;refine zg 5 rfl (C3 (bd.Ad aB) bx underlying130 AK ?_);rintro cq cr _ ⟨_,_,rfl,rfl,⟨_,_,rfl,rfl,⟨bA,bB,rfl,bC⟩⟩⟩ bD;refine BZ bD B8 AK rfl rfl (Ci aS He fun bE bF=>?_);refine BI 3 bF AK fun bG=>?_;refine Cn 3 bG rfl fun aD aE aW bH=>zg 3 rfl (BJ underlying133 CN rfl rfl rfl ?_);refine Cd 2 aW underlying97 CX DN ?_;refine BR underlying95 rfl rfl rfl ?_;obtain⟨ag,bI,bJ⟩:=bs bz;refine zg 2 rfl (Cc (fun L s=>∃(aj:LH) (ak:Az) (al:Nat) (am:Seg),Jn aD H aj [bX O #[iV 0,nS] 97,bX U #[iV ag.1,sV ak ag.2 al] 97,am] [(4,pV O 0),(5,pV U 0),(12,sV aw aa ay),(13,iV (aa.length:Int)),(14,iV Z.2.2)] L s (OL 104 CW aj ak al am ag.2)) ?_ ?_)
   ·rintro _ _ ⟨aj,ak,al,am,rfl,rfl,bK,bL,bM⟩;obtain⟨bN,bO,bP⟩:=bs bJ;refine zg 2 rfl (Bv bO rfl rfl rfl ?_);refine zg 2 rfl ?_;obtain rfl:=oi bP;exact AU (br _ _ (ag.1,ag.2,bN) ⟨aj,ak,al,am,rfl,rfl,((aB.Aa aE).Aa bK),bL,bM⟩ aC) rfl
   ·intro bQ;refine JL.block (DT bI (fun L s ah=>∃(an:LH) (ao:Az) (ap:Nat) (aq:Seg),Jn aD H an [bX O #[iV 0,nS] 97,bX U #[iV ah.1,sV ao ah.2.1 ap] 97,aq] [(4,pV O 0),(5,pV U 0),(7,pV bE 0),(12,sV aw aa ay),(13,iV (aa.length:Int)),(14,iV Z.2.2),(20,sV bA aV.2.2 bB),(21,iV (aV.2.2.length:Int)),(22,iV ah.2.2)] L s (OL 104 CW an ao ap aq ah.2.1)) ⟨aD,ab,ac,ae,rfl,rfl,Ak,bH,(aT.Ad aE)⟩ ?_);rintro _ _ ah ⟨an,ao,ap,aq,rfl,rfl,ar,aX,aY⟩ bR ⟨ct,aF⟩ bS;have aZ:=aF;unfold PL at aZ;refine zg 5 rfl (A7 aZ (fun bT bU=>?_) (fun bT bV=>?_))
    ·obtain⟨bW,bY,bZ⟩:=bs bU;refine zg 5 rfl (C3 (bC.Ad (aE.Aa ar)) bY underlying95 Cb ?_);rintro cu cv _ ⟨_,_,rfl,rfl,⟨_,_,rfl,⟨cw,cy,rfl,b0⟩,rfl⟩⟩ b1;refine BZ b1 EV Cb rfl rfl (Ci aX F1 fun cz b2=>?_);refine BI 3 b2 Cb fun b3=>?_;refine Cn 3 b3 rfl fun cA au b4 b5=>zg 2 rfl (BZ b4 EV Cb rfl rfl ?_);refine BJ underlying133 CN rfl rfl rfl (Cd 1 (aW.Ad (ar.Aa au)) underlying97 AD BV ?_);obtain⟨a0,b6,b7⟩:=bs bZ;refine Ja 1 2 rfl rfl b5 fun b8=>CZ 1 (Uc (age:=0) (aY.Ad au) (tr:=bW) (b0.Ad au) b6) rfl rfl (Bc func122 rfl) b8 rfl ?_;rintro _ b9 _ ca ⟨cb,cc,cd,rfl,rfl,ce⟩ cf;refine Ft 1 rfl cf fun cg=>?_;obtain⟨ci,ck,cm⟩:=bs b7;refine zg 3 rfl (Bv ck rfl rfl rfl ?_);refine zg 2 rfl ?_;obtain rfl:=oi cm;exact AU (bS _ _ (a0.1,a0.2,ci) ⟨b9,cb,cc,cd,rfl,rfl,((ar.Aa au).Aa ca),cg,ce⟩ aF) rfl
    ·refine JL.exit rfl ?_;obtain rfl:=oi bV;obtain rfl:=bR _ aF;exact AU (bQ _ _ ⟨an,ao,ap,aq,rfl,rfl,ar,aX,aY⟩) rfl
  ·refine JL.exit rfl ?_;obtain rfl:=oi bw;obtain rfl:=bq _ aC;exact AU (bp _ _ ⟨ai,ab,ac,ae,rfl,rfl,aB,aS,aT⟩) rfl
end Pal
namespace Pal
open Go Go.Conc Go.Proofs
open Go.Proofs.Tryz
def Hv(fuel:Nat)(p0:Ca)(p1:AZ)(p2:Int)(p3:Bool):Option ((Option BG)×(Int×(List BS))×Int):= (Gg fuel p0 p1).bind fun O=> if O≠0 then(some (none,(0,[]),O)) else((AA ((p1.length:Int) - 1)).bind fun V=> (f101 fuel p2 (-1) V).bind fun Y=> if Y=true then(some (none,(0,[]),3)) else((f92 fuel p0).bind fun Z=> (Z).bind fun U=> (f93 fuel U p1).bind fun K=> Option.bind (if(K.2.length:Int)=0 then(some (!p3)) else(some false)) fun aa=> if aa=true then(some (none,K,11)) else(some (some U,K,0))))
theorem Ip{E:LH}{am:Az}{c2:Nat}{an:Az}{ao:Nat}{ap:Az}{aq:Nat}{p0:Ca}{p1:AZ}{p2:Int}{p3:Bool}(aX:GE E)(ar:Aq (rL rI) E am c2 p0.1)(au:Aq (rL rI) E an ao p0.2)(av:Aq BE E ap aq p1){fuel:Nat}{r:(Option BG)×(Int×(List BS))×Int}(aw:Hv fuel p0 p1 p2 p3=some r):AT (C5 Tryz.prog) 78 [.agg #[sV am p0.1 c2,sV an p0.2 ao],sV ap p1 aq,iV p2,.bool p3] E [] (fun w E' B'=>∃(ay:Value) (az:Az) (aA:Nat),w= .tuple #[ay,.agg #[iV r.2.1.1,sV az r.2.1.2 aA],iV r.2.2]∧B'= []∧IN (rP (rL (rL rI)) (rP (rL (rL rI)) (rA 13 (rN .u16)))) E' ay r.1∧Aq CW E' az aA r.2.1.2):=by
 refine Bm func78 fun Q bI cs H aY ae=>?_;unfold Hv at aw;refine zg 2 rfl (CB aY fun bJ bK O aB aZ=>?_);refine zg 1 rfl (Ci aZ EH fun aC a0=>?_);refine zg 5 rfl (BZ aB CE Ch rfl rfl ?_);obtain⟨aD,a1,a2⟩:=bs aw;refine zg 1 rfl (Ba (GX (aX.Ad O) (ar.Ad O) (au.Ad O) (av.Ad O) a1) rfl rfl GH a0 fun bL V aE=>?_);refine zg 7 rfl (A7 a2 (fun a3 a4=>?_) (fun a3 a5=>?_))
 ·refine zg 2 rfl (Av (v:= .agg #[iV 0,nS]) rfl (fun ρ h=>Cl [(0,1),(1,1)] h EH underlying97 ⟨rfl,A3 type3,rfl,A3 type95,trivial⟩ rfl rfl) ?_);refine zg 2 rfl (BI 2 aE CN fun aF=>?_);refine zg 2 rfl ?_;obtain rfl:=oi a4;refine JL.ret (v:= .tuple #[.pointer none,.agg #[iV 0,nS],iV aD]) rfl rfl (BP.list func78 rfl (vs:= [.pointer none,.agg #[iV 0,nS],iV aD]) ⟨rfl,⟨_,rfl,Ld.many (vs:= [iV 0,nS]) Ha CN (EJ (off:=0) 2 aF rfl rfl)⟩,rfl,trivial⟩) (GQ 2 aF rfl fun a6=>?_);exact ae (O.Aa V) rfl ⟨.pointer none,none,0,rfl,rfl,rfl,Aq.nil⟩ a6
 ·refine zg 6 rfl (BR underlying25 rfl rfl rfl ?_);obtain⟨bM,a7,a8⟩:=bs a5;refine Cq a7 rfl rfl rfl ?_;obtain⟨bN,a9,ba⟩:=bs a8;refine Ba (Ho a9) rfl rfl Hb aE fun bO ab aG=>JL.done (BO ba (fun bb bc=>?_) (fun bb bd=>?_))
  ·refine zg 2 rfl (Av (v:= .agg #[iV 0,nS]) rfl (fun ρ h=>Cl [(0,1),(1,1)] h EH underlying97 ⟨rfl,A3 type3,rfl,A3 type95,trivial⟩ rfl rfl) ?_);refine zg 1 rfl (BI 2 aG CN fun aH=>?_);refine zg 2 rfl ?_;obtain rfl:=oi bc;refine JL.ret (v:= .tuple #[.pointer none,.agg #[iV 0,nS],iV 3]) rfl rfl (BP.list func78 rfl (vs:= [.pointer none,.agg #[iV 0,nS],iV 3]) ⟨rfl,⟨_,rfl,Ld.many (vs:= [iV 0,nS]) Ha CN (EJ (off:=0) 2 aH rfl rfl)⟩,rfl,trivial⟩) (GQ 2 aH rfl fun be=>?_);exact ae ((O.Aa V).Aa ab) rfl ⟨.pointer none,none,0,rfl,rfl,rfl,Aq.nil⟩ be
  ·refine zg 3 rfl (BZ (aB.Ad (V.Aa ab)) CE Ch rfl rfl ?_);obtain⟨bP,bf,bg⟩:=bs bd;refine AJ (Lb (ar.Ad ((O.Aa V).Aa ab)) (au.Ad ((O.Aa V).Aa ab)) bf) rfl rfl J5 aG ?_;rintro bQ bR _ ai ⟨_,rfl,rfl,bh⟩ bi;obtain⟨aj,bj,bl⟩:=bs bg;have aI:=bh;refine zg 6 rfl ?_;rw [bj] at aI;obtain⟨ag,ah,_,rfl,aJ,⟨_,_,rfl,⟨bm,bn,rfl,aK⟩,⟨_,aL,rfl,⟨aM,aN,rfl,aO⟩,aP⟩⟩⟩:=aI;obtain⟨K,bo,bp⟩:=bs bl;refine AJ (K8 aJ aK aO aP (av.Ad (((O.Aa V).Aa ab).Aa ai)) bo) rfl rfl J0 bi ?_;rintro _ bS _ ac ⟨Y,Z,rfl,rfl,aQ⟩ bq;refine Ci bq EH fun br bu=>?_;refine BI 7 bu CN fun bv=>?_;refine Cn 7 bv rfl fun ak aa al aR=>zg 4 rfl (Cd 1 al underlying97 CX DN ?_);refine BR underlying95 rfl rfl rfl ?_;obtain⟨bw,bx,bz⟩:=bs bp;refine zg 2 rfl (EK [] (fun L s=>∃(aS:LH),Jm ak H aS [bX aC #[iV 0,nS] 97] [(9,pV aC 0),(12,pV ag ah),(13,pV br 0),(39,.bool bw)] L s) ?_ ?_)
   ·rintro _ _ ⟨aS,rfl,rfl,U,aT⟩;refine JL.done (BO bz (fun bA bB=>?_) (fun bA bC=>?_))
    ·refine JL.seq (Er 2 fun ht=>?_);refine Jl 0 ht (al.Ad U) Ha CN rfl rfl rfl (CG 1 ht rfl rfl ?_);refine CU [2,3] (BI 0 aT CN fun aU=>?_);refine zg 2 rfl ?_;obtain rfl:=oi bB;refine JL.ret (v:= .tuple #[.pointer none,.agg #[iV K.1,sV Y K.2 Z],iV 11]) rfl rfl (BP.list func78 rfl (vs:= [.pointer none,.agg #[iV K.1,sV Y K.2 Z],iV 11]) ⟨rfl,⟨_,rfl,Ld.many (vs:= [iV K.1,sV Y K.2 Z]) Ha CN (EJ (off:=0) 0 aU rfl rfl)⟩,rfl,trivial⟩) (GQ 0 aU rfl fun bD=>?_);exact ae ((((((O.Aa V).Aa ab).Aa ai).Aa ac).Aa aa).Aa U) rfl ⟨.pointer none,Y,Z,rfl,rfl,rfl,(aQ.Ad (aa.Aa U))⟩ bD
    ·refine zg 2 rfl (Er 3 fun ht=>?_);refine CG 0 ht rfl rfl (Jl 1 ht (al.Ad U) Ha CN rfl rfl rfl ?_);refine CG 2 ht rfl rfl (CU [3,4] ?_);refine BI 0 aT CN fun aV=>?_;refine zg 2 rfl ?_;obtain rfl:=oi bC;refine JL.ret (v:= .tuple #[pV ag ah,.agg #[iV K.1,sV Y K.2 Z],iV 0]) rfl rfl (BP.list func78 rfl (vs:= [pV ag ah,.agg #[iV K.1,sV Y K.2 Z],iV 0]) ⟨rfl,⟨_,rfl,Ld.many (vs:= [iV K.1,sV Y K.2 Z]) Ha CN (EJ (off:=0) 0 aV rfl rfl)⟩,rfl,trivial⟩) (GQ 0 aV rfl fun bE=>?_);exact ae ((((((O.Aa V).Aa ab).Aa ai).Aa ac).Aa aa).Aa U) rfl ⟨pV ag ah,Y,Z,rfl,rfl,⟨_,_,_,rfl,(aJ.Ad ((ac.Aa aa).Aa U)),⟨[sV bm aj.1 bn],(([sV aM aj.2.1 aN]:Lv_)++aL),rfl,⟨_,_,rfl,(aK.Ad ((ac.Aa aa).Aa U))⟩,⟨[sV aM aj.2.1 aN],aL,rfl,⟨_,_,rfl,(aO.Ad ((ac.Aa aa).Aa U))⟩,(Rp.Ad _ ((ac.Aa aa).Aa U) aP)⟩⟩⟩,(aQ.Ad (aa.Aa U))⟩ bE
   ·intro aW;refine DU 36 bx (fun bF bG=>?_) (fun bF bH=>?_)
    ·refine zg 1 rfl (Av (v:= .bool (!p3)) rfl (fun ρ h=>Yl.not (h _ _ rfl)) ?_);refine zg 1 rfl ?_;obtain rfl:=oi bG;exact AU (aW _ _ ⟨ak,rfl,rfl,Ak,aR⟩) rfl
    ·refine zg 3 rfl ?_;obtain rfl:=oi bH;exact AU (aW _ _ ⟨ak,rfl,rfl,Ak,aR⟩) rfl
def IF(fuel:Nat)(p0:Ca)(p1:AZ):Option (Int×Int):= (Hv fuel p0 p1 (-1) false).bind fun K=> some (K.2.1.1,K.2.2)
theorem KM{E:LH}{O:Az}{c2:Nat}{U:Az}{V:Nat}{Y:Az}{Z:Nat}{p0:Ca}{p1:AZ}(ab:GE E)(ac:Aq (rL rI) E O c2 p0.1)(ae:Aq (rL rI) E U V p0.2)(ag:Aq BE E Y Z p1){fuel:Nat}{r:Int×Int}(aa:IF fuel p0 p1=some r):AT (C5 Tryz.prog) 47 [.agg #[sV O p0.1 c2,sV U p0.2 V],sV Y p1 Z] E [] (fun w E' B'=>w= .tuple #[iV r.1,iV r.2]∧B'= []):=by
 refine Bm func47 fun Q aw cs H ah ai=>?_;unfold IF at aa;refine zg 2 rfl (CB ah fun ay az K aj ak=>?_);refine zg 5 rfl (BZ aj CE Ch rfl rfl ?_);obtain⟨aA,al,am⟩:=bs aa;refine zg 1 rfl (AJ (Ip (ab.Ad K) (ac.Ad K) (ae.Ad K) (ag.Ad K) al) rfl rfl HZ ak ?_);rintro _ aB _ an ⟨aC,aD,aE,rfl,rfl,aF,aG⟩ ao;refine zg 4 rfl (Ci ao EH fun aH ap=>?_);refine zg 1 rfl (BI 3 ap CN fun aq=>?_);refine Cn 3 aq rfl fun aI ar au av=>zg 4 rfl (Cd 0 au underlying97 AD BV ?_);refine zg 4 rfl ?_;obtain rfl:=oi am;exact AS func47 rfl rfl (ai ((K.Aa an).Aa ar) rfl ⟨rfl,rfl⟩ av)
def II(fuel:Nat)(p0:Ca)(p1:AZ):Option ((Int×Int)×Int):= (Hv fuel p0 p1 (-1) false).bind fun K=> if K.2.2≠0 then(some ((0,0),K.2.2)) else((f87 fuel K.2.1.2).bind fun U=> (f89 fuel U).bind fun O=> (ix O (0)).bind fun V=> (AA ((O.length:Int) - 1)).bind fun Y=> (ix O Y).bind fun Z=> some ((V,Z),0))
theorem KV{E:LH}{Y:Az}{c2:Nat}{Z:Az}{aa:Nat}{ab:Az}{ac:Nat}{p0:Ca}{p1:AZ}(an:GE E)(ao:Aq (rL rI) E Y c2 p0.1)(ap:Aq (rL rI) E Z aa p0.2)(aq:Aq BE E ab ac p1){fuel:Nat}{r:(Int×Int)×Int}(ae:II fuel p0 p1=some r):AT (C5 Tryz.prog) 61 [.agg #[sV Y p0.1 c2,sV Z p0.2 aa],sV ab p1 ac] E [] (fun w E' B'=>w= .tuple #[.agg #[iV r.1.1,iV r.1.2],iV r.2]∧B'= []):=by
 refine Bm func61 fun Q a0 cs H ar ag=>?_;unfold II at ae;refine zg 2 rfl (CB ar fun a1 a2 K au av=>?_);refine Ci av Gl fun a3 aw=>?_;refine zg 4 rfl (BZ au CE Ch rfl rfl ?_);obtain⟨ah,ay,az⟩:=bs ae;refine zg 1 rfl (AJ (Ip (an.Ad K) (ao.Ad K) (ap.Ad K) (aq.Ad K) ay) rfl rfl HZ aw ?_);rintro _ a4 _ ai ⟨a5,a6,a7,rfl,rfl,a8,aA⟩ aB;refine zg 4 rfl (Ci aB EH fun a9 aC=>?_);refine zg 1 rfl (BI 4 aC CN fun aD=>?_);refine Cn 4 aD rfl fun ba V aE aj=>zg 8 rfl (A7 az (fun aF aG=>?_) (fun aF aH=>?_))
 ·refine zg 2 rfl (Av (v:= .agg #[iV 0,iV 0]) rfl (fun ρ h=>Cl [(0,1),(1,1)] h Gl underlying81 ⟨rfl,A3 type3,rfl,A3 type3,trivial⟩ rfl rfl) ?_);refine zg 1 rfl (BI 2 aj FF fun ak=>?_);refine zg 2 rfl ?_;obtain rfl:=oi aG;refine JL.ret (v:= .tuple #[.agg #[iV 0,iV 0],iV ah.2.2]) rfl rfl (BP.list func61 rfl (vs:= [.agg #[iV 0,iV 0],iV ah.2.2]) ⟨⟨_,rfl,Ld.many (vs:= [iV 0,iV 0]) HV FF (EJ (off:=0) 2 ak rfl rfl)⟩,rfl,trivial⟩) (GQ 2 ak rfl fun aI=>?_);exact ag ((K.Aa ai).Aa V) rfl ⟨rfl,rfl⟩ aI
 ·refine zg 3 rfl (Cd 1 aE underlying97 CX DN ?_);obtain⟨bb,aJ,aK⟩:=bs aH;refine Ba (P3 (aA.Ad V) aJ) rfl rfl (Bc func87 rfl) aj fun bc aL aM=>?_;obtain⟨bd,aN,aO⟩:=bs aK;refine AJ (Hs aN) rfl rfl Hd aM ?_;rintro _ be _ aP ⟨bf,bg,rfl,rfl,al⟩ aQ;refine zg 3 rfl (Er 9 fun ht=>?_);refine CG 0 ht rfl rfl ?_;obtain⟨O,aR,aS⟩:=bs aO;refine G0 1 al aR ht underlying28 AD ?_;rintro bh bi _ rfl aT;refine DV 2 ht 0 aT BV rfl rfl rfl rfl (Bt ht rfl [3,4] rfl ?_);refine Bd 5 ht rfl rfl (fun ρ h s' hs=>Yl.len rfl underlying28 (h _ _ rfl)) ?_;obtain⟨bj,aU,aV⟩:=bs aS;refine Bd 6 ht rfl rfl (fun ρ h s' hs=>Db (h _ _ rfl) (h _ _ rfl) aU) ?_;obtain⟨U,aW,aX⟩:=bs aV;refine G0 7 al aW ht underlying28 AD ?_;rintro bl bm _ rfl aY;refine DV 8 ht 0 aY BV rfl rfl rfl rfl (CU [9,10,11] ?_);refine Av (v:= .agg #[iV O,iV U]) rfl (fun ρ h=>Cl [(0,1),(1,1)] h Gl underlying81 ⟨rfl,A3 type3,rfl,A3 type3,trivial⟩ rfl rfl) (BI 2 aQ FF fun am=>?_);refine zg 2 rfl ?_;obtain rfl:=oi aX;refine JL.ret (v:= .tuple #[.agg #[iV O,iV U],iV 0]) rfl rfl (BP.list func61 rfl (vs:= [.agg #[iV O,iV U],iV 0]) ⟨⟨_,rfl,Ld.many (vs:= [iV O,iV U]) HV FF (EJ (off:=0) 2 am rfl rfl)⟩,rfl,trivial⟩) (GQ 2 am rfl fun aZ=>?_);exact ag ((((K.Aa ai).Aa V).Aa aL).Aa aP) rfl ⟨rfl,rfl⟩ aZ
def IH(fuel:Nat)(p0:Ca)(p1:AZ):Option (Int×Int):= (Hv fuel p0 p1 (-1) true).bind fun K=> some ((K.2.1.2.length:Int),K.2.2)
theorem Ky{E:LH}{O:Az}{c2:Nat}{U:Az}{V:Nat}{Y:Az}{Z:Nat}{p0:Ca}{p1:AZ}(ab:GE E)(ac:Aq (rL rI) E O c2 p0.1)(ae:Aq (rL rI) E U V p0.2)(ag:Aq BE E Y Z p1){fuel:Nat}{r:Int×Int}(aa:IH fuel p0 p1=some r):AT (C5 Tryz.prog) 28 [.agg #[sV O p0.1 c2,sV U p0.2 V],sV Y p1 Z] E [] (fun w E' B'=>w= .tuple #[iV r.1,iV r.2]∧B'= []):=by
 refine Bm func28 fun Q aw cs H ah ai=>?_;unfold IH at aa;refine zg 2 rfl (CB ah fun ay az K aj ak=>?_);refine zg 5 rfl (BZ aj CE Ch rfl rfl ?_);obtain⟨aA,al,am⟩:=bs aa;refine zg 1 rfl (AJ (Ip (ab.Ad K) (ac.Ad K) (ae.Ad K) (ag.Ad K) al) rfl rfl HZ ak ?_);rintro _ aB _ an ⟨aC,aD,aE,rfl,rfl,aF,aG⟩ ao;refine zg 4 rfl (Ci ao EH fun aH ap=>?_);refine zg 1 rfl (BI 3 ap CN fun aq=>?_);refine Cn 3 aq rfl fun aI ar au av=>zg 4 rfl (Cd 1 au underlying97 CX DN ?_);refine BR underlying95 rfl rfl rfl (zg 4 rfl ?_);obtain rfl:=oi am;exact AS func28 rfl rfl (ai ((K.Aa an).Aa ar) rfl ⟨rfl,rfl⟩ av)
def Ju(fuel:Nat)(p0:Ca)(p1:AZ):Option (Int×(List Int)×Int):= (Hv fuel p0 p1 (-1) false).bind fun K=> if K.2.2≠0 then(some (0,[],K.2.2)) else((ix K.2.1.2 (0)).bind fun O=> (ix K.2.1.2 (0)).bind fun U=> some (O.1,U.2.1,0))
theorem Mg{E:LH}{U:Az}{c2:Nat}{V:Az}{Y:Nat}{Z:Az}{aa:Nat}{p0:Ca}{p1:AZ}(al:GE E)(am:Aq (rL rI) E U c2 p0.1)(an:Aq (rL rI) E V Y p0.2)(ao:Aq BE E Z aa p1){fuel:Nat}{r:Int×(List Int)×Int}(ab:Ju fuel p0 p1=some r):AT (C5 Tryz.prog) 30 [.agg #[sV U p0.1 c2,sV V p0.2 Y],sV Z p1 aa] E [] (fun w E' B'=>∃(ac:Az) (ae:Nat),w= .tuple #[iV r.1,sV ac r.2.1 ae,iV r.2.2]∧B'= []∧Aq rI E' ac ae r.2.1):=by
 refine Bm func30 fun Q aM cs H ap ag=>?_;unfold Ju at ab;refine zg 2 rfl (CB ap fun aN aO K aq ar=>?_);refine zg 6 rfl (BZ aq CE Ch rfl rfl ?_);obtain⟨aP,au,av⟩:=bs ab;refine zg 1 rfl (AJ (Ip (al.Ad K) (am.Ad K) (an.Ad K) (ao.Ad K) au) rfl rfl HZ ar ?_);rintro _ aQ _ ah ⟨aR,aS,aT,rfl,rfl,aU,ai⟩ aw;refine zg 4 rfl (Ci aw EH fun aV ay=>?_);refine zg 1 rfl (BI 3 ay CN fun az=>?_);refine Cn 3 az rfl fun aW O aj ak=>zg 8 rfl (A7 av (fun aA aB=>?_) (fun aA aC=>?_))
 ·refine zg 7 rfl ?_;obtain rfl:=oi aB;exact AS func30 rfl rfl (ag ((K.Aa ah).Aa O) rfl ⟨none,0,rfl,rfl,Aq.nil⟩ ak)
 ·refine zg 2 rfl (Er 11 fun ht=>?_);refine BN 0 ht underlying97 CX rfl rfl rfl rfl (DV 1 ht 1 aj DN rfl rfl rfl rfl ?_);obtain⟨aX,aD,aE⟩:=bs aC;refine G0 2 (ai.Ad O) aD ht underlying95 Cb ?_;rintro aY aZ _ ⟨_,_,rfl,rfl,⟨_,_,rfl,⟨a0,a1,rfl,a2⟩,rfl⟩⟩ aF;refine BN 3 ht underlying104 AD rfl rfl rfl rfl (DV 4 ht 0 aF BV rfl rfl rfl rfl ?_);refine BN 5 ht underlying97 CX rfl rfl rfl rfl (DV 6 ht 1 aj DN rfl rfl rfl rfl ?_);obtain⟨a3,aG,aH⟩:=bs aE;refine G0 7 (ai.Ad O) aG ht underlying95 Cb ?_;rintro a4 a5 _ ⟨_,_,rfl,rfl,⟨_,_,rfl,⟨aI,aJ,rfl,aK⟩,rfl⟩⟩ aL;refine BN 8 ht underlying104 AN rfl rfl rfl rfl (DV 9 ht 1 aL EF rfl rfl rfl rfl ?_);refine CG 10 ht rfl rfl (CU [11,12] ?_);refine zg 3 rfl ?_;obtain rfl:=oi aH;exact AS func30 rfl rfl (ag ((K.Aa ah).Aa O) rfl ⟨aI,aJ,rfl,rfl,aK⟩ ak)
def Oo(fuel:Nat)(p2:Int)(O:(List Bi))(K:(List Int)×Int):Option (Bz ((List Int)×Int) ((List Int))):= if K.2<(O.length:Int) then((ix O K.2).bind fun U=> Option.bind (if U.2.1≤p2 then((room K.1 U.1).bind fun V=> some V) else(some K.1)) fun Y=> (AA (K.2+1)).bind fun Z=> some (.more (Y,Z))) else(some (.done K.1))
def IB(fuel:Nat)(p0:Ca)(p1:AZ)(p2:Int):Option ((List Int)×Int):= (Gg fuel p0 p1).bind fun K=> if K≠0 then(some ([],K)) else((f101 fuel p2 0 4).bind fun U=> if U=true then(some ([],1)) else((f92 fuel p0).bind fun V=> (V).bind fun Y=> (KT fuel Y p1).bind fun Z=> Option.bind (iter (Oo fuel p2 Z) fuel ([],0)) fun O=> if(O.length:Int)=0 then(some ([],11)) else(some (O,0))))
theorem Kz{E:LH}{az:Az}{c2:Nat}{aA:Az}{aB:Nat}{aC:Az}{aD:Nat}{p0:Ca}{p1:AZ}{p2:Int}(aZ:GE E)(aE:Aq (rL rI) E az c2 p0.1)(aF:Aq (rL rI) E aA aB p0.2)(aG:Aq BE E aC aD p1){fuel:Nat}{r:(List Int)×Int}(aH:IB fuel p0 p1 p2=some r):AT (C5 Tryz.prog) 43 [.agg #[sV az p0.1 c2,sV aA p0.2 aB],sV aC p1 aD,iV p2] E [] (fun w E' B'=>∃(aI:Az) (aJ:Nat),w= .tuple #[sV aI r.1 aJ,iV r.2]∧B'= []∧Aq rI E' aI aJ r.1):=by
 refine Bm func43 fun Q b9 cs H a0 ab=>?_;unfold IB at aH;refine zg 2 rfl (CB a0 fun ca cb K aK a1=>?_);refine zg 6 rfl (BZ aK CE Ch rfl rfl ?_);obtain⟨cc,a2,a3⟩:=bs aH;refine zg 1 rfl (Ba (GX (aZ.Ad K) (aE.Ad K) (aF.Ad K) (aG.Ad K) a2) rfl rfl GH a1 fun cd O aL=>?_);refine zg 7 rfl (A7 a3 (fun a4 a5=>?_) (fun a4 a6=>?_))
 ·refine zg 6 rfl ?_;obtain rfl:=oi a5;exact AS func43 rfl rfl (ab (K.Aa O) rfl ⟨none,0,rfl,rfl,Aq.nil⟩ aL)
 ·obtain⟨ce,a7,a8⟩:=bs a6;refine zg 5 rfl (Ba (Ho a7) rfl rfl Hb aL fun cf U aM=>?_);refine JL.done (BO a8 (fun a9 ba=>?_) (fun a9 bb=>?_))
  ·refine zg 5 rfl ?_;obtain rfl:=oi ba;exact AS func43 rfl rfl (ab ((K.Aa O).Aa U) rfl ⟨none,0,rfl,rfl,Aq.nil⟩ aM)
  ·refine zg 8 rfl (BZ (aK.Ad (O.Aa U)) CE Ch rfl rfl ?_);obtain⟨cg,bc,bd⟩:=bs bb;refine AJ (Lb (aE.Ad ((K.Aa O).Aa U)) (aF.Ad ((K.Aa O).Aa U)) bc) rfl rfl J5 aM ?_;rintro ci ck _ am ⟨_,rfl,rfl,be⟩ bf;obtain⟨cm,bg,bh⟩:=bs bd;have aN:=be;refine zg 1 rfl ?_;rw [bg] at aN;obtain⟨cn,co,_,rfl,bi,⟨_,_,rfl,⟨cp,cq,rfl,bj⟩,⟨_,cr,rfl,⟨ct,cu,rfl,bl⟩,bm⟩⟩⟩:=aN;obtain⟨ac,bn,bo⟩:=bs bh;refine AJ (N8 bi bj bl bm (aG.Ad (((K.Aa O).Aa U).Aa am)) bn) rfl rfl (Bc func102 rfl) bf ?_;rintro _ an _ aO ⟨aP,aQ,rfl,rfl,bp⟩ bq;refine BR underlying130 rfl rfl rfl ?_;obtain⟨aR,br,bu⟩:=bs bo;refine zg 2 rfl (Cc (fun L s=>∃(ao:LH) (ae:Az) (ag:Nat) (ap:Seg),Jn an H ao [ap] [(9,sV ae aR ag)] L s (OL 3 rI ao ae ag ap aR)) ?_ ?_)
   ·rintro _ _ ⟨ao,ae,ag,ap,rfl,rfl,aS,aT,bv⟩;refine zg 4 rfl (BR underlying28 rfl rfl rfl ?_);refine zg 2 rfl (A7 bu (fun bw bx=>?_) (fun bw bz=>?_))
    ·refine zg 5 rfl (JS.drop 0 aT rfl fun bA=>?_);obtain rfl:=oi bx;exact AS func43 rfl rfl (ab (((((K.Aa O).Aa U).Aa am).Aa aO).Aa aS) rfl ⟨none,0,rfl,rfl,Aq.nil⟩ bA)
    ·refine zg 7 rfl (BA 0 bv aT rfl fun cv bB bC bD=>?_);obtain rfl:=oi bz;exact AS func43 rfl rfl (ab ((((((K.Aa O).Aa U).Aa am).Aa aO).Aa aS).Aa bB) rfl ⟨ae,ag,rfl,rfl,bC⟩ bD)
   ·intro bE;refine JL.block (DT br (fun L s Z=>∃(ah:LH) (V:Az) (Y:Nat) (aa:Seg),Jn an H ah [aa] [(2,iV p2),(9,sV V Z.1 Y),(23,sV aP ac aQ),(24,iV (ac.length:Int)),(25,iV Z.2)] L s (OL 3 rI ah V Y aa Z.1)) ⟨an,none,0,[],rfl,rfl,Ak,bq,OL.nil⟩ ?_);rintro _ _ Z ⟨ah,V,Y,aa,rfl,rfl,aq,aU,ar⟩ bF ⟨cw,au⟩ bG;have aV:=au;unfold Oo at aV;refine zg 5 rfl (A7 aV (fun bH bI=>?_) (fun bH bJ=>?_))
    ·obtain⟨bK,bL,bM⟩:=bs bI;refine zg 5 rfl (C3 (bp.Ad aq) bL underlying130 AK ?_);rintro cy cz _ ⟨_,_,rfl,rfl,⟨_,_,rfl,rfl,⟨cA,cB,rfl,cC⟩⟩⟩ bN;refine BZ bN B8 AK rfl rfl (Ci aU He fun cD bO=>?_);refine BI 1 bO AK fun bP=>?_;refine Cn 1 bP rfl fun av aw aW aX=>zg 3 rfl (BJ underlying133 CN rfl rfl rfl ?_);refine Cd 1 aW underlying97 AD BV ?_;obtain⟨ay,bQ,bR⟩:=bs bM;refine zg 3 rfl (Cc (fun L s=>∃(ai:LH) (aj:Az) (ak:Nat) (al:Seg),Jn av H ai [al] [(2,iV p2),(9,sV aj ay ak),(23,sV aP ac aQ),(24,iV (ac.length:Int)),(25,iV Z.2)] L s (OL 3 rI ai aj ak al ay)) ?_ ?_)
     ·rintro _ _ ⟨ai,aj,ak,al,rfl,rfl,bS,bT,bU⟩;obtain⟨bV,bW,bY⟩:=bs bR;refine zg 2 rfl (Bv bW rfl rfl rfl ?_);refine zg 2 rfl ?_;obtain rfl:=oi bY;exact AU (bG _ _ (ay,bV) ⟨ai,aj,ak,al,rfl,rfl,((aq.Aa aw).Aa bS),bT,bU⟩ au) rfl
     ·intro aY;refine A7 bQ (fun bZ b0=>?_) (fun bZ b1=>?_)
      ·refine zg 2 rfl (Cd 0 aW underlying133 AD BV ?_);obtain⟨cE,b2,b3⟩:=bs b0;refine JS.app (pp:=rI) (v:=iV bK.1) (a:=V) (c:=Y) 0 b2 rfl rfl rfl rfl (fun _=>rfl) rfl (fun _=>rfl) rfl rfl rfl underlying28 underlying28 underlying28 AD (FJ type3) A1 rfl (by decide) (by decide) (by decide) (by decide) (ar.Ad aw) rfl aX rfl fun cF b4 b5 b6 b7 b8=>zg 2 rfl ?_;obtain rfl:=oi b3;exact AU (aY _ _ ⟨av,b4,b5,b6,rfl,rfl,Ak,b8,b7⟩) rfl
      ·refine JL.skip ?_;obtain rfl:=oi b1;exact AU (aY _ _ ⟨av,V,Y,aa,rfl,rfl,Ak,aX,(ar.Ad aw)⟩) rfl
    ·refine JL.exit rfl ?_;obtain rfl:=oi bJ;obtain rfl:=bF _ au;exact AU (bE _ _ ⟨ah,V,Y,aa,rfl,rfl,aq,aU,ar⟩) rfl
end Pal
namespace Pal
open Go Go.Conc Go.Proofs
open Go.Proofs.Tryz
end Pal
namespace Pal
open Go Go.Conc Go.Proofs
open Go.Proofs.Tryz
def K7:List Nat:= [0,1,1,2,1,2,2,3,1,2,2,3,2,3,3,4,1,2,2,3,2,3,3,4,2,3,3,4,3,4,4,5,1,2,2,3,2,3,3,4,2,3,3,4,3,4,4,5,2,3,3,4,3,4,4,5,3,4,4,5,4,5,5,6,1,2,2,3,2,3,3,4,2,3,3,4,3,4,4,5,2,3,3,4,3,4,4,5,3,4,4,5,4,5,5,6,2,3,3,4,3,4,4,5,3,4,4,5,4,5,5,6,3,4,4,5,4,5,5,6,4,5,5,6,5,6,6,7,1,2,2,3,2,3,3,4,2,3,3,4,3,4,4,5,2,3,3,4,3,4,4,5,3,4,4,5,4,5,5,6,2,3,3,4,3,4,4,5,3,4,4,5,4,5,5,6,3,4,4,5,4,5,5,6,4,5,5,6,5,6,6,7,2,3,3,4,3,4,4,5,3,4,4,5,4,5,5,6,3,4,4,5,4,5,5,6,4,5,5,6,5,6,6,7,3,4,4,5,4,5,5,6,4,5,5,6,5,6,6,7,4,5,5,6,5,6,6,7,5,6,6,7,6,7,7,8]
def f86(fuel:Nat)(p0:Nat):Option Int:= (Jw K7 ((((p0>>>8):Nat):Int))).bind fun K=> (Js p0 (255)).bind fun O=> (Jw K7 ((((O):Nat):Int))).bind fun U=> (AA ((((K+U) % 256):Nat):Int)).bind fun V=> some V
theorem UI{E:LH}{p0:Nat}{fuel:Nat}{r:Int}(K:f86 fuel p0=some r):AT (C5 Tryz.prog) 86 [uV p0] E [] (fun w E' B'=>w=iV r∧B'= []):=by
 refine Bm func86 fun Q al cs H V Y=>?_;unfold f86 at K;refine zg 5 rfl (Er 6 fun ht=>?_);refine CG 0 ht rfl rfl (Bd (v:= .int .u16 ((p0>>>8:Nat):Int)) 1 ht rfl rfl (fun ρ h s' hs=>R2 8 (h _ _ rfl) (h _ _ rfl) (by decide)) ?_);obtain⟨O,Z,aa⟩:=bs K;refine Bd (v:= .int .u8 ((O:Nat):Int)) 2 ht rfl rfl (fun ρ h s' hs=>LV (l:=K7) (by decide+kernel) underlying9 (h _ _ rfl) (h _ _ rfl) Z) (CG 3 ht rfl rfl ?_);obtain⟨ab,ac,ae⟩:=bs aa;refine Bd (v:= uV ab) 4 ht rfl rfl (fun ρ h s' hs=>LS (h _ _ rfl) (h _ _ rfl) ac) ?_;obtain⟨U,ag,ah⟩:=bs ae;refine Bd (v:= .int .u8 ((U:Nat):Int)) 5 ht rfl rfl (fun ρ h s' hs=>LV (l:=K7) (by decide+kernel) underlying9 (h _ _ rfl) (h _ _ rfl) ag) (CU [6,7,8] ?_);refine Av (v:= .int .u8 (((O+U) % 256:Nat):Int)) rfl (fun ρ h=>SA (h _ _ rfl) (h _ _ rfl)) ?_;obtain⟨ai,aj,ak⟩:=bs ah;refine Av (v:=iV ai) rfl (fun ρ h=>OY underlying5 underlying3 (h _ _ rfl) aj) (zg 2 rfl ?_);obtain rfl:=oi ak;exact AS func86 rfl rfl (Y Ak rfl ⟨rfl,rfl⟩ V)
end Pal
namespace Pal
open Go Go.Conc Go.Proofs
open Go.Proofs.Tryz
def f85(fuel:Nat)(p0:Nat):Option Int:= (f86 fuel p0).bind fun K=> some K
theorem P2{E:LH}{p0:Nat}{fuel:Nat}{r:Int}(K:f85 fuel p0=some r):AT (C5 Tryz.prog) 85 [uV p0] E [] (fun w E' B'=>w=iV r∧B'= []):=by
 refine Bm func85 fun Q ab cs H O U=>?_;unfold f85 at K;obtain⟨ac,V,Y⟩:=bs K;refine zg 7 rfl (Ba (UI V) rfl rfl (Bc func86 rfl) O fun ae Z aa=>?_);refine zg 2 rfl ?_;obtain rfl:=oi Y;exact AS func85 rfl rfl (U Z rfl ⟨rfl,rfl⟩ aa)
end Pal
namespace Pal
open Go Go.Conc Go.Proofs
open Go.Proofs.Tryz
end Pal
namespace Pal
open Go Go.Conc Go.Proofs
open Go.Proofs.Tryz
variable {J:Judge Tryz.prog}{E:LH}
def Lj(fuel:Nat)(p0:AZ):Option ((AZ)):= (Ff ([]:AZ) p0).bind fun K=> some K
theorem S2{ad:Addr}{c2:Nat}{p0:AZ}(V:Aq BE E (some ad) c2 p0){fuel:Nat}{r:(AZ)}(K:Lj fuel p0=some r):AT J 123 [.slice (some ad) p0.length c2] E [] (fun w E' B'=>∃(O:Az) (U:Nat) (g0:Seg),w= sV O r U∧B'=g0∧OL 27 BE E' O U g0 r):=by
 refine Bm func123 fun Q al cs H Y Z=>?_;unfold Lj at K;refine zg 8 rfl (Av (v:= .bool false) rfl (fun ρ h=>Ki (a:=(some ad)) underlying25 (h _ _ rfl) (h _ _ rfl)) ?_);refine zg 5 rfl (OQ (pp:=BE) rfl rfl rfl underlying25 CJ Y fun am g2 aa ab=>?_);obtain⟨an,ac,ae⟩:=bs K;refine zg 1 rfl (OE (pp:=BE) 1 ac rfl rfl rfl rfl rfl rfl rfl underlying25 underlying25 CJ (FJ type27) Du rfl (by decide) (by decide) aa V ab rfl fun ag ah ai aj ak=>?_);refine zg 2 rfl ?_;obtain rfl:=oi ae;exact AS func123 rfl rfl (Z Ak rfl ⟨ag,ah,ai,rfl,(by first | rfl | simp | (simp [Value.cells])),aj⟩ ak)
def P5(fuel:Nat)(p0:AZ):Option ((AZ)):= some ([])
theorem TD{c2:Nat}{p0:AZ}(Z:Aq BE E none c2 p0){fuel:Nat}{r:(AZ)}(K:P5 fuel p0=some r):AT J 123 [sV none p0 c2] E [] (fun w E' B'=>∃(O:Az) (U:Nat) (g0:Seg),w= sV O r U∧B'=g0∧OL 27 BE E' O U g0 r):=by
 refine Bm func123 fun Q aa cs H V Y=>?_;unfold P5 at K;refine zg 8 rfl (Av (v:= .bool true) rfl (fun ρ h=>Ki (a:=none) underlying25 (h _ _ rfl) (h _ _ rfl)) ?_);refine zg 6 rfl ?_;obtain rfl:=oi K;exact AS func123 rfl rfl (Y Ak rfl ⟨none,0,[],rfl,rfl,OL.nil⟩ V)
def f123(fuel:Nat)(p0:AZ):Option AZ:=Lj fuel p0
theorem Uu{O:Az}{c2:Nat}{p0:AZ}(U:Aq BE E O c2 p0){fuel:Nat}{r:AZ}(K:f123 fuel p0=some r):AT J 123 [.slice O p0.length c2] E [] (fun w E' B'=>∃(V:Az) (Y:Nat) (g0:Seg),w= .slice V r.length Y∧B'=g0∧OL 27 BE E' V Y g0 r):=by
 cases O with
 | some ad=>exact S2 U K
 | none=>
  have Z:p0= []:=by
   rcases U.2 with h | ⟨_,_,h,_⟩
   ·exact h.1
   ·cases h
  subst Z;have aa:r= []:=by
   have ab:Lj fuel []=some []:=rfl;unfold f123 at K;rw [ab] at K;exact(Option.some.inj K).symm
  subst aa;exact TD (fuel:=fuel) U rfl
end Pal
namespace Pal
open Go Go.Conc Go.Proofs
open Go.Proofs.Tryz
variable {J:Judge Tryz.prog}{E:LH}
def f125(fuel:Nat)(p0:Int×Int)(p1:Int×Int):Option Int:= (AA (p0.1 - p1.1)).bind fun K=> some K
theorem UC{p0:Int×Int}{p1:Int×Int}{fuel:Nat}{r:Int}(K:f125 fuel p0 p1=some r):AT J 125 [.agg #[iV p0.1,iV p0.2],.agg #[iV p1.1,iV p1.2]] E [] (fun w E' B'=>w=iV r∧B'= []):=by
 refine Bm func125 fun Q ah cs H U V=>?_;unfold f125 at K;refine zg 2 rfl (CB U fun ai aj Y Z aa=>?_);refine CB aa fun ak al O ab ac=>?_;refine zg 4 rfl (Cd 0 (Z.Ad O) underlying27 AD BV ?_);refine Cd 0 ab underlying27 AD BV ?_;obtain⟨am,ae,ag⟩:=bs K;refine Cq ae rfl rfl rfl (zg 2 rfl ?_);obtain rfl:=oi ag;exact AS func125 rfl rfl (V (Y.Aa O) rfl ⟨rfl,rfl⟩ ac)
def O0(fuel:Nat)(p1:Int)(K:Int×(AZ)):Option (Bz (Int×(AZ)) ((AZ))):= Option.bind (if p1<K.1 then((ix K.2 K.1).bind fun V=> (AA (K.1 - 1)).bind fun Y=> (ix K.2 Y).bind fun Z=> (f125 fuel V Z).bind fun aa=> some (decide (aa<0))) else(some false)) fun ab=> if ab=true then((AA (K.1 - 1)).bind fun O=> (AA (K.1 - 1)).bind fun ac=> (ix K.2 ac).bind fun U=> (ix K.2 K.1).bind fun ae=> (ix (K.2.set (Int.toNat K.1) U) O).bind fun ah=> (AA (K.1 - 1)).bind fun ag=> some (.more (ag,((K.2.set (Int.toNat K.1) U).set (Int.toNat O) ae)))) else(some (.done K.2))
def OZ(fuel:Nat)(p1:Int)(p2:Int)(K:Int×(AZ)):Option (Bz (Int×(AZ)) ((AZ))):= if K.1<p2 then(Option.bind (iter (O0 fuel p1) fuel K) fun O=> (AA (K.1+1)).bind fun U=> some (.more (U,O))) else(some (.done K.2))
def f168(fuel:Nat)(p0:AZ)(p1:Int)(p2:Int):Option ((AZ)):= (AA (p1+1)).bind fun K=> Option.bind (iter (OZ fuel p1 p2) fuel (K,p0)) fun O=> some O
theorem Pe{K:Nat}{U:Nat}{V:Nat}{ap:Aw}{p0:AZ}{p1:Int}{p2:Int}(hW:WL 27 BE E K U V ap p0){fuel:Nat}{r:(AZ)}(ay:f168 fuel p0 p1 p2=some r):AT J 168 [.slice (Aj K) V U,iV p1,iV p2,(fV 125)] E [(K,.cells ap 27 (0,0))] (fun w E' B'=>∃(az:Aw),w= .tuple #[]∧B'= [(K,.cells az 27 (0,0))]∧WL 27 BE E' K U V az r):=by
 refine Bm func168 fun Q bP cs H aO aP=>?_;unfold f168 at ay;obtain⟨bQ,aQ,aR⟩:=bs ay;refine zg 3 rfl (Bv aQ rfl rfl rfl ?_);obtain⟨aS,aT,aU⟩:=bs aR;refine zg 2 rfl (Cc (fun L s=>∃(aq:LH) (f17:Aw),Jn E H aq [bX K f17 27] [] L s (WL 27 BE aq K U V f17 aS)) ?_ ?_)
 ·rintro _ _ ⟨aq,f17,rfl,rfl,aV,aW,aX⟩;obtain rfl:=oi aU;exact JL.fin (v:= .tuple #[]) rfl rfl (BP.list func168 rfl (vs:= []) trivial) (aP aV rfl ⟨f17,rfl,(by first | rfl | simp | (simp [Value.cells])),aX⟩ aW)
 ·intro aY;refine JL.block (DT aT (fun L s ac=>∃(ab:LH) (f25:Aw),Jn E H ab [bX K f25 27] [(0,.slice (Aj K) V U),(1,iV p1),(2,iV p2),(3,(fV 125)),(8,iV ac.1)] L s (WL 27 BE ab K U V f25 ac.2)) ⟨E,ap,rfl,rfl,Ak,aO,hW⟩ ?_);rintro _ _ ac ⟨ab,f25,rfl,rfl,aA,aB,aC⟩ aZ ⟨bR,ar⟩ a0;have aD:=ar;unfold OZ at aD;refine zg 7 rfl (A7 aD (fun a1 a2=>?_) (fun a1 a3=>?_))
  ·obtain⟨aE,a4,a5⟩:=bs a2;refine zg 8 rfl (Cc (fun L s=>∃(aj:LH) (f48:Aw),Jn ab H aj [bX K f48 27] [(0,.slice (Aj K) V U),(1,iV p1),(2,iV p2),(3,(fV 125)),(8,iV ac.1)] L s (WL 27 BE aj K U V f48 aE)) ?_ ?_)
   ·rintro _ _ ⟨aj,f48,rfl,rfl,a6,a7,a8⟩;obtain⟨a9,ba,bb⟩:=bs a5;refine zg 3 rfl (Bv ba rfl rfl rfl ?_);refine zg 2 rfl ?_;obtain rfl:=oi bb;exact AU (a0 _ _ (a9,aE) ⟨aj,f48,rfl,rfl,(aA.Aa a6),a7,a8⟩ ar) rfl
   ·intro bc;refine JL.block (DT a4 (fun L s Y=>∃(ag:LH) (f58:Aw),Jn ab H ag [bX K f58 27] [(0,.slice (Aj K) V U),(1,iV p1),(2,iV p2),(3,(fV 125)),(8,iV ac.1),(9,iV Y.1)] L s (WL 27 BE ag K U V f58 Y.2)) ⟨ab,f25,rfl,rfl,Ak,aB,aC⟩ ?_);rintro _ _ Y ⟨ag,f58,rfl,rfl,aF,ah,O⟩ bd ⟨bS,au⟩ be;have aG:=au;unfold O0 at aG;refine zg 2 rfl (Dr 17 [K] ⟨⟨0,_,rfl⟩,trivial⟩ ah fun ht=>?_);refine Bt ht rfl [0,1,2,3] rfl ?_;obtain⟨bf,aH,bg⟩:=bs aG;refine Fq 0 #[true,true,true,true,true,true,true,true,true,true,true,true,true,true,true,true,true] (fun L s=>∃(ak:LH),Jm ag H ak [bX K f58 27] [(0,.slice (Aj K) V U),(1,iV p1),(2,iV p2),(3,(fV 125)),(8,iV ac.1),(9,iV Y.1),(34,.bool bf)] L s) ?_ ?_
    ·rintro _ _ ⟨ak,rfl,rfl,ae,al⟩;refine AQ.fin (by decide+kernel) (BO bg (fun bh bi=>?_) (fun bh bj=>?_))
     ·refine zg 3 rfl (F5 [15,17] [K] mixed rfl ?_);refine Bh 0 rfl rfl (Bh 1 rfl rfl ?_);refine Bh 2 rfl rfl (Bh 3 rfl rfl ?_);obtain⟨aI,bl,bm⟩:=bs bi;refine FR 4 true rfl rfl (fun ρ h s' hs=>Db (h _ _ rfl) (h _ _ rfl) bl) (Bh 5 rfl rfl ?_);refine Bh 6 rfl rfl ?_;obtain⟨bT,bn,bo⟩:=bs bm;refine FR 7 true rfl rfl (fun ρ h s' hs=>Db (h _ _ rfl) (h _ _ rfl) bn) ?_;obtain⟨Z,aJ,bp⟩:=bs bo;obtain⟨_,⟨_,_,rfl,rfl,rfl⟩,bq⟩:=WL.at (O.Ad ae) aJ;refine Cg 8 O.2 aJ underlying25 CJ ?_;refine Dy 9 [iV Z.1,iV Z.2] 0 al bq HW CJ ?_;refine Bh 10 rfl rfl (Bh 11 rfl rfl ?_);obtain⟨aa,am,br⟩:=bs bp;obtain⟨_,⟨_,_,rfl,rfl,rfl⟩,bu⟩:=WL.at (O.Ad ae) am;refine Cg 12 O.2 am underlying25 CJ ?_;refine Dy 13 [iV aa.1,iV aa.2] 0 al bu HW CJ ?_;refine Cg 14 O.2 am underlying25 CJ ?_;have ai:=WL.put (x':=Z) (ws':= [iV Z.1,iV Z.2]) (O.Ad ae) O.2 am ⟨_,_,rfl,rfl,rfl⟩;refine Dz 15 0 al CJ ai.2 fun bv=>?_;obtain⟨bU,av,bw⟩:=bs br;obtain⟨_,⟨_,_,rfl,rfl,rfl⟩,bV⟩:=WL.at ai.1 av;refine Cg 16 (ai.1).2 av underlying25 CJ ?_;have aK:=WL.put (x':=aa) (ws':= [iV aa.1,iV aa.2]) ai.1 (ai.1).2 av ⟨_,_,rfl,rfl,rfl⟩;refine Dz 17 0 bv CJ aK.2 fun bx=>?_;refine JB.fin (by decide+kernel) ?_;obtain⟨bz,bA,bB⟩:=bs bw;refine zg 3 rfl (Cq bA rfl rfl rfl ?_);refine zg 2 rfl ?_;obtain rfl:=oi bB;exact AU (be _ _ (bz,((Y.2.set (Int.toNat Y.1) Z).set (Int.toNat aI) aa)) ⟨ak,(AI (AI f58 (Int.toNat (Y.1)*2) [iV Z.1,iV Z.2]) (Int.toNat (aI)*2) [iV aa.1,iV aa.2]),rfl,rfl,(aF.Aa ae),bx,aK.1⟩ au) rfl
     ·refine JL.exit rfl ?_;obtain rfl:=oi bj;obtain rfl:=bd _ au;exact AU (bc _ _ ⟨ak,f58,rfl,rfl,(aF.Aa ae),al,(O.Ad ae)⟩) rfl
    ·intro aL;refine FH (q:=p1<Y.1) (i:=21) rfl (fun aw=>?_) (fun aw=>?_)
     ·have bC:=ip aH aw;refine Bt ht rfl [4,5,6] rfl ?_;obtain⟨an,aM,bD⟩:=bs bC;obtain⟨_,⟨_,_,rfl,rfl,rfl⟩,bE⟩:=WL.at O aM;refine Fe 7 ht (O).2 aM underlying25 CJ ?_;refine Dl 8 ht [iV an.1,iV an.2] 0 ah bE HW CJ ?_;refine Bt ht rfl [9,10] rfl ?_;obtain⟨bW,bF,bG⟩:=bs bD;refine Bd 11 ht rfl rfl (fun ρ h s' hs=>Db (h _ _ rfl) (h _ _ rfl) bF) ?_;obtain⟨ao,aN,bH⟩:=bs bG;obtain⟨_,⟨_,_,rfl,rfl,rfl⟩,bI⟩:=WL.at O aN;refine Fe 12 ht (O).2 aN underlying25 CJ ?_;refine Dl 13 ht [iV ao.1,iV ao.2] 0 ah bI HW CJ ?_;obtain⟨bY,bJ,bK⟩:=bs bH;refine GK (i:=14) ⟨⟨0,_,rfl⟩,trivial⟩ (vs:= [.agg #[iV an.1,iV an.2],.agg #[iV ao.1,iV ao.2]]) (UC bJ) (by decide+kernel) rfl rfl rfl rfl (Bc func125 rfl) rfl ah ?_;rintro _ bL _ bM ⟨rfl,rfl⟩ bN;refine Bt ht rfl [15,16] rfl ?_;obtain rfl:=oi bK;refine Dp ?_ (aL _ _ ⟨bL,rfl,rfl,bM,bN⟩);exact⟨rfl,rfl,rfl,rfl,rfl,rfl,rfl,trivial⟩
     ·have bO:=im aH aw;refine Bt ht rfl [4,5,6,7,8,9,10,11,12,13,14,15,16] rfl ?_;obtain rfl:=oi bO;refine Dp ?_ (aL _ _ ⟨ag,rfl,rfl,Ak,ah⟩);exact⟨rfl,rfl,rfl,rfl,rfl,rfl,rfl,trivial⟩
  ·refine JL.exit rfl ?_;obtain rfl:=oi a3;obtain rfl:=aZ _ ar;exact AU (aY _ _ ⟨ab,f25,rfl,rfl,aA,aB,aC⟩) rfl
def OP(fuel:Nat)(p1:Int)(K:Int×Int×(AZ)):Option (Bz (Int×Int×(AZ)) (Int×(AZ))):= if K.2.1≤p1 then((f168 fuel K.2.2 K.1 K.2.1).bind fun O=> (AA (K.2.1+20)).bind fun U=> some (.more (K.2.1,U,O))) else(some (.done (K.1,K.2.2)))
def OV(fuel:Nat)(p1:Int)(K:Int)(O:Int)(U:Unit):Option (Bz Unit Unit):= if O≤p1 then((AA (0+K)).bind fun V=> none) else(some (.done ()))
def OR(fuel:Nat)(p1:Int)(K:Int):Option (Bz Int Unit):= if K<p1 then((AA (2*K)).bind fun O=> Option.bind (iter (OV fuel p1 K O) fuel ()) fun Y=> (AA (0+K)).bind fun U=> Option.bind (if U<p1 then(none) else(some ())) fun Z=> (AA (K*2)).bind fun V=> some (.more V)) else(some (.done ()))
def f138(fuel:Nat)(p0:AZ)(p1:Int):Option ((AZ)):= Option.bind (iter (OP fuel p1) fuel (0,20,p0)) fun K=> (f168 fuel K.2 K.1 p1).bind fun O=> Option.bind (iter (OR fuel p1) fuel 20) fun U=> some O
theorem UA{K:Nat}{O:Nat}{U:Nat}{aa:Aw}{p0:AZ}{p1:Int}(hW:WL 27 BE E K O U aa p0){fuel:Nat}{r:(AZ)}(ag:f138 fuel p0 p1=some r):AT J 138 [.slice (Aj K) U O,iV p1,(fV 125)] E [(K,.cells aa 27 (0,0))] (fun w E' B'=>∃(ah:Aw),w= .tuple #[]∧B'= [(K,.cells ah 27 (0,0))]∧WL 27 BE E' K O U ah r):=by
 refine Bm func138 fun Q bF cs H aw ay=>?_;unfold f138 at ag;obtain⟨ai,az,aA⟩:=bs ag;refine zg 11 rfl (Cc (fun L s=>∃(ab:LH) (f15:Aw),Jn E H ab [bX K f15 27] [(0,.slice (Aj K) U O),(1,iV p1),(2,(fV 125)),(6,iV 20),(7,iV ai.1)] L s (WL 27 BE ab K O U f15 ai.2)) ?_ ?_)
 ·rintro _ _ ⟨ab,f15,rfl,rfl,aB,aC,aD⟩;obtain⟨bG,aE,aF⟩:=bs aA;refine zg 6 rfl (CZ 0 (Pe aD aE) rfl rfl JW aC rfl ?_);rintro _ bH _ aG ⟨f23,rfl,rfl,aH⟩ aI;obtain⟨bI,aJ,aK⟩:=bs aF;refine JL.done (Cw [bX K f23 27] [] (fun bJ aj aL=>?_) (fun aM=>?_))
  ·obtain rfl:=oi aK;exact JL.fin (v:= .tuple #[]) rfl rfl (BP.list func138 rfl (vs:= []) trivial) (ay ((aB.Aa aG).Aa aj) rfl ⟨f23,rfl,(by first | rfl | simp | (simp [Value.cells])),(aH.Ad aj)⟩ aL)
  ·refine JL.block (CC aJ (fun V=> [bX K f23 27]) (fun V=> [(0,.slice (Aj K) U O),(1,iV p1),(2,(fV 125)),(6,iV V)]) Ak aI ?_);rintro V bK ak al aN ⟨bL,ac⟩ aO;have am:=ac;unfold OR at am;refine zg 7 rfl (A7 am (fun aP aQ=>?_) (fun aP aR=>?_))
   ·obtain⟨aS,aT,aU⟩:=bs aQ;refine zg 5 rfl (Av rfl (fun ρ h=>HH (h _ _ rfl) (h _ _ rfl) aT) ?_);obtain⟨bM,aV,aW⟩:=bs aU;refine zg 4 rfl (Cw [bX K f23 27] [(0,.slice (Aj K) U O),(1,iV p1),(2,(fV 125)),(6,iV V),(7,iV 0)] (fun bN aX aY=>?_) (fun aZ=>?_))
    ·obtain⟨bO,a0,a1⟩:=bs aW;refine zg 5 rfl (Bv a0 rfl rfl rfl ?_);obtain⟨bP,a2,a3⟩:=bs a1;refine zg 8 rfl (Cw [bX K f23 27] [(0,.slice (Aj K) U O),(1,iV p1),(2,(fV 125)),(6,iV V)] (fun bQ a4 a5=>?_) (fun a6=>?_))
     ·obtain⟨a7,a8,a9⟩:=bs a3;refine zg 2 rfl (Av rfl (fun ρ h=>HH (h _ _ rfl) (h _ _ rfl) a8) ?_);refine zg 3 rfl ?_;obtain rfl:=oi a9;exact aO a7 ((ak.Aa aX).Aa a4) a5 rfl ac
     ·refine A7 a2 (fun ba bb=>?_) (fun ba bc=>?_)
      ·refine zg 6 rfl ?_;cases bb
      ·refine JL.skip ?_;obtain rfl:=oi bc;exact a6 Ak aY rfl
    ·refine JL.block (CC aV (fun an=> [bX K f23 27]) (fun an=> [(0,.slice (Aj K) U O),(1,iV p1),(2,(fV 125)),(6,iV V),(7,iV 0),(8,iV aS)]) Ak al ?_);rintro an bR bd be bf ⟨bS,ao⟩ bT;have ap:=ao;unfold OV at ap;refine zg 7 rfl (A7 ap (fun bg bh=>?_) (fun bg bi=>?_))
     ·obtain⟨bU,bj,bl⟩:=bs bh;refine zg 8 rfl (Bv bj rfl rfl rfl ?_);refine zg 2 rfl ?_;cases bl
     ·refine JL.exit rfl ?_;obtain rfl:=oi bi;obtain rfl:=bf _ ao;exact aZ bd be rfl
   ·refine JL.exit rfl ?_;obtain rfl:=oi aR;obtain rfl:=aN _ ac;exact aM ak al rfl
 ·intro bm;refine JL.block (DT az (fun L s Y=>∃(Z:LH) (f104:Aw),Jn E H Z [bX K f104 27] [(0,.slice (Aj K) U O),(1,iV p1),(2,(fV 125)),(6,iV 20),(7,iV Y.1),(8,iV Y.2.1)] L s (WL 27 BE Z K O U f104 Y.2.2)) ⟨E,aa,rfl,rfl,Ak,aw,hW⟩ ?_);rintro _ _ Y ⟨Z,f104,rfl,rfl,aq,ar,au⟩ bn ⟨bV,ae⟩ bo;have av:=ae;unfold OP at av;refine zg 7 rfl (A7 av (fun bp bq=>?_) (fun bp br=>?_))
  ·obtain⟨bu,bv,bw⟩:=bs bq;refine zg 8 rfl (CZ 0 (Pe au bv) rfl rfl JW ar rfl ?_);rintro _ bx _ bz ⟨f119,rfl,rfl,bA⟩ bB;obtain⟨bC,bD,bE⟩:=bs bw;refine zg 9 rfl (Bv bD rfl rfl rfl ?_);refine zg 3 rfl ?_;obtain rfl:=oi bE;exact AU (bo _ _ (Y.2.1,bC,bu) ⟨bx,f119,rfl,rfl,(aq.Aa bz),bB,bA⟩ ae) rfl
  ·refine JL.exit rfl ?_;obtain rfl:=oi br;obtain rfl:=bn _ ae;exact AU (bm _ _ ⟨Z,f104,rfl,rfl,aq,ar,au⟩) rfl
def f124(fuel:Nat)(p0:AZ):Option ((AZ)):= (f138 fuel p0 (p0.length:Int)).bind fun K=> some K
theorem Ux{K:Nat}{O:Nat}{U:Nat}{V:Aw}{p0:AZ}(hW:WL 27 BE E K O U V p0){fuel:Nat}{r:(AZ)}(Y:f124 fuel p0=some r):AT J 124 [.slice (Aj K) U O,(fV 125)] E [(K,.cells V 27 (0,0))] (fun w E' B'=>∃(Z:Aw),w= .tuple #[]∧B'= [(K,.cells Z 27 (0,0))]∧WL 27 BE E' K O U Z r):=by
 refine Bm func124 fun Q aj cs H aa ab=>?_;unfold f124 at Y;refine zg 3 rfl (Av (v:=iV (p0.length:Int)) rfl (fun ρ h=>OB (hW).2 rfl underlying25 (h _ _ rfl)) ?_);obtain⟨ak,ac,ae⟩:=bs Y;refine zg 1 rfl (CZ 0 (UA hW ac) rfl rfl (Bc func138 rfl) aa rfl ?_);rintro _ al _ ag ⟨f7,rfl,rfl,ah⟩ ai;refine JL.done ?_;obtain rfl:=oi ae;exact JL.fin (v:= .tuple #[]) rfl rfl (BP.list func124 rfl (vs:= []) trivial) (ab ag rfl ⟨f7,rfl,(by first | rfl | simp | (simp [Value.cells])),ah⟩ ai)
def NZ(fuel:Nat)(p1:Int)(K:Int)(U:Unit):Option (Bz Unit Unit):= Option.bind (if p1<K then(none) else(some false)) fun O=> if O=true then((AA (K - 1)).bind fun V=> (AA (K - 1)).bind fun Y=> none) else(some (.done ()))
def NO(fuel:Nat)(p1:Int)(p2:Int)(K:Int):Option (Bz Int Unit):= if K<p2 then(Option.bind (iter (NZ fuel p1 K) fuel ()) fun U=> (AA (K+1)).bind fun O=> some (.more O)) else(some (.done ()))
def Li(fuel:Nat)(p1:Int)(p2:Int):Option Unit:= (AA (p1+1)).bind fun K=> Option.bind (iter (NO fuel p1 p2) fuel K) fun O=> some ()
theorem OJ{p1:Int}{p2:Int}{fuel:Nat}{r:Unit}(V:Li fuel p1 p2=some r):AT J 168 [nS,iV p1,iV p2,(fV 125)] E [] (fun w E' B'=>w= .tuple #[]∧B'= []):=by
 refine Bm func168 fun Q aZ cs H aj ak=>?_;unfold Li at V;obtain⟨a0,al,am⟩:=bs V;refine zg 3 rfl (Bv al rfl rfl rfl ?_);obtain⟨a1,an,ao⟩:=bs am;refine zg 2 rfl (Cw [] [] (fun a2 ap aq=>?_) (fun ar=>?_))
 ·obtain rfl:=oi ao;exact JL.fin (v:= .tuple #[]) rfl rfl (BP.list func168 rfl (vs:= []) trivial) (ak ap rfl ⟨rfl,rfl⟩ aq)
 ·refine JL.block (CC an (fun K=> []) (fun K=> [(0,.slice none 0 0),(1,iV p1),(2,iV p2),(3,(fV 125)),(8,iV K)]) Ak aj ?_);rintro K a3 Y Z au ⟨a4,O⟩ av;have aa:=O;unfold NO at aa;refine zg 7 rfl (A7 aa (fun aw ay=>?_) (fun aw az=>?_))
  ·obtain⟨a5,aA,aB⟩:=bs ay;refine zg 8 rfl (Cw [] [(0,.slice none 0 0),(1,iV p1),(2,iV p2),(3,(fV 125)),(8,iV K)] (fun a6 aC aD=>?_) (fun aE=>?_))
   ·obtain⟨aF,aG,aH⟩:=bs aB;refine zg 3 rfl (Bv aG rfl rfl rfl ?_);refine zg 2 rfl ?_;obtain rfl:=oi aH;exact av aF (Y.Aa aC) aD rfl O
   ·refine JL.block (CC aA (fun ab=> []) (fun ab=> [(0,.slice none 0 0),(1,iV p1),(2,iV p2),(3,(fV 125)),(8,iV K),(9,iV K)]) Ak Z ?_);rintro ab ac aI aJ aK ⟨a7,ae⟩ a8;have ag:=ae;unfold NZ at ag;refine zg 2 rfl (Er 17 fun ht=>?_);refine Bt ht rfl [0,1,2,3] rfl ?_;obtain⟨aL,ah,aM⟩:=bs ag;refine Fq 0 #[true,true,true,true,true,true,true,true,true,true,true,true,true,true,true,true,true] (fun L s=>∃(ai:LH),Jm ac H ai [] [(0,.slice none 0 0),(1,iV p1),(2,iV p2),(3,(fV 125)),(8,iV K),(9,iV K),(34,.bool aL)] L s) ?_ ?_
    ·rintro _ _ ⟨ai,rfl,rfl,aN,aO⟩;refine AQ.fin (by decide+kernel) (BO aM (fun aP aQ=>?_) (fun aP aR=>?_))
     ·refine zg 3 rfl (Er 16 fun ht=>?_);refine Bt ht rfl [0,1,2,3] rfl ?_;obtain⟨a9,aS,aT⟩:=bs aQ;refine Bd 4 ht rfl rfl (fun ρ h s' hs=>Db (h _ _ rfl) (h _ _ rfl) aS) (Bt ht rfl [5,6] rfl ?_);obtain⟨ba,aU,aV⟩:=bs aT;refine Bd 7 ht rfl rfl (fun ρ h s' hs=>Db (h _ _ rfl) (h _ _ rfl) aU) ?_;cases aV
     ·refine JL.exit rfl ?_;obtain rfl:=oi aR;obtain rfl:=aK _ ae;exact aE (aI.Aa aN) aO rfl
    ·intro aW;refine FH (q:=p1<K) (i:=21) rfl (fun U=>?_) (fun U=>?_)
     ·have aX:=ip ah U;refine Bt ht rfl [4,5,6] rfl ?_;cases aX
     ·have aY:=im ah U;refine Bt ht rfl [4,5,6,7,8,9,10,11,12,13,14,15,16] rfl ?_;obtain rfl:=oi aY;refine Dp ?_ (aW _ _ ⟨ac,rfl,rfl,Ak,aJ⟩);exact⟨rfl,rfl,rfl,rfl,rfl,rfl,rfl,trivial⟩
  ·refine JL.exit rfl ?_;obtain rfl:=oi az;obtain rfl:=au _ O;exact ar Y Z rfl
def Of(fuel:Nat)(p1:Int)(K:Int×Int):Option (Bz (Int×Int) Int):= if K.2≤p1 then((Li fuel K.1 K.2).bind fun U=> (AA (K.2+20)).bind fun O=> some (.more (K.2,O))) else(some (.done K.1))
def NQ(fuel:Nat)(p1:Int)(K:Int)(O:Int)(U:Unit):Option (Bz Unit Unit):= if O≤p1 then((AA (0+K)).bind fun V=> none) else(some (.done ()))
def NM(fuel:Nat)(p1:Int)(K:Int):Option (Bz Int Unit):= if K<p1 then((AA (2*K)).bind fun O=> Option.bind (iter (NQ fuel p1 K O) fuel ()) fun Y=> (AA (0+K)).bind fun U=> Option.bind (if U<p1 then(none) else(some ())) fun Z=> (AA (K*2)).bind fun V=> some (.more V)) else(some (.done ()))
def Mv(fuel:Nat)(p1:Int):Option Unit:= Option.bind (iter (Of fuel p1) fuel (0,20)) fun K=> (Li fuel K p1).bind fun O=> Option.bind (iter (NM fuel p1) fuel 20) fun U=> some ()
theorem Th{p1:Int}{fuel:Nat}{r:Unit}(Y:Mv fuel p1=some r):AT J 138 [nS,iV p1,(fV 125)] E [] (fun w E' B'=>w= .tuple #[]∧B'= []):=by
 refine Bm func138 fun Q bp cs H ak al=>?_;unfold Mv at Y;obtain⟨am,an,ao⟩:=bs Y;refine zg 11 rfl (Cw [] [(0,.slice none 0 0),(1,iV p1),(2,(fV 125)),(6,iV 20),(7,iV am)] (fun bq ap aq=>?_) (fun ar=>?_))
 ·obtain⟨br,au,av⟩:=bs ao;refine zg 6 rfl (Ba (OJ au) rfl rfl JW aq fun bu aw ay=>?_);obtain⟨bv,az,aA⟩:=bs av;refine JL.done (Cw [] [] (fun bw aB aC=>?_) (fun aD=>?_))
  ·obtain rfl:=oi aA;exact JL.fin (v:= .tuple #[]) rfl rfl (BP.list func138 rfl (vs:= []) trivial) (al ((ap.Aa aw).Aa aB) rfl ⟨rfl,rfl⟩ aC)
  ·refine JL.block (CC az (fun K=> []) (fun K=> [(0,.slice none 0 0),(1,iV p1),(2,(fV 125)),(6,iV K)]) Ak ay ?_);rintro K bx Z aa aE ⟨bz,U⟩ aF;have ab:=U;unfold NM at ab;refine zg 7 rfl (A7 ab (fun aG aH=>?_) (fun aG aI=>?_))
   ·obtain⟨aJ,aK,aL⟩:=bs aH;refine zg 5 rfl (Av rfl (fun ρ h=>HH (h _ _ rfl) (h _ _ rfl) aK) ?_);obtain⟨bA,aM,aN⟩:=bs aL;refine zg 4 rfl (Cw [] [(0,.slice none 0 0),(1,iV p1),(2,(fV 125)),(6,iV K),(7,iV 0)] (fun bB aO aP=>?_) (fun aQ=>?_))
    ·obtain⟨bC,aR,aS⟩:=bs aN;refine zg 5 rfl (Bv aR rfl rfl rfl ?_);obtain⟨bD,aT,aU⟩:=bs aS;refine zg 8 rfl (Cw [] [(0,.slice none 0 0),(1,iV p1),(2,(fV 125)),(6,iV K)] (fun bE aV aW=>?_) (fun aX=>?_))
     ·obtain⟨aY,aZ,a0⟩:=bs aU;refine zg 2 rfl (Av rfl (fun ρ h=>HH (h _ _ rfl) (h _ _ rfl) aZ) ?_);refine zg 3 rfl ?_;obtain rfl:=oi a0;exact aF aY ((Z.Aa aO).Aa aV) aW rfl U
     ·refine A7 aT (fun a1 a2=>?_) (fun a1 a3=>?_)
      ·refine zg 6 rfl ?_;cases a2
      ·refine JL.skip ?_;obtain rfl:=oi a3;exact aX Ak aP rfl
    ·refine JL.block (CC aM (fun ac=> []) (fun ac=> [(0,.slice none 0 0),(1,iV p1),(2,(fV 125)),(6,iV K),(7,iV 0),(8,iV aJ)]) Ak aa ?_);rintro ac bF a4 a5 a6 ⟨bG,ae⟩ bH;have ag:=ae;unfold NQ at ag;refine zg 7 rfl (A7 ag (fun a7 a8=>?_) (fun a7 a9=>?_))
     ·obtain⟨bI,ba,bb⟩:=bs a8;refine zg 8 rfl (Bv ba rfl rfl rfl ?_);refine zg 2 rfl ?_;cases bb
     ·refine JL.exit rfl ?_;obtain rfl:=oi a9;obtain rfl:=a6 _ ae;exact aQ a4 a5 rfl
   ·refine JL.exit rfl ?_;obtain rfl:=oi aI;obtain rfl:=aE _ U;exact aD Z aa rfl
 ·refine JL.block (CC an (fun O=> []) (fun O=> [(0,.slice none 0 0),(1,iV p1),(2,(fV 125)),(6,iV 20),(7,iV O.1),(8,iV O.2)]) Ak ak ?_);rintro O bJ ah ai bc ⟨bK,V⟩ bd;have aj:=V;unfold Of at aj;refine zg 7 rfl (A7 aj (fun be bf=>?_) (fun be bg=>?_))
  ·obtain⟨bL,bh,bi⟩:=bs bf;refine zg 8 rfl (Ba (OJ bh) rfl rfl JW ai fun bM bj bl=>?_);obtain⟨bm,bn,bo⟩:=bs bi;refine zg 9 rfl (Bv bn rfl rfl rfl ?_);refine zg 3 rfl ?_;obtain rfl:=oi bo;exact bd (O.2,bm) (ah.Aa bj) bl rfl V
  ·refine JL.exit rfl ?_;obtain rfl:=oi bg;obtain rfl:=bc _ V;exact ar ah ai rfl
def P1(fuel:Nat):Option Unit:= (Mv fuel ((0:Nat):Int)).bind fun K=> some ()
theorem SR{fuel:Nat}{r:Unit}(K:P1 fuel=some r):AT J 124 [nS,(fV 125)] E [] (fun w E' B'=>w= .tuple #[]∧B'= []):=by
 refine Bm func124 fun Q ab cs H O U=>?_;unfold P1 at K;refine zg 3 rfl (BR underlying25 rfl rfl rfl ?_);obtain⟨ac,V,Y⟩:=bs K;refine zg 1 rfl (Ba (Th V) rfl rfl (Bc func138 rfl) O fun ae Z aa=>?_);refine JL.done ?_;obtain rfl:=oi Y;exact JL.fin (v:= .tuple #[]) rfl rfl (BP.list func124 rfl (vs:= []) trivial) (U Z rfl ⟨rfl,rfl⟩ aa)
theorem TC{J:Judge Tryz.prog}{E:LH}{a:Az}{c:Nat}{g:Seg}{p0:AZ}(V:OL 27 BE E a c g p0){fuel:Nat}{r:AZ}(K:f124 fuel p0=some r):
  AT J 124 [.slice a p0.length c,.func (.func 125) #[] #[]] E g (fun w E' B'=>w= .tuple #[]∧OL 27 BE E' a c B' r∧r.length=p0.length):=by
 rcases V.cases with⟨rfl,rfl,rfl,rfl⟩ | ⟨bk,f,rfl,rfl,hW⟩
 ·have Y:r= []:=by
   cases fuel with
   | zero=>exact absurd K (by simp [f124,f138,iter])
   | succ fuel=>
    cases fuel with
    | zero=>exact(Option.some.inj (K.symm.trans (by rfl:f124 1 []=some []))).trans rfl
    | succ fuel=>exact(Option.some.inj (K.symm.trans (by rfl:f124 (fuel+2) []=some []))).trans rfl
  subst Y;refine(SR (fuel:=10) (r:=()) rfl).Ad ?_;rintro w E' B' hle ⟨O,rfl⟩;exact⟨O,OL.nil,rfl⟩
 ·refine(Ux hW K).Ad ?_;rintro w E' B' hle ⟨Z,O,rfl,U⟩;exact⟨O,U.1,U.2⟩
end Pal
namespace Pal
open Go Go.Conc Go.Proofs
open Go.Proofs.Tryz
def f94(fuel:Nat)(p0:AZ)(p1:AZ):Option ((AZ)):= (Ff p0 p1).bind fun K=> (f123 fuel K).bind fun O=> (f124 fuel O).bind fun U=> some U
theorem UW{E:LH}{K:Az}{c2:Nat}{O:Az}{U:Nat}{p0:AZ}{p1:AZ}(Z:Aq BE E K c2 p0)(ak:Aq BE E O U p1){fuel:Nat}{r:(AZ)}(ac:f94 fuel p0 p1=some r):AT (C5 Tryz.prog) 94 [sV K p0 c2,sV O p1 U] E [] (fun w E' B'=>∃(ae:Az) (ag:Nat),w= sV ae r ag∧B'= []∧Aq BE E' ae ag r):=by
 refine Bm func94 fun Q aI cs H al am=>?_;unfold f94 at ac;refine zg 8 rfl (BR underlying25 rfl rfl rfl ?_);refine zg 1 rfl (BR underlying25 rfl rfl rfl ?_);refine Av (v:= .slice K p0.length p0.length) rfl (fun ρ h=>QQ (Aq.spot Z) (And.left Z) underlying25 CJ (h _ _ rfl) (h _ _ rfl) (h _ _ rfl)) ?_;obtain⟨ah,an,ao⟩:=bs ac;refine zg 1 rfl (Q6 (pp:=BE) an rfl rfl rfl rfl rfl rfl rfl underlying25 underlying25 CJ (FJ type27) Du rfl (by decide) (by decide) Z ak al fun aJ ai aj ap aq ar=>?_);obtain⟨aK,au,av⟩:=bs ao;refine zg 5 rfl (AJ (Uu aq au) rfl rfl (Bc func123 rfl) ar ?_);rintro _ aL _ aw ⟨V,Y,aM,rfl,rfl,ay⟩ az;obtain⟨aa,aA,aB⟩:=bs av;refine zg 5 rfl (CZ 2 (TC ay aA) rfl rfl (Bc func124 rfl) az rfl ?_);rintro _ aN aO aC ⟨rfl,aD,ab⟩ aE;refine Ie (L':= [(17,.tuple #[]),(0,.slice K p0.length c2),(1,.slice O p1.length U),(4,.slice none 0 0),(6,.slice K p0.length c2),(7,.slice K p0.length c2),(8,iV (p0.length:Int)),(9,.slice K p0.length c2),(10,iV (p0.length:Int)),(11,.slice K p0.length p0.length),(12,.slice O p1.length U),(13,.slice ai ah.length aj),(5,.slice V aa.length Y),(14,.slice ai ah.length aj),(15,.slice V aa.length Y),(16,.slice V aa.length Y)]) ⟨rfl,rfl,rfl,rfl,rfl,rfl,rfl,rfl,rfl,rfl,rfl,rfl,by rw [ab];rfl,rfl,by rw [ab];rfl,by rw [ab];rfl,trivial⟩ ?_;refine zg 6 rfl (BA 2 aD aE rfl fun aP aF aG aH=>?_);obtain rfl:=oi aB;exact AS func94 rfl rfl (am (((ap.Aa aw).Aa aC).Aa aF) rfl ⟨V,Y,rfl,rfl,aG⟩ aH)
end Pal
namespace Pal
open Go Go.Conc Go.Proofs
open Go.Proofs.Tryz
def OG(fuel:Nat)(p2:Int)(O:(Option BG)×(Int×(List BS))×Int)(K:Int×Int):Option (Bz (Int×Int) Int):= if K.2<(O.2.1.2.length:Int) then((ix O.2.1.2 K.2).bind fun U=> (f103 fuel U.2.2 p2).bind fun V=> Option.bind (if V=true then((AA (K.1+1)).bind fun Y=> some Y) else(some K.1)) fun Z=> (AA (K.2+1)).bind fun aa=> some (.more (Z,aa))) else(some (.done K.1))
def IG(fuel:Nat)(p0:Ca)(p1:AZ)(p2:Int):Option (Int×Int):= (Gg fuel p0 p1).bind fun U=> if U≠0 then(some (0,U)) else((AA ((p1.length:Int) - 1)).bind fun V=> (f101 fuel p2 0 V).bind fun Y=> if Y=true then(some (0,3)) else((Hv fuel p0 p1 p2 false).bind fun K=> if K.2.2≠0 then(some (0,K.2.2)) else(Option.bind (iter (OG fuel p2 K) fuel (0,0)) fun O=> Option.bind (Option.bind (Option.bind (if 0<O then(some (decide (O<(K.2.1.2.length:Int)))) else(some false)) fun Z=> if Z=true then((AA (0+1)).bind fun aa=> (AA (aa+1)).bind fun ab=> some ab) else(if O=0 then((AA (0+1)).bind fun ac=> some ac) else(some 0))) fun ae=> (AA (ae+1)).bind fun ag=> some ag) fun ah=> some (ah,0))))
theorem KS{E:LH}{aj:Az}{c2:Nat}{ak:Az}{al:Nat}{am:Az}{an:Nat}{p0:Ca}{p1:AZ}{p2:Int}(ao:GE E)(ap:Aq (rL rI) E aj c2 p0.1)(aq:Aq (rL rI) E ak al p0.2)(ar:Aq BE E am an p1){fuel:Nat}{r:Int×Int}(au:IG fuel p0 p1 p2=some r):AT (C5 Tryz.prog) 49 [.agg #[sV aj p0.1 c2,sV ak p0.2 al],sV am p1 an,iV p2] E [] (fun w E' B'=>w= .tuple #[iV r.1,iV r.2]∧B'= []):=by
 refine Bm func49 fun Q cf cs H aN Y=>?_;unfold IG at au;refine zg 2 rfl (CB aN fun cg ci K av aO=>?_);refine zg 6 rfl (BZ av CE Ch rfl rfl ?_);obtain⟨ck,aP,aQ⟩:=bs au;refine zg 1 rfl (Ba (GX (ao.Ad K) (ap.Ad K) (aq.Ad K) (ar.Ad K) aP) rfl rfl GH aO fun cm O aw=>?_);refine zg 7 rfl (A7 aQ (fun aR aS=>?_) (fun aR aT=>?_))
 ·refine zg 6 rfl ?_;obtain rfl:=oi aS;exact AS func49 rfl rfl (Y (K.Aa O) rfl ⟨rfl,rfl⟩ aw)
 ·refine zg 6 rfl (BR underlying25 rfl rfl rfl ?_);obtain⟨cn,aU,aV⟩:=bs aT;refine Cq aU rfl rfl rfl ?_;obtain⟨co,aW,aX⟩:=bs aV;refine Ba (Ho aW) rfl rfl Hb aw fun cp U ay=>JL.done (BO aX (fun aY aZ=>?_) (fun aY a0=>?_))
  ·refine zg 5 rfl ?_;obtain rfl:=oi aZ;exact AS func49 rfl rfl (Y ((K.Aa O).Aa U) rfl ⟨rfl,rfl⟩ ay)
  ·refine zg 3 rfl (BZ (av.Ad (O.Aa U)) CE Ch rfl rfl ?_);obtain⟨Z,a1,a2⟩:=bs a0;refine zg 2 rfl (AJ (Ip (ao.Ad ((K.Aa O).Aa U)) (ap.Ad ((K.Aa O).Aa U)) (aq.Ad ((K.Aa O).Aa U)) (ar.Ad ((K.Aa O).Aa U)) a1) rfl rfl HZ ay ?_);rintro _ cq _ az ⟨cr,aA,aB,rfl,rfl,ct,a3⟩ a4;refine zg 4 rfl (Ci a4 EH fun aa a5=>?_);refine zg 1 rfl (BI 5 a5 CN fun a6=>?_);refine Cn 5 a6 rfl fun cu ab aC aD=>zg 8 rfl (A7 a2 (fun a7 a8=>?_) (fun a7 a9=>?_))
   ·refine zg 6 rfl ?_;obtain rfl:=oi a8;exact AS func49 rfl rfl (Y ((((K.Aa O).Aa U).Aa az).Aa ab) rfl ⟨rfl,rfl⟩ aD)
   ·refine zg 8 rfl (Cd 1 aC underlying97 CX DN ?_);refine BR underlying95 rfl rfl rfl ?_;obtain⟨aE,ba,bb⟩:=bs a9;refine zg 2 rfl (Cw [] [(10,pV aa 0),(12,iV aE)] (fun cv aF aG=>?_) (fun bc=>?_))
    ·obtain⟨bd,be,bf⟩:=bs bb;refine zg 5 rfl (Cw [] [(15,iV bd)] (fun cw bg bh=>?_) (fun bi=>?_))
     ·refine zg 6 rfl ?_;obtain rfl:=oi bf;exact AS func49 rfl rfl (Y ((((((K.Aa O).Aa U).Aa az).Aa ab).Aa aF).Aa bg) rfl ⟨rfl,rfl⟩ bh)
     ·obtain⟨bj,bl,bm⟩:=bs be;refine zg 2 rfl (Cw [] [(15,iV bj)] (fun cy bn bo=>?_) (fun ac=>?_))
      ·obtain⟨cz,bp,bq⟩:=bs bm;refine zg 3 rfl (Bv bp rfl rfl rfl ?_);refine zg 3 rfl ?_;obtain rfl:=oi bq;exact bi bn bo rfl
      ·obtain⟨br,bu,bv⟩:=bs bl;refine zg 12 rfl (Bj 9 1 [] [(12,iV aE),(15,iV 0),(61,.bool br)] (fun cA ae ag=>?_) (fun aH=>?_))
       ·refine zg 2 rfl (BO bv (fun bw bx=>?_) (fun bw bz=>?_))
        ·obtain⟨cB,bA,bB⟩:=bs bx;refine zg 3 rfl (Bv bA rfl rfl rfl ?_);obtain⟨cC,bC,bD⟩:=bs bB;refine zg 5 rfl (Bv bC rfl rfl rfl ?_);refine zg 3 rfl ?_;obtain rfl:=oi bD;exact ac ae ag rfl
        ·refine zg 7 rfl (A7 bz (fun bE bF=>?_) (fun bE bG=>?_))
         ·obtain⟨cD,bH,bI⟩:=bs bF;refine zg 3 rfl (Bv bH rfl rfl rfl ?_);refine zg 3 rfl ?_;obtain rfl:=oi bI;exact ac ae ag rfl
         ·refine zg 2 rfl ?_;obtain rfl:=oi bG;exact ac ae ag rfl
       ·refine DU 55 bu (fun bJ bK=>?_) (fun bJ bL=>?_)
        ·refine zg 1 rfl (Cd 1 (aC.Ad aF) underlying97 CX DN ?_);refine BR underlying95 rfl rfl rfl (zg 2 rfl ?_);obtain rfl:=oi bK;exact aH Ak aG rfl
        ·refine zg 6 rfl ?_;obtain rfl:=oi bL;exact aH Ak aG rfl
    ·refine JL.block (CC ba (fun V=> []) (fun V=> [(2,iV p2),(10,pV aa 0),(12,iV V.1),(39,sV aA Z.2.1.2 aB),(40,iV (Z.2.1.2.length:Int)),(41,iV V.2)]) Ak aD ?_);rintro V cE ah aI bM ⟨cF,ai⟩ bN;have aJ:=ai;unfold OG at aJ;refine zg 5 rfl (A7 aJ (fun bO bP=>?_) (fun bO bQ=>?_))
     ·obtain⟨cG,bR,bS⟩:=bs bP;refine zg 5 rfl (C3 (a3.Ad (ab.Aa ah)) bR underlying95 Cb ?_);rintro cH cI _ ⟨_,_,rfl,rfl,⟨_,_,rfl,⟨cJ,cK,rfl,cM⟩,rfl⟩⟩ bT;refine BZ bT EV Cb rfl rfl (Ci aI F1 fun cN bU=>?_);refine BI 0 bU Cb fun bV=>?_;refine Cn 0 bV rfl fun cO bW bY bZ=>zg 3 rfl (Cd 2 bY underlying104 Dv FE ?_);obtain⟨cP,b0,b1⟩:=bs bS;refine zg 1 rfl (Ba (KF b0) rfl rfl JU bZ fun cQ b2 aK=>?_);obtain⟨aL,b3,b4⟩:=bs b1;refine JL.done (Cw [] [(2,iV p2),(10,pV aa 0),(12,iV aL),(39,sV aA Z.2.1.2 aB),(40,iV (Z.2.1.2.length:Int)),(41,iV V.2)] (fun cR b5 b6=>?_) (fun aM=>?_))
      ·obtain⟨b7,b8,b9⟩:=bs b4;refine zg 2 rfl (Bv b8 rfl rfl rfl ?_);refine zg 2 rfl ?_;obtain rfl:=oi b9;exact bN (aL,b7) (((ah.Aa bW).Aa b2).Aa b5) b6 rfl ai
      ·refine BO b3 (fun ca cb=>?_) (fun ca cc=>?_)
       ·obtain⟨cT,cd,ce⟩:=bs cb;refine zg 2 rfl (Bv cd rfl rfl rfl ?_);refine zg 2 rfl ?_;obtain rfl:=oi ce;exact aM Ak aK rfl
       ·refine JL.skip ?_;obtain rfl:=oi cc;exact aM Ak aK rfl
     ·refine JL.exit rfl ?_;obtain rfl:=oi bQ;obtain rfl:=bM _ ai;exact bc ah aI rfl
def Ou(fuel:Nat)(V:BS)(U:(List Int))(K:(List Nat)×Int):Option (Bz ((List Nat)×Int) ((List Nat))):= if K.2<(U.length:Int) then((ix U K.2).bind fun O=> (ix K.1 O).bind fun Y=> (f90 fuel Y V.1).bind fun Z=> (ix K.1 O).bind fun ab=> (AA (K.2+1)).bind fun aa=> some (.more ((K.1.set (Int.toNat O) Z),aa))) else(some (.done K.1))
def On(fuel:Nat)(O:(Option BG)×(Int×(List BS))×Int)(V:BG)(Y:Int×Int×Int)(K:(List Nat)×Int):Option (Bz ((List Nat)×Int) ((List Nat))):= if K.2<(O.2.1.2.length:Int) then((ix O.2.1.2 K.2).bind fun U=> (f88 fuel V U Y.2.2).bind fun Z=> (f89 fuel Z).bind fun aa=> Option.bind (iter (Ou fuel U aa) fuel (K.1,0)) fun ab=> (AA (K.2+1)).bind fun ac=> some (.more (ab,ac))) else(some (.done K.1))
def OA(fuel:Nat)(O:(List Nat))(K:Int×Int):Option (Bz (Int×Int) Int):= if K.2<8 then((ix O K.2).bind fun U=> (f85 fuel U).bind fun V=> (AA (K.2+1)).bind fun Y=> some (.more (max K.1 V,Y))) else(some (.done K.1))
def Ow(fuel:Nat)(V:(Option BG)×(Int×(List BS))×Int)(Y:BG)(K:Int×Int×Int):Option (Bz (Int×Int×Int) (Int×Int)):= if K.2.2<7 then(Option.bind (iter (On fuel V Y K) fuel ((List.replicate 8 (0:Nat)),0)) fun Z=> Option.bind (iter (OA fuel Z) fuel (0,0)) fun O=> Option.bind (if O<K.2.1 then(some (K.2.2,O)) else(some (K.1,K.2.1))) fun U=> (AA (K.2.2+1)).bind fun aa=> some (.more (U.1,U.2,aa))) else(some (.done (K.1,K.2.1)))
def JD(fuel:Nat)(p0:Ca)(p1:AZ):Option (Int×Int×Int):= (Hv fuel p0 p1 (-1) false).bind fun K=> if K.2.2≠0 then(some (0,0,K.2.2)) else((f87 fuel K.2.1.2).bind fun U=> (f85 fuel U).bind fun V=> (K.1).bind fun Y=> Option.bind (iter (Ow fuel K Y) fuel ((-1),V,0)) fun O=> if O.1<0 then(some (0,0,11)) else(some (O.1,O.2,0)))
theorem Mj{E:LH}{aT:Az}{c2:Nat}{aU:Az}{aV:Nat}{aW:Az}{aX:Nat}{p0:Ca}{p1:AZ}(bu:GE E)(bv:Aq (rL rI) E aT c2 p0.1)(bw:Aq (rL rI) E aU aV p0.2)(bx:Aq BE E aW aX p1){fuel:Nat}{r:Int×Int×Int}(aY:JD fuel p0 p1=some r):AT (C5 Tryz.prog) 35 [.agg #[sV aT p0.1 c2,sV aU p0.2 aV],sV aW p1 aX] E [] (fun w E' B'=>w= .tuple #[iV r.1,iV r.2.1,iV r.2.2]∧B'= []):=by
 refine Bm func35 fun Q dL cs H bz aF=>?_;unfold JD at aY;refine zg 2 rfl (CB bz fun dM dN aa bA bB=>?_);refine zg 6 rfl (BZ bA CE Ch rfl rfl ?_);obtain⟨ag,bC,bD⟩:=bs aY;refine zg 1 rfl (AJ (Ip (bu.Ad aa) (bv.Ad aa) (bw.Ad aa) (bx.Ad aa) bC) rfl rfl HZ bB ?_);rintro _ dO _ aG ⟨dP,aH,aI,rfl,rfl,bE,aZ⟩ bF;refine zg 4 rfl (Ci bF EH fun U bG=>?_);refine zg 1 rfl (BI 3 bG CN fun bH=>?_);refine Cn 3 bH rfl fun dQ ah a0 a1=>zg 8 rfl (A7 bD (fun bI bJ=>?_) (fun bI bK=>?_))
 ·refine zg 7 rfl ?_;obtain rfl:=oi bJ;exact AS func35 rfl rfl (aF ((aa.Aa aG).Aa ah) rfl ⟨rfl,rfl⟩ a1)
 ·refine zg 8 rfl (Cd 1 a0 underlying97 CX DN ?_);obtain⟨bL,bM,bN⟩:=bs bK;refine Ba (P3 (aZ.Ad ah) bM) rfl rfl (Bc func87 rfl) a1 fun dR am bO=>?_;obtain⟨dS,bP,bQ⟩:=bs bN;refine I8 (vs:= [uV bL]) (P2 bP) rfl rfl rfl rfl (Bc func85 rfl) rfl bO ?_;rintro _ dT _ an ⟨rfl,rfl⟩ bR;obtain⟨dU,bS,bT⟩:=bs bQ;have a2:=(bE.Ad ((ah.Aa am).Aa an));refine zg 11 rfl ?_;rw [bS] at a2;obtain⟨V,Y,_,rfl,bU,⟨_,_,rfl,⟨dV,dW,rfl,bV⟩,⟨_,dX,rfl,⟨dY,dZ,rfl,bW⟩,bY⟩⟩⟩:=a2;obtain⟨a3,bZ,b0⟩:=bs bT;refine Cw [] [(4,iV a3.1),(10,iV a3.2)] (fun ea a4 a5=>?_) (fun b1=>?_)
  ·refine zg 6 rfl (A7 b0 (fun b2 b3=>?_) (fun b2 b4=>?_))
   ·refine zg 6 rfl ?_;obtain rfl:=oi b3;exact AS func35 rfl rfl (aF (((((aa.Aa aG).Aa ah).Aa am).Aa an).Aa a4) rfl ⟨rfl,rfl⟩ a5)
   ·refine zg 9 rfl ?_;obtain rfl:=oi b4;exact AS func35 rfl rfl (aF (((((aa.Aa aG).Aa ah).Aa am).Aa an).Aa a4) rfl ⟨rfl,rfl⟩ a5)
  ·refine JL.block (CC bZ (fun K=> []) (fun K=> [(4,iV K.1),(7,pV V Y),(8,pV U 0),(9,(fV 85)),(10,iV K.2.1),(35,iV K.2.2)]) Ak bR ?_);rintro K av Z a6 b5 ⟨eb,aJ⟩ b6;have a7:=aJ;unfold Ow at a7;refine zg 5 rfl (A7 a7 (fun b7 b8=>?_) (fun b7 b9=>?_))
   ·refine zg 10 rfl (Ci a6 (Dw type114) fun O ca=>?_);refine zg 4 rfl (Cd 1 (a0.Ad ((am.Aa an).Aa Z)) underlying97 CX DN ?_);refine BR underlying95 rfl rfl rfl ?_;obtain⟨cb,cc,cd⟩:=bs b8;refine zg 2 rfl (Cc (fun L s=>∃(aK:LH) (ao:Lv_),Jn av H aK [bX O (([]:Lv_)++ao).toArray 114] [(4,iV K.1),(7,pV V Y),(8,pV U 0),(9,(fV 85)),(10,iV K.2.1),(11,iV K.2.2),(12,pV O 0),(35,iV K.2.2)] L s ((rA 8 (rN .u16)).r aK ao cb)) ?_ ?_)
    ·rintro _ _ ⟨aK,ao,rfl,rfl,ce,a8,a9⟩;refine zg 7 rfl (Av (v:= .agg ao.toArray) rfl (fun ρ h=>Ia (kk:=8) (pp:=(rN .u16)) a9 (Dc underlying114) (A3 type114) (h _ _ rfl) (Kn (l:= []) 0 a8 rfl)) ?_);obtain⟨cf,cg,ci⟩:=bs cd;refine zg 2 rfl (Cw [] [(4,iV K.1),(7,pV V Y),(8,pV U 0),(9,(fV 85)),(10,iV K.2.1),(11,iV K.2.2),(17,iV cf),(35,iV K.2.2)] (fun ec ck ba=>?_) (fun cm=>?_))
     ·obtain⟨aw,cn,co⟩:=bs ci;refine zg 6 rfl (Cw [] [(4,iV aw.1),(7,pV V Y),(8,pV U 0),(9,(fV 85)),(10,iV aw.2),(35,iV K.2.2)] (fun ed cp cq=>?_) (fun bb=>?_))
      ·obtain⟨cr,ct,cu⟩:=bs co;refine zg 2 rfl (Bv ct rfl rfl rfl ?_);refine zg 2 rfl ?_;obtain rfl:=oi cu;exact b6 (aw.1,aw.2,cr) (((Z.Aa ce).Aa ck).Aa cp) cq rfl aJ
      ·refine A7 cn (fun cv cw=>?_) (fun cv cy=>?_)
       ·refine zg 6 rfl ?_;obtain rfl:=oi cw;exact bb Ak ba rfl
       ·refine JL.skip ?_;obtain rfl:=oi cy;exact bb Ak ba rfl
     ·refine JL.block (JS.drop 0 a8 rfl fun cz=>?_);refine CC cg (fun ai=> []) (fun ai=> [(4,iV K.1),(7,pV V Y),(8,pV U 0),(9,(fV 85)),(10,iV K.2.1),(11,iV K.2.2),(17,iV ai.1),(35,iV K.2.2),(65,.agg ao.toArray),(66,iV ai.2)]) Ak cz ?_;rintro ai ee aL bc cA ⟨ef,aM⟩ cB;have bd:=aM;unfold OA at bd;refine zg 5 rfl (A7 bd (fun cC cD=>?_) (fun cC cE=>?_))
      ·obtain⟨cF,cG,cH⟩:=bs cD;refine zg 5 rfl (Pd (Rp.Ad _ aL a9) cG rfl rfl rfl rfl rfl underlying114 Dv FE ?_ (fun _=>rfl));rintro _ rfl;obtain⟨be,cI,cJ⟩:=bs cH;refine zg 6 rfl (I8 (vs:= [uV cF]) (P2 cI) rfl rfl rfl rfl (Bc func85 rfl) rfl bc ?_);rintro _ eg _ cK ⟨rfl,rfl⟩ cM;refine Av (v:=iV (max ai.1 be)) rfl (fun ρ h=>Yl.max2 (h _ _ rfl) (h _ _ rfl)) ?_;obtain⟨cN,cO,cP⟩:=bs cJ;refine zg 4 rfl (Bv cO rfl rfl rfl ?_);refine zg 2 rfl ?_;obtain rfl:=oi cP;exact cB (max ai.1 be,cN) (aL.Aa cK) cM rfl aM
      ·refine JL.exit rfl ?_;obtain rfl:=oi cE;obtain rfl:=cA _ aM;exact cm aL bc rfl
    ·intro cQ;refine JL.block (DT cc (fun L s ap=>∃(ay:LH) (aq:Lv_),Jn av H ay [bX O (([]:Lv_)++aq).toArray 114] [(4,iV K.1),(7,pV V Y),(8,pV U 0),(9,(fV 85)),(10,iV K.2.1),(11,iV K.2.2),(12,pV O 0),(35,iV K.2.2),(39,sV aH ag.2.1.2 aI),(40,iV (ag.2.1.2.length:Int)),(41,iV ap.2)] L s ((rA 8 (rN .u16)).r ay aq ap.1)) ⟨av,(List.replicate 8 (uV 0):Lv_),rfl,rfl,Ak,ca,(Io (E:=av) (pp:=(rN .u16)) rfl)⟩ ?_);rintro _ _ ap ⟨ay,aq,rfl,rfl,ab,bf,bg⟩ cR ⟨eh,aN⟩ cT;have bh:=aN;unfold On at bh;refine zg 5 rfl (A7 bh (fun cV cW=>?_) (fun cV cX=>?_))
     ·obtain⟨cY,cZ,c0⟩:=bs cW;refine zg 5 rfl (C3 (aZ.Ad ((((ah.Aa am).Aa an).Aa Z).Aa ab)) cZ underlying95 Cb ?_);rintro ei ej _ ⟨_,_,rfl,rfl,⟨_,_,rfl,⟨ek,el,rfl,c1⟩,rfl⟩⟩ c3;refine BZ c3 EV Cb rfl rfl (Ci bf F1 fun c4 c5=>?_);refine BI 1 c5 Cb fun c6=>?_;refine Cn 1 c6 rfl fun em ac bi c7=>zg 4 rfl (BZ bi EV Cb rfl rfl ?_);obtain⟨en,c8,c9⟩:=bs c0;refine zg 1 rfl (Ba (UQ (bU.Ad ((Z.Aa ab).Aa ac)) (bV.Ad ((Z.Aa ab).Aa ac)) (bW.Ad ((Z.Aa ab).Aa ac)) (Rp.Ad _ ((Z.Aa ab).Aa ac) bY) (c1.Ad ac) c8) rfl rfl (Bc func88 rfl) c7 fun eo aO da=>?_);obtain⟨bj,db,dc⟩:=bs c9;refine AJ (Hs db) rfl rfl Hd da ?_;rintro _ aP _ aQ ⟨dd,de,rfl,rfl,df⟩ dg;refine BR underlying28 rfl rfl rfl ?_;obtain⟨bl,dh,di⟩:=bs dc;refine zg 2 rfl (Cc (fun L s=>∃(az:LH) (aA:Lv_),Jn aP H az [bX O (([]:Lv_)++aA).toArray 114] [(4,iV K.1),(7,pV V Y),(8,pV U 0),(9,(fV 85)),(10,iV K.2.1),(11,iV K.2.2),(12,pV O 0),(35,iV K.2.2),(39,sV aH ag.2.1.2 aI),(40,iV (ag.2.1.2.length:Int)),(41,iV ap.2)] L s ((rA 8 (rN .u16)).r az aA bl)) ?_ ?_)
      ·rintro _ _ ⟨az,aA,rfl,rfl,dj,dk,dl⟩;obtain⟨dm,dn,dp⟩:=bs di;refine zg 2 rfl (Bv dn rfl rfl rfl ?_);refine zg 2 rfl ?_;obtain rfl:=oi dp;exact AU (cT _ _ (bl,dm) ⟨az,aA,rfl,rfl,((((ab.Aa ac).Aa aO).Aa aQ).Aa dj),dk,dl⟩ aN) rfl
      ·intro dq;refine JL.block (DT dh (fun L s ar=>∃(aB:LH) (aj:Lv_),Jn aP H aB [bX O (([]:Lv_)++aj).toArray 114] [(4,iV K.1),(7,pV V Y),(8,pV U 0),(9,(fV 85)),(10,iV K.2.1),(11,iV K.2.2),(12,pV O 0),(14,pV c4 0),(35,iV K.2.2),(39,sV aH ag.2.1.2 aI),(40,iV (ag.2.1.2.length:Int)),(41,iV ap.2),(49,sV dd bj de),(50,iV (bj.length:Int)),(51,iV ar.2)] L s ((rA 8 (rN .u16)).r aB aj ar.1)) ⟨aP,aq,rfl,rfl,Ak,dg,(Rp.Ad _ ((ac.Aa aO).Aa aQ) bg)⟩ ?_);rintro _ _ ar ⟨aB,aj,rfl,rfl,aC,au,ak⟩ dr ⟨ep,aR⟩ dt;have bm:=aR;unfold Ou at bm;refine zg 5 rfl (A7 bm (fun du dv=>?_) (fun du dw=>?_))
       ·obtain⟨al,dx,dy⟩:=bs dv;refine zg 5 rfl (C3 (df.Ad aC) dx underlying28 AD ?_);rintro eq er _ rfl dz;refine Cv 0 dz BV rfl rfl rfl (zg 2 rfl ?_);refine Dr 7 [O] ⟨⟨0,_,rfl⟩,trivial⟩ au fun ht=>Bt ht rfl [0,1] rfl ?_;obtain⟨bn,bo,dA⟩:=bs dy;obtain⟨_,rfl,_,_,dB⟩:=Hj (kk:=8) (pp:=(rN .u16)) ak bo;refine Bd (v:= .pointer (some ⟨O,0+Int.toNat (al)*1,none⟩)) 2 ht rfl rfl (fun ρ h s' hs=>H5 (kk:=8) (pp:=(rN .u16)) ak bo underlying114 Dv (h _ _ rfl) (h _ _ rfl)) (Bd (v:= uV bn) 3 ht rfl rfl (fun ρ h s' hs=>Yl.load FE (h _ _ rfl) (Rq (l:= []) 0 au rfl (by simp [AX]) hs (dB 0 _ rfl))) ?_);refine BN 4 ht underlying104 AD rfl rfl rfl rfl (JG.lp 5 ht 0 (bi.Ad ((aO.Aa aQ).Aa aC)) au ⟨⟨0,_,rfl⟩,trivial⟩ BV ?_);obtain⟨ae,dC,dD⟩:=bs dA;refine NV (i:=6) ⟨⟨0,_,rfl⟩,trivial⟩ (vs:= [uV bn,iV cY.1]) (Lf dC) (by decide+kernel) rfl rfl rfl J6 rfl au ?_;rintro _ bp _ aD ⟨rfl,rfl⟩ dE;refine CU [7,8] ?_;obtain⟨et,aS,dF⟩:=bs dD;obtain⟨_,rfl,_,_,eu⟩:=Hj (kk:=8) (pp:=(rN .u16)) (Rp.Ad _ aD ak) aS;refine Av (v:= .pointer (some ⟨O,0+Int.toNat (al)*1,none⟩)) rfl (fun ρ h=>H5 (kk:=8) (pp:=(rN .u16)) (Rp.Ad _ aD ak) aS underlying114 Dv (h _ _ rfl) (h _ _ rfl)) ?_;have aE:=Mn (us:= [uV ae]) (y:=ae) (Rp.Ad _ aD ak) aS rfl;refine I2 (v:= uV ae) (l:= []) (ws:=aj) (us:= [uV ae]) (o:=Int.toNat (al)*1) 0 rfl rfl rfl dE rfl rfl rfl Dv (by simp [Value.cells,AL]) rfl aE.2 fun bq=>?_;replace aE:=aE.1;generalize dG:GA aj (Int.toNat (al)*1) [uV ae]=br at bq ⊢;have dH:(rA 8 (rN .u16)).r bp br (ar.1.set (Int.toNat al) ae):=by rw [← dG];exact aE
        obtain⟨dI,dJ,dK⟩:=bs dF;refine zg 3 rfl (Bv dJ rfl rfl rfl ?_);refine zg 2 rfl ?_;obtain rfl:=oi dK;exact AU (dt _ _ ((ar.1.set (Int.toNat al) ae),dI) ⟨bp,br,rfl,rfl,(aC.Aa aD),bq,dH⟩ aR) rfl
       ·refine JL.exit rfl ?_;obtain rfl:=oi dw;obtain rfl:=dr _ aR;exact AU (dq _ _ ⟨aB,aj,rfl,rfl,aC,au,ak⟩) rfl
     ·refine JL.exit rfl ?_;obtain rfl:=oi cX;obtain rfl:=cR _ aN;exact AU (cQ _ _ ⟨ay,aq,rfl,rfl,ab,bf,bg⟩) rfl
   ·refine JL.exit rfl ?_;obtain rfl:=oi b9;obtain rfl:=b5 _ aJ;exact b1 Z a6 rfl
def IJ(fuel:Nat)(p0:Ca)(p1:AZ)(p2:AZ):Option (Bool×Int):= (Gg fuel p0 p1).bind fun O=> if O≠0 then(some (false,O)) else((Gg fuel p0 p2).bind fun U=> if U≠0 then(some (false,U)) else((f92 fuel p0).bind fun aa=> (aa).bind fun K=> (f93 fuel K p1).bind fun V=> (f93 fuel K p2).bind fun Y=> Option.bind (if(V.2.length:Int)=0 then(some true) else(some (decide ((Y.2.length:Int)=0)))) fun ab=> if ab=true then(some (false,0)) else((f94 fuel p1 p2).bind fun ac=> (f93 fuel K ac).bind fun Z=> Option.bind (if 0<(Z.2.length:Int) then((AA (V.1+Y.1)).bind fun ae=> some (decide (Z.1≤ae))) else(some false)) fun ag=> some (ag,0))))
theorem KB{E:LH}{aA:Az}{c2:Nat}{aB:Az}{aC:Nat}{ah:Az}{ai:Nat}{aj:Az}{ak:Nat}{p0:Ca}{p1:AZ}{p2:AZ}(aD:GE E)(al:Aq (rL rI) E aA c2 p0.1)(am:Aq (rL rI) E aB aC p0.2)(an:Aq BE E ah ai p1)(ao:Aq BE E aj ak p2){fuel:Nat}{r:Bool×Int}(aE:IJ fuel p0 p1 p2=some r):AT (C5 Tryz.prog) 37 [.agg #[sV aA p0.1 c2,sV aB p0.2 aC],sV ah p1 ai,sV aj p2 ak] E [] (fun w E' B'=>w= .tuple #[.bool r.1,iV r.2]∧B'= []):=by
 refine Bm func37 fun Q bZ cs H aS ag=>?_;unfold IJ at aE;refine zg 2 rfl (CB aS fun b0 b1 K ap aT=>?_);refine zg 6 rfl (BZ ap CE Ch rfl rfl ?_);obtain⟨b2,aU,aV⟩:=bs aE;refine zg 1 rfl (Ba (GX (aD.Ad K) (al.Ad K) (am.Ad K) (an.Ad K) aU) rfl rfl GH aT fun b3 O aF=>?_);refine zg 7 rfl (A7 aV (fun aW aX=>?_) (fun aW aY=>?_))
 ·refine zg 6 rfl ?_;obtain rfl:=oi aX;exact AS func37 rfl rfl (ag (K.Aa O) rfl ⟨rfl,rfl⟩ aF)
 ·refine zg 4 rfl (BZ (ap.Ad O) CE Ch rfl rfl ?_);obtain⟨b4,aZ,a0⟩:=bs aY;refine zg 1 rfl (Ba (GX (aD.Ad (K.Aa O)) (al.Ad (K.Aa O)) (am.Ad (K.Aa O)) (ao.Ad (K.Aa O)) aZ) rfl rfl GH aF fun b5 V a1=>?_);refine Bl (S':= [[],[],[],[]]) rfl a1 fun aG=>zg 7 rfl (A7 a0 (fun a2 a3=>?_) (fun a2 a4=>?_))
  ·refine zg 6 rfl ?_;obtain rfl:=oi a3;exact AS func37 rfl rfl (ag ((K.Aa O).Aa V) rfl ⟨rfl,rfl⟩ aG)
  ·refine zg 3 rfl (BZ (ap.Ad (O.Aa V)) CE Ch rfl rfl ?_);obtain⟨b6,a5,a6⟩:=bs a4;refine AJ (Lb (al.Ad ((K.Aa O).Aa V)) (am.Ad ((K.Aa O).Aa V)) a5) rfl rfl J5 aG ?_;rintro b7 b8 _ ae ⟨_,rfl,rfl,a7⟩ a8;obtain⟨b9,a9,ba⟩:=bs a6;have aH:=a7;refine zg 6 rfl ?_;rw [a9] at aH;obtain⟨bb,bc,_,rfl,aq,⟨_,_,rfl,⟨ca,cb,rfl,ar⟩,⟨_,cc,rfl,⟨cd,ce,rfl,au⟩,av⟩⟩⟩:=aH;obtain⟨cf,bd,be⟩:=bs ba;refine AJ (K8 aq ar au av (an.Ad (((K.Aa O).Aa V).Aa ae)) bd) rfl rfl J0 a8 ?_;rintro _ cg _ U ⟨ci,ck,rfl,rfl,cm⟩ bf;obtain⟨cn,bg,bh⟩:=bs be;refine zg 2 rfl (AJ (K8 (aq.Ad U) (ar.Ad U) (au.Ad U) (Rp.Ad _ U av) (ao.Ad ((((K.Aa O).Aa V).Aa ae).Aa U)) bg) rfl rfl J0 bf ?_);rintro _ co _ aa ⟨cp,cq,rfl,rfl,cr⟩ bi;refine Bl (S':= [[],[],[],[],[],[],[]]) rfl bi fun bj=>Ci bj EH fun bl bm=>?_;refine Ci bm EH fun aI bn=>?_;refine BI 7 bn CN fun bo=>?_;refine Cn 7 bo rfl fun ct ab aJ bp=>Bl (S':= [[],[],[],[],[],[],[],[],[(aI,.cells #[iV 0,nS] 97 (0,0))]]) rfl bp fun bq=>BI 8 bq CN fun br=>?_;refine Cn 8 br rfl fun aw Y aK aL=>zg 4 rfl (Cd 1 (aJ.Ad Y) underlying97 CX DN ?_);refine BR underlying95 rfl rfl rfl ?_;obtain⟨bu,bv,bw⟩:=bs bh;refine zg 2 rfl (EK [] (fun L s=>∃(aM:LH),Jm aw H aM [] [(1,sV ah p1 ai),(2,sV aj p2 ak),(10,pV bb bc),(11,pV bl 0),(12,pV aI 0),(43,.bool bu)] L s) ?_ ?_)
   ·rintro _ _ ⟨aM,rfl,rfl,Z,aN⟩;refine JL.done (BO bw (fun bx bz=>?_) (fun bx bA=>?_))
    ·refine zg 5 rfl ?_;obtain rfl:=oi bz;exact AS func37 rfl rfl (ag ((((((((K.Aa O).Aa V).Aa ae).Aa U).Aa aa).Aa ab).Aa Y).Aa Z) rfl ⟨rfl,rfl⟩ aN)
    ·obtain⟨cu,bB,bC⟩:=bs bA;refine zg 6 rfl (AJ (UW (an.Ad ((((((((K.Aa O).Aa V).Aa ae).Aa U).Aa aa).Aa ab).Aa Y).Aa Z)) (ao.Ad ((((((((K.Aa O).Aa V).Aa ae).Aa U).Aa aa).Aa ab).Aa Y).Aa Z)) bB) rfl rfl (Bc func94 rfl) aN ?_);rintro _ cv _ ac ⟨cw,cy,rfl,rfl,bD⟩ bE;obtain⟨cz,bF,bG⟩:=bs bC;refine AJ (K8 (aq.Ad (((((U.Aa aa).Aa ab).Aa Y).Aa Z).Aa ac)) (ar.Ad (((((U.Aa aa).Aa ab).Aa Y).Aa Z).Aa ac)) (au.Ad (((((U.Aa aa).Aa ab).Aa Y).Aa Z).Aa ac)) (Rp.Ad _ (((((U.Aa aa).Aa ab).Aa Y).Aa Z).Aa ac) av) bD bF) rfl rfl J0 bE ?_;rintro _ cA _ ay ⟨cB,cC,rfl,rfl,cD⟩ bH;refine Bl (S':= [[],[]]) rfl bH fun bI=>Ci bI EH fun cE bJ=>?_;refine BI 2 bJ CN fun bK=>?_;refine Cn 2 bK rfl fun cF az aO aP=>zg 3 rfl (Cd 1 aO underlying97 CX DN ?_);refine BR underlying95 rfl rfl rfl ?_;obtain⟨bL,bM,bN⟩:=bs bG;refine zg 2 rfl (Bj 14 2 [] [(62,.bool bL)] (fun cG bO bP=>?_) (fun aQ=>?_))
     ·refine zg 3 rfl ?_;obtain rfl:=oi bN;exact AS func37 rfl rfl (ag ((((((((((((K.Aa O).Aa V).Aa ae).Aa U).Aa aa).Aa ab).Aa Y).Aa Z).Aa ac).Aa ay).Aa az).Aa bO) rfl ⟨rfl,rfl⟩ bP)
     ·refine DU 53 bM (fun bQ bR=>?_) (fun bQ bS=>?_)
      ·refine Cd 0 aO underlying97 AD BV ?_;refine Cd 0 (aJ.Ad ((((Y.Aa Z).Aa ac).Aa ay).Aa az)) underlying97 AD BV ?_;refine Cd 0 (aK.Ad (((Z.Aa ac).Aa ay).Aa az)) underlying97 AD BV ?_;obtain⟨cH,bT,bU⟩:=bs bR;refine Bv bT rfl rfl rfl (zg 2 rfl ?_);obtain rfl:=oi bU;exact aQ Ak aP rfl
      ·refine zg 9 rfl ?_;obtain rfl:=oi bS;exact aQ Ak aP rfl
   ·intro aR;refine DU 38 bv (fun bV bW=>?_) (fun bV bY=>?_)
    ·refine zg 5 rfl ?_;obtain rfl:=oi bW;exact AU (aR _ _ ⟨aw,rfl,rfl,Ak,aL⟩) rfl
    ·refine Cd 1 aK underlying97 CX DN ?_;refine BR underlying95 rfl rfl rfl (zg 2 rfl ?_);obtain rfl:=oi bY;exact AU (aR _ _ ⟨aw,rfl,rfl,Ak,aL⟩) rfl
end Pal
namespace Pal
open Go Go.Conc Go.Proofs
open Go.Proofs.Tryz
end Pal
namespace Pal
open Go Go.Conc Go.Proofs
open Go.Proofs.Tryz
def ML(fuel:Nat):Option Bool:= (f71 fuel).bind fun ac=> (HR fuel ac 4).bind fun U=> (f71 fuel).bind fun ae=> (Jy fuel ae 5).bind fun V=> (f71 fuel).bind fun ag=> (f72 fuel).bind fun ah=> (IB fuel ag ah 2).bind fun Y=> (f71 fuel).bind fun ai=> (IH fuel ai ([])).bind fun Z=> (f71 fuel).bind fun aj=> (f73 fuel).bind fun ak=> (IG fuel aj ak 1).bind fun aa=> (f71 fuel).bind fun al=> (JD fuel al ([])).bind fun K=> (f71 fuel).bind fun am=> (f72 fuel).bind fun an=> (f72 fuel).bind fun ao=> (IJ fuel am an ao).bind fun ab=> (f71 fuel).bind fun ap=> (f73 fuel).bind fun aq=> (Ju fuel ap aq).bind fun O=> Option.bind (if U.2=0 then(some (decide (V.2=0))) else(some false)) fun ar=> Option.bind (if ar=true then(some (decide (Y.2=0))) else(some false)) fun au=> Option.bind (if au=true then(some (decide (Z.2=0))) else(some false)) fun av=> Option.bind (if av=true then(some (decide (aa.2=0))) else(some false)) fun aw=> Option.bind (if aw=true then(some (decide (K.2.2=0))) else(some false)) fun ay=> Option.bind (if ay=true then(some (decide (ab.2=0))) else(some false)) fun az=> Option.bind (if az=true then(some (decide (O.2.2=0))) else(some false)) fun aA=> Option.bind (if aA=true then(some (decide (V.1=3))) else(some false)) fun aB=> Option.bind (if aB=true then(some (decide (Z.1=15))) else(some false)) fun aC=> Option.bind (if aC=true then(some (decide (aa.1=1))) else(some false)) fun aD=> Option.bind (if aD=true then(some (decide (K.1=0))) else(some false)) fun aE=> Option.bind (if aE=true then(some (decide (K.2.1=9))) else(some false)) fun aF=> Option.bind (if aF=true then(some ab.1) else(some false)) fun aG=> Option.bind (if aG=true then(some (decide (O.1=3))) else(some false)) fun aH=> Option.bind (if aH=true then((f32 fuel U.1 ([4,5]:List Int)).bind fun aI=> some aI) else(some false)) fun aJ=> Option.bind (if aJ=true then((f32 fuel Y.1 ([2,3,4]:List Int)).bind fun aK=> some aK) else(some false)) fun aL=> Option.bind (if aL=true then((f32 fuel O.2.1 ([3,4]:List Int)).bind fun aM=> some aM) else(some false)) fun aN=> some aN
theorem Uz{E:LH}(an:GE E){fuel:Nat}{r:Bool}(aY:ML fuel=some r):AT (C5 Tryz.prog) 22 [] E [] (fun w E' B'=>w= .bool r∧B'= []):=by
 refine Bm func22 fun Q fB cs H bF bG=>?_;unfold ML at aY;obtain⟨fC,bH,bI⟩:=bs aY;refine zg 6 rfl (AJ (BW bH) rfl rfl BM bF ?_);rintro _ fD _ ak ⟨fE,fF,fG,fH,rfl,rfl,bJ,bK⟩ bL;obtain⟨ac,bM,bN⟩:=bs bI;refine AJ (Jk (an.Ad ak) bJ bK bM) rfl rfl IV bL ?_;rintro _ fI _ ao ⟨ae,ag,rfl,rfl,bO⟩ bP;obtain⟨fJ,bQ,bR⟩:=bs bN;refine zg 8 rfl (AJ (BW bQ) rfl rfl BM bP ?_);rintro _ fK _ al ⟨fL,fM,fN,fO,rfl,rfl,bS,bT⟩ bU;obtain⟨av,bV,bW⟩:=bs bR;refine Ba (Mi (an.Ad ((ak.Aa ao).Aa al)) bS bT bV) rfl rfl LB bU fun fP ap bY=>?_;obtain⟨fQ,bZ,b0⟩:=bs bW;refine zg 8 rfl (AJ (BW bZ) rfl rfl BM bY ?_);rintro _ fR _ aq ⟨fS,fT,fU,fW,rfl,rfl,b1,b2⟩ b3;obtain⟨fX,b4,b5⟩:=bs b0;refine AJ (Fc b4) rfl rfl EW b3 ?_;rintro _ fY _ ai ⟨fZ,ga,rfl,rfl,b6⟩ b7;obtain⟨V,b8,b9⟩:=bs b5;refine AJ (Kz (an.Ad (((((ak.Aa ao).Aa al).Aa ap).Aa aq).Aa ai)) (b1.Ad ai) (b2.Ad ai) b6 b8) rfl rfl J1 b7 ?_;rintro _ gb _ aw ⟨aa,ab,rfl,rfl,ca⟩ cb;obtain⟨gc,cc,cd⟩:=bs b9;refine zg 8 rfl (AJ (BW cc) rfl rfl BM cb ?_);rintro _ gd _ ar ⟨ge,gf,gg,gh,rfl,rfl,ce,cf⟩ cg;obtain⟨aj,ci,ck⟩:=bs cd;refine Ba (Ky (an.Ad (((((((ak.Aa ao).Aa al).Aa ap).Aa aq).Aa ai).Aa aw).Aa ar)) ce cf Aq.nil ci) rfl rfl JZ cg fun gi ay cm=>?_;obtain⟨gj,cn,co⟩:=bs ck;refine zg 8 rfl (AJ (BW cn) rfl rfl BM cm ?_);rintro _ gk _ az ⟨gl,gm,gn,gp,rfl,rfl,cp,cq⟩ cr;obtain⟨gq,ct,cu⟩:=bs co;refine AJ (Hp ct) rfl rfl Hc cr ?_;rintro _ gr _ am ⟨gt,gu,rfl,rfl,cv⟩ cw;obtain⟨ah,cy,cz⟩:=bs cu;refine Ba (KS (an.Ad ((((((((((ak.Aa ao).Aa al).Aa ap).Aa aq).Aa ai).Aa aw).Aa ar).Aa ay).Aa az).Aa am)) (cp.Ad am) (cq.Ad am) cv cy) rfl rfl J3 cw fun gv aB cA=>?_;obtain⟨gw,cB,cC⟩:=bs cz;refine zg 8 rfl (AJ (BW cB) rfl rfl BM cA ?_);rintro _ gx _ aC ⟨gy,gz,gA,gB,rfl,rfl,cD,cE⟩ cF;obtain⟨O,cG,cH⟩:=bs cC;refine Ba (Mj (an.Ad ((((((((((((ak.Aa ao).Aa al).Aa ap).Aa aq).Aa ai).Aa aw).Aa ar).Aa ay).Aa az).Aa am).Aa aB).Aa aC)) cD cE Aq.nil cG) rfl rfl Lz cF fun gC aE cI=>?_;obtain⟨gD,cJ,cK⟩:=bs cH;refine zg 10 rfl (AJ (BW cJ) rfl rfl BM cI ?_);rintro _ gE _ aF ⟨gF,gG,gH,gI,rfl,rfl,cM,cN⟩ cO;obtain⟨gJ,cP,cQ⟩:=bs cK;refine AJ (Fc cP) rfl rfl EW cO ?_;rintro _ gK _ aA ⟨gL,gM,rfl,rfl,cR⟩ cT;obtain⟨gN,cV,cW⟩:=bs cQ;refine AJ (Fc cV) rfl rfl EW cT ?_;rintro _ gO _ au ⟨gP,gQ,rfl,rfl,cX⟩ cY;obtain⟨U,cZ,c0⟩:=bs cW;refine Ba (KB (an.Ad ((((((((((((((((ak.Aa ao).Aa al).Aa ap).Aa aq).Aa ai).Aa aw).Aa ar).Aa ay).Aa az).Aa am).Aa aB).Aa aC).Aa aE).Aa aF).Aa aA).Aa au)) (cM.Ad (aA.Aa au)) (cN.Ad (aA.Aa au)) (cR.Ad au) cX cZ) rfl rfl J4 cY fun gR aG c1=>?_;obtain⟨gS,c2,c3⟩:=bs c0;refine zg 8 rfl (AJ (BW c2) rfl rfl BM c1 ?_);rintro _ gT _ aH ⟨gU,gV,gW,gX,rfl,rfl,c4,c5⟩ c6;obtain⟨gY,c7,c8⟩:=bs c3;refine AJ (Hp c7) rfl rfl Hc c6 ?_;rintro _ gZ _ aD ⟨g0,g1,rfl,rfl,c9⟩ da;obtain⟨K,db,dc⟩:=bs c8;refine AJ (Mg (an.Ad (((((((((((((((((((ak.Aa ao).Aa al).Aa ap).Aa aq).Aa ai).Aa aw).Aa ar).Aa ay).Aa az).Aa am).Aa aB).Aa aC).Aa aE).Aa aF).Aa aA).Aa au).Aa aG).Aa aH).Aa aD)) (c4.Ad aD) (c5.Ad aD) c9 db) rfl rfl LC da ?_;rintro _ g3 _ aW ⟨Y,Z,rfl,rfl,dd⟩ aZ;obtain⟨de,df,dg⟩:=bs dc;refine zg 13 rfl (Bj 6 67 [] [(1,sV ae ac.1 ag),(3,iV av.1),(5,sV aa V.1 ab),(6,iV V.2),(7,iV aj.1),(8,iV aj.2),(9,iV ah.1),(10,iV ah.2),(11,iV O.1),(12,iV O.2.1),(13,iV O.2.2),(14,.bool U.1),(15,iV U.2),(16,iV K.1),(17,sV Y K.2.1 Z),(18,iV K.2.2),(71,.bool de)] (fun g4 aI a0=>?_) (fun a1=>?_))
 ·obtain⟨dh,di,dj⟩:=bs dg;refine zg 1 rfl (Bj 10 63 [] [(1,sV ae ac.1 ag),(3,iV av.1),(5,sV aa V.1 ab),(7,iV aj.1),(8,iV aj.2),(9,iV ah.1),(10,iV ah.2),(11,iV O.1),(12,iV O.2.1),(13,iV O.2.2),(14,.bool U.1),(15,iV U.2),(16,iV K.1),(17,sV Y K.2.1 Z),(18,iV K.2.2),(75,.bool dh)] (fun g5 aJ a2=>?_) (fun a3=>?_))
  ·obtain⟨dk,dl,dm⟩:=bs dj;refine zg 1 rfl (Bj 14 59 [] [(1,sV ae ac.1 ag),(3,iV av.1),(5,sV aa V.1 ab),(7,iV aj.1),(9,iV ah.1),(10,iV ah.2),(11,iV O.1),(12,iV O.2.1),(13,iV O.2.2),(14,.bool U.1),(15,iV U.2),(16,iV K.1),(17,sV Y K.2.1 Z),(18,iV K.2.2),(79,.bool dk)] (fun g6 aK a4=>?_) (fun a5=>?_))
   ·obtain⟨dn,dp,dq⟩:=bs dm;refine zg 1 rfl (Bj 18 55 [] [(1,sV ae ac.1 ag),(3,iV av.1),(5,sV aa V.1 ab),(7,iV aj.1),(9,iV ah.1),(11,iV O.1),(12,iV O.2.1),(13,iV O.2.2),(14,.bool U.1),(15,iV U.2),(16,iV K.1),(17,sV Y K.2.1 Z),(18,iV K.2.2),(83,.bool dn)] (fun g7 aL a6=>?_) (fun a7=>?_))
    ·obtain⟨dr,dt,du⟩:=bs dq;refine zg 1 rfl (Bj 22 51 [] [(1,sV ae ac.1 ag),(3,iV av.1),(5,sV aa V.1 ab),(7,iV aj.1),(9,iV ah.1),(11,iV O.1),(12,iV O.2.1),(14,.bool U.1),(15,iV U.2),(16,iV K.1),(17,sV Y K.2.1 Z),(18,iV K.2.2),(87,.bool dr)] (fun g8 aM a8=>?_) (fun a9=>?_))
     ·obtain⟨dv,dw,dx⟩:=bs du;refine zg 1 rfl (Bj 26 47 [] [(1,sV ae ac.1 ag),(3,iV av.1),(5,sV aa V.1 ab),(7,iV aj.1),(9,iV ah.1),(11,iV O.1),(12,iV O.2.1),(14,.bool U.1),(16,iV K.1),(17,sV Y K.2.1 Z),(18,iV K.2.2),(91,.bool dv)] (fun g9 aN ba=>?_) (fun bb=>?_))
      ·obtain⟨dy,dz,dA⟩:=bs dx;refine zg 1 rfl (Bj 30 43 [] [(1,sV ae ac.1 ag),(3,iV av.1),(5,sV aa V.1 ab),(7,iV aj.1),(9,iV ah.1),(11,iV O.1),(12,iV O.2.1),(14,.bool U.1),(16,iV K.1),(17,sV Y K.2.1 Z),(95,.bool dy)] (fun ha aO bc=>?_) (fun bd=>?_))
       ·obtain⟨dB,dC,dD⟩:=bs dA;refine zg 1 rfl (Bj 34 39 [] [(1,sV ae ac.1 ag),(5,sV aa V.1 ab),(7,iV aj.1),(9,iV ah.1),(11,iV O.1),(12,iV O.2.1),(14,.bool U.1),(16,iV K.1),(17,sV Y K.2.1 Z),(99,.bool dB)] (fun hb aP be=>?_) (fun bf=>?_))
        ·obtain⟨dE,dF,dG⟩:=bs dD;refine zg 1 rfl (Bj 38 35 [] [(1,sV ae ac.1 ag),(5,sV aa V.1 ab),(9,iV ah.1),(11,iV O.1),(12,iV O.2.1),(14,.bool U.1),(16,iV K.1),(17,sV Y K.2.1 Z),(103,.bool dE)] (fun hc aQ bg=>?_) (fun bh=>?_))
         ·obtain⟨dH,dI,dJ⟩:=bs dG;refine zg 1 rfl (Bj 42 31 [] [(1,sV ae ac.1 ag),(5,sV aa V.1 ab),(11,iV O.1),(12,iV O.2.1),(14,.bool U.1),(16,iV K.1),(17,sV Y K.2.1 Z),(107,.bool dH)] (fun hd aR bi=>?_) (fun bj=>?_))
          ·obtain⟨dK,dL,dM⟩:=bs dJ;refine zg 1 rfl (Bj 46 27 [] [(1,sV ae ac.1 ag),(5,sV aa V.1 ab),(12,iV O.2.1),(14,.bool U.1),(16,iV K.1),(17,sV Y K.2.1 Z),(111,.bool dK)] (fun he aS bl=>?_) (fun bm=>?_))
           ·obtain⟨dN,dO,dP⟩:=bs dM;refine zg 1 rfl (Bj 50 23 [] [(1,sV ae ac.1 ag),(5,sV aa V.1 ab),(14,.bool U.1),(16,iV K.1),(17,sV Y K.2.1 Z),(115,.bool dN)] (fun hf aT bn=>?_) (fun bo=>?_))
            ·obtain⟨dQ,dR,dS⟩:=bs dP;refine zg 1 rfl (Bj 53 20 [] [(1,sV ae ac.1 ag),(5,sV aa V.1 ab),(16,iV K.1),(17,sV Y K.2.1 Z),(118,.bool dQ)] (fun hj aU bp=>?_) (fun bq=>?_))
             ·obtain⟨dT,dU,dV⟩:=bs dS;refine zg 1 rfl (Bj 57 16 [] [(1,sV ae ac.1 ag),(5,sV aa V.1 ab),(17,sV Y K.2.1 Z),(122,.bool dT)] (fun hk aV br=>?_) (fun bu=>?_))
              ·obtain⟨dW,dX,dY⟩:=bs dV;refine zg 1 rfl (Bj 62 11 [] [(5,sV aa V.1 ab),(17,sV Y K.2.1 Z),(127,.bool dW)] (fun hl aX bv=>?_) (fun bw=>?_))
               ·obtain⟨dZ,ea,eb⟩:=bs dY;refine zg 1 rfl (Bj 67 6 [] [(17,sV Y K.2.1 Z),(132,.bool dZ)] (fun hm bx bz=>?_) (fun bA=>?_))
                ·obtain⟨ec,ed,ee⟩:=bs eb;refine zg 1 rfl (Bj 72 1 [] [(137,.bool ec)] (fun hn ef eg=>?_) (fun bB=>?_))
                 ·refine zg 2 rfl ?_;obtain rfl:=oi ee;exact AS func22 rfl rfl (bG (((((((((((((((((((((((((((((((((((((ak.Aa ao).Aa al).Aa ap).Aa aq).Aa ai).Aa aw).Aa ar).Aa ay).Aa az).Aa am).Aa aB).Aa aC).Aa aE).Aa aF).Aa aA).Aa au).Aa aG).Aa aH).Aa aD).Aa aW).Aa aI).Aa aJ).Aa aK).Aa aL).Aa aM).Aa aN).Aa aO).Aa aP).Aa aQ).Aa aR).Aa aS).Aa aT).Aa aU).Aa aV).Aa aX).Aa bx).Aa ef) rfl ⟨rfl,rfl⟩ eg)
                 ·refine Bn 133 ed (fun eh ei=>?_) (fun eh ej=>?_)
                  ·refine zg 1 rfl (B9 (pp:=rI) [iV 3,iV 4] [3,4] rfl rfl rfl underlying28 AD A1 (by decide) rfl rfl rfl ⟨rfl,rfl,trivial⟩ bz fun ho hp ek el=>?_);refine BA 0 ek el rfl fun hq bC em en=>?_;obtain⟨hr,eo,ep⟩:=bs ei;refine Ba (Fy (dd.Ad ((((((((((((((((aI.Aa aJ).Aa aK).Aa aL).Aa aM).Aa aN).Aa aO).Aa aP).Aa aQ).Aa aR).Aa aS).Aa aT).Aa aU).Aa aV).Aa aX).Aa bx).Aa bC)) em eo) rfl rfl Fo en fun hu eq er=>zg 1 rfl ?_;obtain rfl:=oi ep;exact bB (bC.Aa eq) er rfl
                  ·refine zg 4 rfl ?_;obtain rfl:=oi ej;exact bB Ak bz rfl
                ·refine Bn 128 ea (fun et eu=>?_) (fun et ew=>?_)
                 ·refine zg 1 rfl (B9 (pp:=rI) [iV 2,iV 3,iV 4] [2,3,4] rfl rfl rfl underlying28 AD A1 (by decide) rfl rfl rfl ⟨rfl,rfl,rfl,trivial⟩ bv fun hv hw ex ey=>?_);refine BA 0 ex ey rfl fun hx bD ez eA=>?_;obtain⟨hy,eB,eC⟩:=bs eu;refine Ba (Fy (ca.Ad (((((((((((((((((((((((((((((ar.Aa ay).Aa az).Aa am).Aa aB).Aa aC).Aa aE).Aa aF).Aa aA).Aa au).Aa aG).Aa aH).Aa aD).Aa aW).Aa aI).Aa aJ).Aa aK).Aa aL).Aa aM).Aa aN).Aa aO).Aa aP).Aa aQ).Aa aR).Aa aS).Aa aT).Aa aU).Aa aV).Aa aX).Aa bD)) ez eB) rfl rfl Fo eA fun hz eD eE=>zg 1 rfl ?_;obtain rfl:=oi eC;exact bA (bD.Aa eD) eE rfl
                 ·refine zg 4 rfl ?_;obtain rfl:=oi ew;exact bA Ak bv rfl
               ·refine Bn 123 dX (fun eF eG=>?_) (fun eF eH=>?_)
                ·refine zg 1 rfl (B9 (pp:=rI) [iV 4,iV 5] [4,5] rfl rfl rfl underlying28 AD A1 (by decide) rfl rfl rfl ⟨rfl,rfl,trivial⟩ br fun hA hB eI eJ=>?_);refine BA 0 eI eJ rfl fun hC bE eK eL=>?_;obtain⟨hD,eM,eN⟩:=bs eG;refine Ba (Fy (bO.Ad (((((((((((((((((((((((((((((((((al.Aa ap).Aa aq).Aa ai).Aa aw).Aa ar).Aa ay).Aa az).Aa am).Aa aB).Aa aC).Aa aE).Aa aF).Aa aA).Aa au).Aa aG).Aa aH).Aa aD).Aa aW).Aa aI).Aa aJ).Aa aK).Aa aL).Aa aM).Aa aN).Aa aO).Aa aP).Aa aQ).Aa aR).Aa aS).Aa aT).Aa aU).Aa aV).Aa bE)) eK eM) rfl rfl Fo eL fun hE eO eP=>zg 1 rfl ?_;obtain rfl:=oi eN;exact bw (bE.Aa eO) eP rfl
                ·refine zg 4 rfl ?_;obtain rfl:=oi eH;exact bw Ak br rfl
              ·refine Bn 119 dU (fun eQ eR=>?_) (fun eQ eS=>?_)
               ·refine zg 3 rfl ?_;obtain rfl:=oi eR;exact bu Ak bp rfl
               ·refine zg 3 rfl ?_;obtain rfl:=oi eS;exact bu Ak bp rfl
             ·refine Bn 116 dR (fun eT eU=>?_) (fun eT eV=>?_)
              ·refine zg 2 rfl ?_;obtain rfl:=oi eU;exact bq Ak bn rfl
              ·refine zg 2 rfl ?_;obtain rfl:=oi eV;exact bq Ak bn rfl
            ·refine Bn 112 dO (fun eW eX=>?_) (fun eW eY=>?_)
             ·refine zg 3 rfl ?_;obtain rfl:=oi eX;exact bo Ak bl rfl
             ·refine zg 3 rfl ?_;obtain rfl:=oi eY;exact bo Ak bl rfl
           ·refine Bn 108 dL (fun eZ e0=>?_) (fun eZ e1=>?_)
            ·refine zg 3 rfl ?_;obtain rfl:=oi e0;exact bm Ak bi rfl
            ·refine zg 3 rfl ?_;obtain rfl:=oi e1;exact bm Ak bi rfl
          ·refine Bn 104 dI (fun e3 e4=>?_) (fun e3 e5=>?_)
           ·refine zg 3 rfl ?_;obtain rfl:=oi e4;exact bj Ak bg rfl
           ·refine zg 3 rfl ?_;obtain rfl:=oi e5;exact bj Ak bg rfl
         ·refine Bn 100 dF (fun e6 e7=>?_) (fun e6 e8=>?_)
          ·refine zg 3 rfl ?_;obtain rfl:=oi e7;exact bh Ak be rfl
          ·refine zg 3 rfl ?_;obtain rfl:=oi e8;exact bh Ak be rfl
        ·refine Bn 96 dC (fun e9 fa=>?_) (fun e9 fb=>?_)
         ·refine zg 3 rfl ?_;obtain rfl:=oi fa;exact bf Ak bc rfl
         ·refine zg 3 rfl ?_;obtain rfl:=oi fb;exact bf Ak bc rfl
       ·refine Bn 92 dz (fun fc fd=>?_) (fun fc fe=>?_)
        ·refine zg 3 rfl ?_;obtain rfl:=oi fd;exact bd Ak ba rfl
        ·refine zg 3 rfl ?_;obtain rfl:=oi fe;exact bd Ak ba rfl
      ·refine Bn 88 dw (fun ff fg=>?_) (fun ff fh=>?_)
       ·refine zg 3 rfl ?_;obtain rfl:=oi fg;exact bb Ak a8 rfl
       ·refine zg 3 rfl ?_;obtain rfl:=oi fh;exact bb Ak a8 rfl
     ·refine Bn 84 dt (fun fj fk=>?_) (fun fj fl=>?_)
      ·refine zg 3 rfl ?_;obtain rfl:=oi fk;exact a9 Ak a6 rfl
      ·refine zg 3 rfl ?_;obtain rfl:=oi fl;exact a9 Ak a6 rfl
    ·refine Bn 80 dp (fun fm fo=>?_) (fun fm fp=>?_)
     ·refine zg 3 rfl ?_;obtain rfl:=oi fo;exact a7 Ak a4 rfl
     ·refine zg 3 rfl ?_;obtain rfl:=oi fp;exact a7 Ak a4 rfl
   ·refine Bn 76 dl (fun fq fs=>?_) (fun fq fu=>?_)
    ·refine zg 3 rfl ?_;obtain rfl:=oi fs;exact a5 Ak a2 rfl
    ·refine zg 3 rfl ?_;obtain rfl:=oi fu;exact a5 Ak a2 rfl
  ·refine Bn 72 di (fun fv fw=>?_) (fun fv fx=>?_)
   ·refine zg 3 rfl ?_;obtain rfl:=oi fw;exact a3 Ak a0 rfl
   ·refine zg 3 rfl ?_;obtain rfl:=oi fx;exact a3 Ak a0 rfl
 ·refine DU 68 df (fun fy fz=>?_) (fun fy fA=>?_)
  ·refine zg 3 rfl ?_;obtain rfl:=oi fz;exact a1 Ak aZ rfl
  ·refine zg 3 rfl ?_;obtain rfl:=oi fA;exact a1 Ak aZ rfl
end Pal
namespace Pal
open Go Go.Conc Go.Proofs
open Go.Proofs.Tryz
variable {J:Judge Tryz.prog}{E:LH}
end Pal
namespace Pal
open Go Go.Conc
theorem B4{P:Program}{J:Judge P}{Q:Gs_}{b:Frame}{n:Nat}{ds:Ld_}{ops:Ao_}{k:Li_}{cs:Lf_}{m fuel:Nat}{D:Nat→Bool}{listed:Array Bool}{L L':Env}{s:St}(k':AQ J Q b n ds ops k cs m D fuel listed L' s)(h:F7 L L'=Gb L'):AQ J Q b n ds ops k cs m D fuel listed L s:=Dp (KD h) k'
instance {α:Type} [DecidableEq α] (xs:List α):Decidable (xs= []):=inferInstance
section
variable {P:Program}{J:Judge P}{Q:Gs_}{b:Frame}{n:Nat}{L L':Env}{ds:Ld_}{k:Li_}{cs:Lf_}{s:St}{ops:Ao_}{E H:LH}{S:List Seg}{i:Nat}{rest:List Nat}
variable {d:Option Tmp}{x y:Operand}{t u ty e:TypeId}{p:String}{af:Ae_}{g:On_}{v w:Value}
end
section
variable {P:Program}{J:Judge P}{Q:Gs_}{b:Frame}{n:Nat}{ds:Ld_}{ops:Ao_}{k:Li_}{cs:Lf_}{m fuel:Nat}{listed:Array Bool}{L:Env}{E H:LH}{S:List Seg}
variable {d:Option Tmp}{x y:Operand}{t ty e:TypeId}{p:String}{af:Ae_}{g:On_}{v:Value}{i:Nat}
theorem Take.A6{bk off:Nat}{c:Aw}(j:Nat)(V:Ar E H S)(Y:ops[i]? =some ⟨d,.store t x y,ty,p,af,g⟩)(hw:A5 L ops ⟨d,.store t x y,ty,p,af,g⟩=some true)(Z:Bs n d=true)
  (aa:ev L x=some (.pointer (some ⟨bk,off,none⟩))) (ab:ev L y=some v) (ac:Br P t=some v.cells.size) (ae:∀u∈v.cells.toList,AL u=true) (K:S[j]? =some [(bk,.cells c e (0,0))]) (hle:off+v.cells.size≤c.size)
  (h:Ar E H (S.set j [(bk,.cells (AI c off v.cells.toList) e (0,0))])→AQ J Q b n ds ops k cs m CQ fuel (A4 listed i) (Ax L d undef) (Am E H (S.set j [(bk,.cells (AI c off v.cells.toList) e (0,0))]))):
  Take J Q b n ds ops k cs m CQ fuel listed L (Am E H S) i:=
 Take.IL Y (by simp [CV,Z]) hw fun ρ O=>by
  obtain⟨ag,ah⟩:=EL V K
  rw [ag]
  show lp P (do Instr.storeAt t (ρ x) (ρ y);pure Next.skip) _ _ _
  rw [O x _ aa,O y v ab]
  refine Ay _ _ ?_
  unfold Instr.storeAt
  simp only [Instr.sureAddr,bind,Sem.bind,pure]
  refine Kd (pl:=(S.set j []).flatten.length) ac ae ah (c:=c) (e:=e) (by simp) hle fun U=>?_
  have ai:((S.set j []).flatten++ [(bk,Obj.cells c e (0,0))]).set (S.set j []).flatten.length (bk,.cells (AI c off v.cells.toList) e (0,0))=(S.set j []).flatten++ [(bk,.cells (AI c off v.cells.toList) e (0,0))]:=Gq _ _ _ _
  rw [ai] at U ⊢
  obtain⟨aj,ak⟩:=F9 K U
  rw [aj]
  exact h ak
theorem H6{s:St}{D:Nat→Bool}{i j l:Nat}(K:s.q=false)(O:Region.ready .any ops listed= [i,j,l])(hi:Take J Q b n ds ops k cs m D fuel listed L s i)(U:Take J Q b n ds ops k cs m D fuel listed L s j)(V:Take J Q b n ds ops k cs m D fuel listed L s l):AQ J Q b n ds ops k cs m D (fuel+1) listed L s:=
 Ke K O (by simp) (by intro q K;simp at K;rcases K with rfl | rfl | rfl <;> assumption)
end
theorem Aq.cut{α:Type}{pp:Rp α}{E:LH}{a:Option Addr}{c:Nat}{xs ys:List α}{lo hi:Int}(V:Aq pp E a c xs)(hC:ME xs lo hi=some ys):
  ∃Y Z,Aq pp E Y Z ys∧∀{P:Program} {ρ:Operand→Value} {s:St} {d:Option Tmp} {x:Operand} {t ty e:TypeId} {p:String} {af:Ae_} {g:On_} {olo ohi:Option Operand},P.underlying t=some (.slice e)→Br P e=some pp.n→ρ x= .slice a xs.length c→
   (match ohi with | some w=>ρ w=iV hi | none=>hi=xs.length)→(match olo with | some w=>ρ w=iV lo | none=>lo=0)→Yl P ⟨d,.slice t x olo ohi none,ty,p,af,g⟩ ρ s (.slice Y ys.length Z):=by
 unfold ME at hC;split at hC
 rotate_left
 ·cases hC
 rename_i hb;obtain⟨al,am,ae⟩:=hb;cases hC;obtain⟨lo,rfl⟩:∃l:Nat,lo=l:=⟨lo.toNat,by omega⟩;obtain⟨hi,rfl⟩:∃l:Nat,hi=l:=⟨hi.toNat,by omega⟩;simp only [Int.toNat_natCast] at*;have an:=V.1;have hlen:((xs.take hi).drop lo).length=hi - lo:=by simp;omega
 have aa:∀ad:Addr,a=some ad→ad.spot=none∨c=0:=fun ad K=>by
  rcases V.2 with⟨_,h⟩ | ⟨bk,off,h,_⟩
  ·exact h ad K
  ·rw [h] at K;cases K;exact .inl rfl
 refine⟨if c=lo then a else a.map (·.add (lo*pp.n)),c - lo,⟨by rw [hlen];omega,?_⟩,?_⟩
 ·by_cases ag:hi - lo=0
  ·left;refine⟨List.eq_nil_of_length_eq_zero (by rw [hlen];exact ag),fun ad K=>?_⟩;split at K
   ·exact(aa ad K).imp id fun h=>by omega
   ·cases a with
    | none=>cases K
    | some ah=>
     simp only [Option.map_some,Option.some.injEq] at K;subst K;exact .inl (by rw [Dq ((aa ah rfl).resolve_right (by omega))])
  ·right;rcases V.2 with⟨h,_⟩ | ⟨bk,off,rfl,O⟩
   ·subst h;simp at ae;omega
   ·refine⟨bk,off+lo*pp.n,?_,fun q z U=>?_⟩
    ·rw [if_neg (by omega),Option.map_some,Dq rfl]
    ·rw [List.getElem?_drop,List.getElem?_take] at U;split at U
     ·obtain⟨ws,ai,ab⟩:=O _ z U;refine⟨ws,ai,?_⟩;rw [Nat.add_mul] at ab;rw [Nat.add_assoc];exact ab
     ·cases U
 ·intro P ρ s d x t ty e p af g olo ohi ht aj ak O ac;rw [hlen];refine Yl.slice (mx:=c) (hi:=hi) (lo:=lo) ht aj ak rfl ?_ ?_ (Nat.le_refl _) (by omega) (by omega)
  ·cases ohi with
   | none=>exact⟨by simp only at O;omega,rfl⟩
   | some w=>exact O
  ·cases olo with
   | none=>simp only at ac;show lo=0;omega
   | some w=>exact ac
end Pal
namespace Pal
open Go Go.Conc Go.Proofs
open Go.Proofs.Tryz
variable {J:Judge Tryz.prog}{E:LH}
def IE(fuel:Nat):Option ((Ca)):= some (([([1]:List Int),([2]:List Int),([3,4]:List Int),([4]:List Int),([5]:List Int),([5]:List Int)]:List (List Int)),([[],[],[],([2]:List Int),([2,3]:List Int),([3,4]:List Int)]:List (List Int)))
set_option maxHeartbeats 4000000 in
theorem KG{fuel:Nat}{r:(Ca)}(ak:IE fuel=some r):AT J 71 [] E [] (fun w E' B'=>∃(al:Az) (am:Nat) (an:Seg) (ao:Az) (ap:Nat) (aq:Seg),w= .agg #[sV al r.1 am,sV ao r.2 ap]∧B'=an++aq∧OL 28 (rL rI) E' al am an r.1∧OL 28 (rL rI) E' ao ap aq r.2):=by
 refine Bm func71 fun Q bH cs H aB aC=>?_;unfold IE at ak;refine zg 2 rfl (Ci aB Hf fun K aD=>?_);refine zg 3 rfl (B9 (pp:=rI) [iV 1] [1] rfl rfl rfl underlying28 AD A1 (by decide) rfl rfl rfl ⟨rfl,trivial⟩ aD fun aE ar aF aG=>?_);refine B9 (pp:=rI) [iV 2] [2] rfl rfl rfl underlying28 AD A1 (by decide) rfl rfl rfl ⟨rfl,trivial⟩ aG fun aH au aI aJ=>Bl (S':= [[],[(K,.cells #[nS,nS] 24 (0,0))],ar,au]) rfl aJ fun aK=>B9 (pp:=rI) [iV 3,iV 4] [3,4] rfl rfl rfl underlying28 AD A1 (by decide) rfl rfl rfl ⟨rfl,rfl,trivial⟩ aK fun aL av aM aN=>B9 (pp:=rI) [iV 4] [4] rfl rfl rfl underlying28 AD A1 (by decide) rfl rfl rfl ⟨rfl,trivial⟩ aN fun aO aw aP aQ=>B9 (pp:=rI) [iV 5] [5] rfl rfl rfl underlying28 AD A1 (by decide) rfl rfl rfl ⟨rfl,trivial⟩ aQ fun aR ay aS aT=>Bl (S':= [[],[(K,.cells #[nS,nS] 24 (0,0))],ar,au,av,aw,ay]) rfl aT fun aU=>B9 (pp:=rI) [iV 5] [5] rfl rfl rfl underlying28 AD A1 (by decide) rfl rfl rfl ⟨rfl,trivial⟩ aU fun aV az aW aX=>BA 2 aF aX rfl fun bI O aY aZ=>BA 3 (aI.Ad O) aZ rfl fun bJ U a0 a1=>Bl (S':= [[],[(K,.cells #[nS,nS] 24 (0,0))],[],[],av,aw,ay,az]) rfl a1 fun a2=>BA 4 (aM.Ad (O.Aa U)) a2 rfl fun bK V a3 a4=>BA 5 (aP.Ad ((O.Aa U).Aa V)) a4 rfl fun bL Y a5 a6=>BA 6 (aS.Ad (((O.Aa U).Aa V).Aa Y)) a6 rfl fun bM Z a7 a8=>Bl (S':= [[],[(K,.cells #[nS,nS] 24 (0,0))],[],[],[],[],[],az]) rfl a8 fun a9=>BA 7 (aW.Ad ((((O.Aa U).Aa V).Aa Y).Aa Z)) a9 rfl fun bN aa ba bb=>B9 (pp:=(rL rI)) [.slice (Aj aE) (([1]:List Int)).length 1,.slice (Aj aH) (([2]:List Int)).length 1,.slice (Aj aL) (([3,4]:List Int)).length 2,.slice (Aj aO) (([4]:List Int)).length 1,.slice (Aj aR) (([5]:List Int)).length 1,.slice (Aj aV) (([5]:List Int)).length 1] [([1]:List Int),([2]:List Int),([3,4]:List Int),([4]:List Int),([5]:List Int),([5]:List Int)] rfl rfl rfl underlying22 AN J7 (by decide) rfl rfl rfl ⟨⟨_,_,rfl,(aY.Ad ((((U.Aa V).Aa Y).Aa Z).Aa aa))⟩,⟨_,_,rfl,(a0.Ad (((V.Aa Y).Aa Z).Aa aa))⟩,⟨_,_,rfl,(a3.Ad ((Y.Aa Z).Aa aa))⟩,⟨_,_,rfl,(a5.Ad (Z.Aa aa))⟩,⟨_,_,rfl,(a7.Ad aa)⟩,⟨_,_,rfl,ba⟩,trivial⟩ bb fun ab ae bc bd=>B9 (pp:=rI) [iV 2] [2] rfl rfl rfl underlying28 AD A1 (by decide) rfl rfl rfl ⟨rfl,trivial⟩ bd fun be bf bg bh=>Bl (S':= [[],[(K,.cells #[nS,nS] 24 (0,0))],[],[],[],[],[],[],ae,bf]) rfl bh fun bi=>B9 (pp:=rI) [iV 2,iV 3] [2,3] rfl rfl rfl underlying28 AD A1 (by decide) rfl rfl rfl ⟨rfl,rfl,trivial⟩ bi fun bj bl bm bn=>B9 (pp:=rI) [iV 3,iV 4] [3,4] rfl rfl rfl underlying28 AD A1 (by decide) rfl rfl rfl ⟨rfl,rfl,trivial⟩ bn fun bo bp bq br=>BA 9 bg br rfl fun bO ag bu bv=>?_;refine Bl (S':= [[],[(K,.cells #[nS,nS] 24 (0,0))],[],[],[],[],[],[],ae,[],bl,bp]) rfl bv fun bw=>BA 10 (bm.Ad ag) bw rfl fun bP ah bx bz=>BA 11 (bq.Ad (ag.Aa ah)) bz rfl fun bQ ai bA bB=>B9 (pp:=(rL rI)) [nS,nS,nS,.slice (Aj be) (([2]:List Int)).length 1,.slice (Aj bj) (([2,3]:List Int)).length 2,.slice (Aj bo) (([3,4]:List Int)).length 2] [[],[],[],([2]:List Int),([2,3]:List Int),([3,4]:List Int)] rfl rfl rfl underlying22 AN J7 (by decide) rfl rfl rfl ⟨⟨_,_,rfl,Aq.nil⟩,⟨_,_,rfl,Aq.nil⟩,⟨_,_,rfl,Aq.nil⟩,⟨_,_,rfl,(bu.Ad (ah.Aa ai))⟩,⟨_,_,rfl,(bx.Ad ai)⟩,⟨_,_,rfl,bA⟩,trivial⟩ bB fun ac aj bC bD=>Bl (S':= [[],[(K,.cells #[nS,nS] 24 (0,0))],[],[],[],[],[],[],ae,[],[],[],aj]) rfl bD fun bE=>Av (v:= .agg #[.slice (Aj ab) (([([1]:List Int),([2]:List Int),([3,4]:List Int),([4]:List Int),([5]:List Int),([5]:List Int)]:List (List Int))).length 6,.slice (Aj ac) (([[],[],[],([2]:List Int),([2,3]:List Int),([3,4]:List Int)]:List (List Int))).length 6]) rfl (fun ρ h=>Cl [(0,1),(1,1)] h Hf underlying24 ⟨rfl,A3 type22,rfl,A3 type22,trivial⟩ rfl rfl) (BI 1 bE Ch fun bF=>?_);refine JL.done (Bl (S':= [[],[(K,.cells #[.slice (Aj ab) (([([1]:List Int),([2]:List Int),([3,4]:List Int),([4]:List Int),([5]:List Int),([5]:List Int)]:List (List Int))).length 6,.slice (Aj ac) (([[],[],[],([2]:List Int),([2,3]:List Int),([3,4]:List Int)]:List (List Int))).length 6] 24 (0,0))],[],[],[],[],[],[],ae,[],[],[],aj]) rfl bF fun aA=>?_);obtain rfl:=oi ak;refine JL.ret (v:= .agg #[.slice (Aj ab) (([([1]:List Int),([2]:List Int),([3,4]:List Int),([4]:List Int),([5]:List Int),([5]:List Int)]:List (List Int))).length 6,.slice (Aj ac) (([[],[],[],([2]:List Int),([2,3]:List Int),([3,4]:List Int)]:List (List Int))).length 6]) rfl rfl (BP.list func71 rfl (vs:= [.agg #[.slice (Aj ab) (([([1]:List Int),([2]:List Int),([3,4]:List Int),([4]:List Int),([5]:List Int),([5]:List Int)]:List (List Int))).length 6,.slice (Aj ac) (([[],[],[],([2]:List Int),([2,3]:List Int),([3,4]:List Int)]:List (List Int))).length 6]]) ⟨⟨_,rfl,Ld.many (vs:= [.slice (Aj ab) (([([1]:List Int),([2]:List Int),([3,4]:List Int),([4]:List Int),([5]:List Int),([5]:List Int)]:List (List Int))).length 6,.slice (Aj ac) (([[],[],[],([2]:List Int),([2,3]:List Int),([3,4]:List Int)]:List (List Int))).length 6]) CE Ch (EJ (off:=0) 1 aA rfl rfl)⟩,trivial⟩) (GQ 1 aA rfl fun bG=>?_);exact aC ((((((((O.Aa U).Aa V).Aa Y).Aa Z).Aa aa).Aa ag).Aa ah).Aa ai) rfl ⟨(Aj ab),6,ae,(Aj ac),6,aj,rfl,(by first | rfl | simp | (simp [Value.cells])),(bc.Ad ((ag.Aa ah).Aa ai)),bC⟩ bG
end Pal
namespace Pal
open Go Go.Conc
section
variable {P:Program}{J:Judge P}{Q:Gs_}{b:Frame}{n:Nat}{ds:Ld_}{ops:Ao_}{k:Li_}{cs:Lf_}{m fuel:Nat}{listed:Array Bool}{L:Env}{s:St}{E H:LH}{S:List Seg}
variable {d:Option Tmp}{x y:Operand}{t ty e:TypeId}{p:String}{af:Ae_}{g:On_}{v:Value}{i:Nat}
theorem Take.y0{oi:Oper}(hi:ops[i]? =some oi)(K:(!CV oi.op&&Bs n oi.dst)=true)(hw:A5 L ops oi=some true)(O:∀ρ,DJ L ρ→Yl P oi ρ s v)
  (h:AQ J Q b n ds ops k cs m CQ fuel (A4 listed i) (Ax L oi.dst v) s):Take J Q b n ds ops k cs m CQ fuel listed L s i:=
 Take.IL hi K hw fun ρ U=>by
  have:=O ρ U
  unfold Yl at this
  refine CO _ this ?_ (fun _ _ h=>h)
  rintro V s' ⟨rfl,rfl⟩
  exact h
theorem TH{D:Nat→Bool}{i j l o:Nat}(K:s.q=false)(O:Region.ready .any ops listed= [i,j,l,o])(hi:Take J Q b n ds ops k cs m D fuel listed L s i)(U:Take J Q b n ds ops k cs m D fuel listed L s j)(V:Take J Q b n ds ops k cs m D fuel listed L s l)(Y:Take J Q b n ds ops k cs m D fuel listed L s o):AQ J Q b n ds ops k cs m D (fuel+1) listed L s:=
 Ke K O (by simp) (by intro q K;simp at K;rcases K with rfl | rfl | rfl | rfl <;> assumption)
end
theorem OL.spot{α:Type}{e:TypeId}{pp:Rp α}{E:LH}{a:Option Addr}{c:Nat}{seg:Seg}{xs:List α}{m:Int}{x:α}(hg:OL e pp E a c seg xs)(hm:ix xs m=some x):
  ∃bk f,a=some ⟨bk,0,none⟩∧seg= [(bk,.cells f e (0,0))]∧m.toNat*pp.n+pp.n≤f.size∧
   ∀(E':LH) (x':α) (ws':Lv_),Le E E'→pp.r E' ws' x'→OL e pp E' a c [(bk,.cells (AI f (m.toNat*pp.n) ws') e (0,0))] (xs.set m.toNat x'):=by
 obtain⟨m,rfl,hm⟩:=Gt hm;obtain⟨bk,f,ws,K,O,aa,ab,U,ac⟩:=OL.get hg hm;refine⟨bk,f,K,O,?_,fun E' x' ws' hle Y=>?_⟩
 ·simp only [Int.toNat_natCast];rw [Nat.add_mul,Nat.one_mul] at U;exact U
 ·obtain⟨ae,ag,ah,V,g2,ai,aj,ak,Z⟩:=OL.get (hg.Ad hle) hm;rw [K] at V;cases V;rw [O] at g2;cases g2;exact Z x' ws' Y
end Pal
namespace Pal
open Go Go.Conc
section
variable {P:Program}{J:Judge P}{Q:Gs_}{b:Frame}{n:Nat}{ds:Ld_}{ops:Ao_}{k:Li_}{cs:Lf_}{m fuel:Nat}{D:Nat→Bool}{listed:Array Bool}{L:Env}{E H:LH}{S:List Seg}
end
end Pal
namespace Pal
open Go Go.Conc
section
variable {P:Program}{J:Judge P}{Q:Gs_}{b:Frame}{n:Nat}{L L':Env}{ds:Ld_}{k:Li_}{cs:Lf_}{s:St}{ops:Ao_}{E H:LH}{S:List Seg}{i:Nat}{rest:List Nat}
variable {d:Option Tmp}{x y:Operand}{t u ty e e2:TypeId}{p:String}{af:Ae_}{g:On_}{v w:Value}
theorem Ck{α:Type}{s:St}{ρ:Operand→Value}{x y:Operand}{d:Option Tmp}{t ty e:TypeId}{p:String}{af:Ae_}{g:On_}{kd:IntKind}{xs:List α}{xv:α}{m:Int}{a:Az}{bk c K:Nat}(O:a=some ⟨bk,0,none⟩)(hm:ix xs m=some xv)(ht:P.underlying t=some (.slice e))(U:Br P e=some K)(V:ρ x= .slice a xs.length c)(Y:ρ y= .int kd m):
  Yl P ⟨d,.indexAddr t x y,ty,p,af,g⟩ ρ s (.pointer (some ⟨bk,m.toNat*K,none⟩)):=by
 subst O;exact Od hm ht U V Y
abbrev rs(q:Nat×Obj)(K:Seg)(p:Nat×Obj)(g2:Seg):Seg:=q::(K++ [p]++g2)
end
end Pal
