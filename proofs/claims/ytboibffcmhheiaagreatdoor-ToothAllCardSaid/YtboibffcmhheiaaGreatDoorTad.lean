/- ToothAll: gone through one by one, all horses say what the program says Part 4 of 8. -/
import Derived.Test.YtboibffcmhheiaaGreatDoorTab
import Derived.Test.YtboibffcmhheiaaGreatDoorTac
import Derived.Sort.AssemblyPlain
import Derived.Sort.Walk13a
set_option linter.all false
set_option maxRecDepth 100000
namespace Pal
open Go Go.Conc Go.Proofs
open Go.Proofs.Tryz
variable {J:Judge Tryz.prog}{E:LH}
def R6:List Nat:= [0,1,2,2,3,3,3,3,4,4,4,4,4,4,4,4,5,5,5,5,5,5,5,5,5,5,5,5,5,5,5,5,6,6,6,6,6,6,6,6,6,6,6,6,6,6,6,6,6,6,6,6,6,6,6,6,6,6,6,6,6,6,6,6,7,7,7,7,7,7,7,7,7,7,7,7,7,7,7,7,7,7,7,7,7,7,7,7,7,7,7,7,7,7,7,7,7,7,7,7,7,7,7,7,7,7,7,7,7,7,7,7,7,7,7,7,7,7,7,7,7,7,7,7,7,7,7,7,8,8,8,8,8,8,8,8,8,8,8,8,8,8,8,8,8,8,8,8,8,8,8,8,8,8,8,8,8,8,8,8,8,8,8,8,8,8,8,8,8,8,8,8,8,8,8,8,8,8,8,8,8,8,8,8,8,8,8,8,8,8,8,8,8,8,8,8,8,8,8,8,8,8,8,8,8,8,8,8,8,8,8,8,8,8,8,8,8,8,8,8,8,8,8,8,8,8,8,8,8,8,8,8,8,8,8,8,8,8,8,8,8,8,8,8,8,8,8,8,8,8,8,8,8,8,8,8]
def f187(fuel:Nat)(p0:Nat):Option Int:= Option.bind (if(((4294967296):Nat):Int)≤(((p0):Nat):Int) then(some (p0>>>32,32)) else(some (p0,0))) fun K=> Option.bind (if(((65536):Nat):Int)≤(((K.1):Nat):Int) then((Av (K.2+16)).bind fun V=> some (K.1>>>16,V)) else(some K)) fun O=> Option.bind (if(((256):Nat):Int)≤(((O.1):Nat):Int) then((Av (O.2+8)).bind fun W=> some (O.1>>>8,W)) else(some O)) fun U=> (LA R6 (((((U.1) % 256):Nat):Int))).bind fun Z=> (Av (((Z):Nat):Int)).bind fun aa=> (Av (U.2+aa)).bind fun ab=> some ab
theorem XG{p0:Nat}{fuel:Nat}{r:Int}(V:f187 fuel p0=some r):AU J 187 [.int .u64 ((p0:Nat):Int)] E [] (fun w E' B'=>w=iV r∧B'= []):=by
 refine Bj func187 fun Q aQ cs H W ah=>?_;unfold f187 at V;obtain⟨K,ai,aj⟩:=bs V;refine zg 10 rfl (CM [] [(0,.int .u64 ((K.1:Nat):Int)),(2,iV K.2)] (fun aR ak Z=>?_) (fun aa=>?_))
 ·obtain⟨O,al,am⟩:=bs aj;refine zg 6 rfl (CM [] [(0,.int .u64 ((O.1:Nat):Int)),(2,iV O.2)] (fun aS an ab=>?_) (fun ae=>?_))
  ·obtain⟨U,ao,ap⟩:=bs am;refine zg 6 rfl (CM [] [(0,.int .u64 ((U.1:Nat):Int)),(2,iV U.2)] (fun aT aq ar=>?_) (fun ag=>?_))
   ·refine zg 4 rfl (Ay (v:= .int .u8 (((U.1) % 256:Nat):Int)) rfl (fun ρ h=>WJ underlying90 underlying5 (h _ _ rfl)) ?_);obtain⟨au,av,aw⟩:=bs ap;refine Ay (v:= .int .u8 ((au:Nat):Int)) rfl (fun ρ h=>N7 (l:=R6) (by decide+kernel) underlying9 (h _ _ rfl) (h _ _ rfl) av) ?_;obtain⟨ay,az,aA⟩:=bs aw;refine Ay (v:=iV ay) rfl (fun ρ h=>RZ underlying5 underlying3 (h _ _ rfl) az) ?_;obtain⟨aU,aB,aC⟩:=bs aA;refine A9 aB rfl rfl rfl (zg 2 rfl ?_);obtain rfl:=oi aC;exact AL func187 rfl rfl (ah ((ak.Ab an).Ab aq) rfl ⟨rfl,rfl⟩ ar)
   ·refine AM ao (fun aD aE=>?_) (fun aD aF=>?_)
    ·refine zg 3 rfl (Ay (v:= .int .u64 ((O.1>>>8:Nat):Int)) rfl (fun ρ h=>Jx 8 (h _ _ rfl) (h _ _ rfl) (by decide)) ?_);obtain⟨aV,aG,aH⟩:=bs aE;refine zg 4 rfl (A9 aG rfl rfl rfl ?_);refine zg 2 rfl ?_;obtain rfl:=oi aH;exact ag Aq ab rfl
    ·refine JL.skip ?_;obtain rfl:=oi aF;exact ag Aq ab rfl
  ·refine AM al (fun aI aJ=>?_) (fun aI aK=>?_)
   ·refine zg 3 rfl (Ay (v:= .int .u64 ((K.1>>>16:Nat):Int)) rfl (fun ρ h=>Jx 16 (h _ _ rfl) (h _ _ rfl) (by decide)) ?_);obtain⟨aW,aL,aM⟩:=bs aJ;refine zg 4 rfl (A9 aL rfl rfl rfl ?_);refine zg 2 rfl ?_;obtain rfl:=oi aM;exact ae Aq Z rfl
   ·refine JL.skip ?_;obtain rfl:=oi aK;exact ae Aq Z rfl
 ·refine AM ai (fun aN aO=>?_) (fun aN aP=>?_)
  ·refine zg 3 rfl (Ay (v:= .int .u64 ((p0>>>32:Nat):Int)) rfl (fun ρ h=>Jx 32 (h _ _ rfl) (h _ _ rfl) (by decide)) ?_);refine zg 5 rfl ?_;obtain rfl:=oi aO;exact aa Aq W rfl
  ·refine JL.skip ?_;obtain rfl:=oi aP;exact aa Aq W rfl
def f163(fuel:Nat)(p0:Nat):Option Int:= (f187 fuel p0).bind fun K=> some K
theorem Sz{p0:Nat}{fuel:Nat}{r:Int}(K:f163 fuel p0=some r):AU J 163 [.int .u64 ((p0:Nat):Int)] E [] (fun w E' B'=>w=iV r∧B'= []):=by
 refine Bj func163 fun Q ab cs H O U=>?_;unfold f163 at K;obtain⟨ae,V,W⟩:=bs K;refine zg 10 rfl (BJ (XG V) rfl rfl (A3 func187 rfl) O fun ag Z aa=>?_);refine zg 2 rfl ?_;obtain rfl:=oi W;exact AL func163 rfl rfl (U Z rfl ⟨rfl,rfl⟩ aa)
def f134(fuel:Nat)(p0:Bx)(p1:Bx):Option Int:= (Av (p0.1 - p1.1)).bind fun K=> some K
theorem G6{K:Ao}{c2:Nat}{O:Ao}{U:Nat}{p0:Bx}{p1:Bx}(al:Ap DD E K c2 p0.2.2)(am:Ap DD E O U p1.2.2){fuel:Nat}{r:Int}(V:f134 fuel p0 p1=some r):AU J 134 [.agg #[iV p0.1,iV p0.2.1,sV K p0.2.2 c2],.agg #[iV p1.1,iV p1.2.1,sV O p1.2.2 U]] E [] (fun w E' B'=>w=iV r∧B'= []):=by
 refine Bj func134 fun Q an cs H Z aa=>?_;unfold f134 at V;refine zg 2 rfl (Cy Z fun ao ap ab ae ag=>?_);refine Cy ag fun aq ar W ah ai=>?_;refine zg 4 rfl (JL.fl 0 (ae.Ai W) underlying133 AN Bq ?_);refine JL.fl 0 ah underlying133 AN Bq ?_;obtain⟨au,aj,ak⟩:=bs V;refine Cd aj rfl rfl rfl (zg 2 rfl ?_);obtain rfl:=oi ak;exact AL func134 rfl rfl (aa (ab.Ab W) rfl ⟨rfl,rfl⟩ ai)
def JE(fuel:Nat)(p1:Int)(K:Int×(List Bx)):Option (Bn (Int×(List Bx)) ((List Bx))):= Option.bind (if p1<K.1 then((ix K.2 K.1).bind fun V=> (Av (K.1 - 1)).bind fun W=> (ix K.2 W).bind fun Z=> (f134 fuel V Z).bind fun aa=> some (decide (aa<0))) else(some false)) fun ab=> if ab=true then((Av (K.1 - 1)).bind fun O=> (Av (K.1 - 1)).bind fun ae=> (ix K.2 ae).bind fun U=> (ix K.2 K.1).bind fun ag=> (ix (K.2.set (Int.toNat K.1) U) O).bind fun ai=> (Av (K.1 - 1)).bind fun ah=> some (.more (ah,((K.2.set (Int.toNat K.1) U).set (Int.toNat O) ag)))) else(some (.done K.2))
def IZ(fuel:Nat)(p1:Int)(p2:Int)(K:Int×(List Bx)):Option (Bn (Int×(List Bx)) ((List Bx))):= if K.1<p2 then(Option.bind (iter (JE fuel p1) fuel K) fun O=> (Av (K.1+1)).bind fun U=> some (.more (U,O))) else(some (.done K.2))
def f178(fuel:Nat)(p0:List Bx)(p1:Int)(p2:Int):Option ((List Bx)):= (Av (p1+1)).bind fun K=> Option.bind (iter (IZ fuel p1 p2) fuel (K,p0)) fun O=> some O
theorem R4{K:Nat}{U:Nat}{V:Nat}{aq:AA}{p0:List (Bx)}{p1:Int}{p2:Int}(hW:WL 133 Cr E K U V aq p0){fuel:Nat}{r:(List Bx)}(aD:f178 fuel p0 p1 p2=some r):AU J 178 [.slice (A2 K) V U,iV p1,iV p2,(fV 134)] E [(K,.cells aq 133 (0,0))] (fun w E' B'=>∃(aE:AA),w= .tuple #[]∧B'= [(K,.cells aE 133 (0,0))]∧WL 133 Cr E' K U V aE r):=by
 refine Bj func178 fun Q b3 cs H aX aY=>?_;unfold f178 at aD;obtain⟨b4,aZ,a0⟩:=bs aD;refine zg 3 rfl (A9 aZ rfl rfl rfl ?_);obtain⟨a1,a2,a3⟩:=bs a0;refine zg 2 rfl (Bs (fun L s=>∃(ar:LH) (f17:AA),Jn E H ar [bX K f17 133] [] L s (WL 133 Cr ar K U V f17 a1)) ?_ ?_)
 ·rintro _ _ ⟨ar,f17,rfl,rfl,a4,a5,a6⟩;obtain rfl:=oi a3;exact JL.fin (v:= .tuple #[]) rfl rfl (B6.list func178 rfl (vs:= []) trivial) (aY a4 rfl ⟨f17,rfl,(by first | rfl | simp | (simp [Value.cells])),a6⟩ a5)
 ·intro a7;refine JL.block (CE a2 (fun L s ae=>∃(ab:LH) (f25:AA),Jn E H ab [bX K f25 133] [(0,.slice (A2 K) V U),(1,iV p1),(2,iV p2),(3,(fV 134)),(8,iV ae.1)] L s (WL 133 Cr ab K U V f25 ae.2)) ⟨E,aq,rfl,rfl,Aq,aX,hW⟩ ?_);rintro _ _ ae ⟨ab,f25,rfl,rfl,aF,aG,aH⟩ a8 ⟨b5,au⟩ a9;have aI:=au;unfold IZ at aI;refine zg 7 rfl (AM aI (fun ba bb=>?_) (fun ba bc=>?_))
  ·obtain⟨aJ,bd,be⟩:=bs bb;refine zg 8 rfl (Bs (fun L s=>∃(am:LH) (f48:AA),Jn ab H am [bX K f48 133] [(0,.slice (A2 K) V U),(1,iV p1),(2,iV p2),(3,(fV 134)),(8,iV ae.1)] L s (WL 133 Cr am K U V f48 aJ)) ?_ ?_)
   ·rintro _ _ ⟨am,f48,rfl,rfl,bf,bg,bh⟩;obtain⟨bi,bj,bl⟩:=bs be;refine zg 3 rfl (A9 bj rfl rfl rfl ?_);refine zg 2 rfl ?_;obtain rfl:=oi bl;exact Aw (a9 _ _ (bi,aJ) ⟨am,f48,rfl,rfl,(aF.Ab bf),bg,bh⟩ au) rfl
   ·intro bm;refine JL.block (CE bd (fun L s aa=>∃(aj:LH) (f58:AA),Jn ab H aj [bX K f58 133] [(0,.slice (A2 K) V U),(1,iV p1),(2,iV p2),(3,(fV 134)),(8,iV ae.1),(9,iV aa.1)] L s (WL 133 Cr aj K U V f58 aa.2)) ⟨ab,f25,rfl,rfl,Aq,aG,aH⟩ ?_);rintro _ _ aa ⟨aj,f58,rfl,rfl,aK,ak,O⟩ bn ⟨b6,av⟩ bo;have aL:=av;unfold JE at aL;refine zg 2 rfl (DI 17 [K] ⟨⟨0,_,rfl⟩,trivial⟩ ak fun ht=>?_);refine Bh ht rfl [0,1,2,3] rfl ?_;obtain⟨bp,aM,bq⟩:=bs aL;refine FR 0 #[true,true,true,true,true,true,true,true,true,true,true,true,true,true,true,true,true] (fun L s=>∃(an:LH),Jm aj H an [bX K f58 133] [(0,.slice (A2 K) V U),(1,iV p1),(2,iV p2),(3,(fV 134)),(8,iV ae.1),(9,iV aa.1),(34,.bool bp)] L s) ?_ ?_
    ·rintro _ _ ⟨an,rfl,rfl,ag,ao⟩;refine AV.fin (by decide+kernel) (BK bq (fun br bu=>?_) (fun br bv=>?_))
     ·refine zg 3 rfl (G3 [15,17] [K] mixed rfl ?_);refine Bt 0 rfl rfl (Bt 1 rfl rfl ?_);refine Bt 2 rfl rfl (Bt 3 rfl rfl ?_);obtain⟨aN,bw,bx⟩:=bs bu;refine GM 4 true rfl rfl (fun ρ h s' hs=>Dc (h _ _ rfl) (h _ _ rfl) bw) (Bt 5 rfl rfl ?_);refine Bt 6 rfl rfl ?_;obtain⟨b7,bz,bA⟩:=bs bx;refine GM 7 true rfl rfl (fun ρ h s' hs=>Dc (h _ _ rfl) (h _ _ rfl) bz) ?_;obtain⟨W,aO,bB⟩:=bs bA;obtain⟨_,⟨_,_,rfl,rfl,⟨_,_,rfl,rfl,⟨aw,ay,rfl,bC⟩⟩⟩,bD⟩:=WL.at (O.Ai ag) aO;refine Cw 8 O.2 aO underlying130 AS ?_;refine En 9 [iV W.1,iV W.2.1,sV aw W.2.2 ay] 0 ao bD Cn AS ?_;refine Bt 10 rfl rfl (Bt 11 rfl rfl ?_);obtain⟨Z,ap,bE⟩:=bs bB;obtain⟨_,⟨_,_,rfl,rfl,⟨_,_,rfl,rfl,⟨az,aA,rfl,bF⟩⟩⟩,bG⟩:=WL.at (O.Ai ag) ap;refine Cw 12 O.2 ap underlying130 AS ?_;refine En 13 [iV Z.1,iV Z.2.1,sV az Z.2.2 aA] 0 ao bG Cn AS ?_;refine Cw 14 O.2 ap underlying130 AS ?_;have al:=WL.put (x':=W) (ws':= [iV W.1,iV W.2.1,sV aw W.2.2 ay]) (O.Ai ag) O.2 ap ⟨_,_,rfl,rfl,⟨_,_,rfl,rfl,⟨_,_,rfl,bC⟩⟩⟩;refine Em 15 0 ao AS al.2 fun bH=>?_;obtain⟨b8,aB,bI⟩:=bs bE;obtain⟨_,⟨_,_,rfl,rfl,⟨_,_,rfl,rfl,⟨b9,ca,rfl,cb⟩⟩⟩,cc⟩:=WL.at al.1 aB;refine Cw 16 (al.1).2 aB underlying130 AS ?_;have aP:=WL.put (x':=Z) (ws':= [iV Z.1,iV Z.2.1,sV az Z.2.2 aA]) al.1 (al.1).2 aB ⟨_,_,rfl,rfl,⟨_,_,rfl,rfl,⟨_,_,rfl,bF⟩⟩⟩;refine Em 17 0 bH AS aP.2 fun bJ=>?_;refine JB.fin (by decide+kernel) ?_;obtain⟨bK,bL,bM⟩:=bs bI;refine zg 3 rfl (Cd bL rfl rfl rfl ?_);refine zg 2 rfl ?_;obtain rfl:=oi bM;exact Aw (bo _ _ (bK,((aa.2.set (Int.toNat aa.1) W).set (Int.toNat aN) Z)) ⟨an,(A4 (A4 f58 (Int.toNat (aa.1)*3) [iV W.1,iV W.2.1,sV aw W.2.2 ay]) (Int.toNat (aN)*3) [iV Z.1,iV Z.2.1,sV az Z.2.2 aA]),rfl,rfl,(aK.Ab ag),bJ,aP.1⟩ av) rfl
     ·refine JL.exit rfl ?_;obtain rfl:=oi bv;obtain rfl:=bn _ av;exact Aw (bm _ _ ⟨an,f58,rfl,rfl,(aK.Ab ag),ao,(O.Ai ag)⟩) rfl
    ·intro aQ;refine FO (q:=p1<aa.1) (i:=21) rfl (fun aC=>?_) (fun aC=>?_)
     ·have bN:=ip aM aC;refine Bh ht rfl [4,5,6] rfl ?_;obtain⟨ah,aR,bO⟩:=bs bN;obtain⟨_,⟨_,_,rfl,rfl,⟨_,_,rfl,rfl,⟨aS,aT,rfl,bP⟩⟩⟩,bQ⟩:=WL.at O aR;refine Gb 7 ht (O).2 aR underlying130 AS ?_;refine Ed 8 ht [iV ah.1,iV ah.2.1,sV aS ah.2.2 aT] 0 ak bQ Cn AS ?_;refine Bh ht rfl [9,10] rfl ?_;obtain⟨cd,bR,bS⟩:=bs bO;refine Bw 11 ht rfl rfl (fun ρ h s' hs=>Dc (h _ _ rfl) (h _ _ rfl) bR) ?_;obtain⟨ai,aU,bT⟩:=bs bS;obtain⟨_,⟨_,_,rfl,rfl,⟨_,_,rfl,rfl,⟨aV,aW,rfl,bU⟩⟩⟩,bV⟩:=WL.at O aU;refine Gb 12 ht (O).2 aU underlying130 AS ?_;refine Ed 13 ht [iV ai.1,iV ai.2.1,sV aV ai.2.2 aW] 0 ak bV Cn AS ?_;obtain⟨ce,bW,bY⟩:=bs bT;refine HM (i:=14) ⟨⟨0,_,rfl⟩,trivial⟩ (vs:= [.agg #[iV ah.1,iV ah.2.1,sV aS ah.2.2 aT],.agg #[iV ai.1,iV ai.2.1,sV aV ai.2.2 aW]]) (G6 bP bU bW) (by decide+kernel) rfl rfl rfl rfl GX rfl ak ?_;rintro _ bZ _ b0 ⟨rfl,rfl⟩ b1;refine Bh ht rfl [15,16] rfl ?_;obtain rfl:=oi bY;refine Dg ?_ (aQ _ _ ⟨bZ,rfl,rfl,b0,b1⟩);exact⟨rfl,rfl,rfl,rfl,rfl,rfl,rfl,trivial⟩
     ·have b2:=im aM aC;refine Bh ht rfl [4,5,6,7,8,9,10,11,12,13,14,15,16] rfl ?_;obtain rfl:=oi b2;refine Dg ?_ (aQ _ _ ⟨aj,rfl,rfl,Aq,ak⟩);exact⟨rfl,rfl,rfl,rfl,rfl,rfl,rfl,trivial⟩
  ·refine JL.exit rfl ?_;obtain rfl:=oi bc;obtain rfl:=a8 _ au;exact Aw (a7 _ _ ⟨ab,f25,rfl,rfl,aF,aG,aH⟩) rfl
def f200(fuel:Nat)(p0:List Bx)(p1:Int)(p2:Int)(p3:Int):Option (Int×Int×Int):= (ix p0 p2).bind fun K=> (ix p0 p1).bind fun O=> (f134 fuel K O).bind fun U=> if U<0 then((Av (p3+1)).bind fun V=> some (p2,p1,V)) else(some (p1,p2,p3))
theorem OI{K:Nat}{aa:Nat}{ab:Nat}{W:AA}{bk:Nat}{p0:List (Bx)}{p1:Int}{p2:Int}{p3:Int}(hW:WL 133 Cr E K aa ab W p0){fuel:Nat}{r:Int×Int×Int}(ae:f200 fuel p0 p1 p2 p3=some r):AU J 200 [.slice (A2 K) ab aa,iV p1,iV p2,pV bk 0,(fV 134)] E ([(bk,.cells #[iV p3] 3 (0,0))]++ [(K,.cells W 133 (0,0))]) (fun w E' B'=>w= .tuple #[iV r.1,iV r.2.1]∧B'= [(bk,.cells #[iV r.2.2] 3 (0,0))]++ [(K,.cells W 133 (0,0))]):=by
 refine Bj func200 fun Q aE cs H O ag=>?_;unfold f200 at ae;refine DO (S':= [[(bk,.cells #[iV p3] 3 (0,0))],[(K,.cells W 133 (0,0))]]) (by simp) O fun O=>zg 7 rfl (DI 9 [K] ⟨⟨1,_,rfl⟩,trivial⟩ O fun ht=>?_);refine Bh ht rfl [0,1,2] rfl ?_;obtain⟨U,ah,an⟩:=bs ae;obtain⟨_,⟨_,_,rfl,rfl,⟨_,_,rfl,rfl,⟨ai,c4,rfl,ao⟩⟩⟩,ap⟩:=WL.at hW ah;refine Gb 3 ht (hW).2 ah underlying130 AS ?_;refine Ed 4 ht [iV U.1,iV U.2.1,sV ai U.2.2 c4] 1 O ap Cn AS ?_;refine Bh ht rfl [5,6] rfl ?_;obtain⟨V,aj,aq⟩:=bs an;obtain⟨_,⟨_,_,rfl,rfl,⟨_,_,rfl,rfl,⟨ak,al,rfl,ar⟩⟩⟩,au⟩:=WL.at hW aj;refine Gb 7 ht (hW).2 aj underlying130 AS ?_;refine Ed 8 ht [iV V.1,iV V.2.1,sV ak V.2.2 al] 1 O au Cn AS ?_;refine Cg [9,10] ?_;obtain⟨aF,av,aw⟩:=bs aq;refine Kx (vs:= [.agg #[iV U.1,iV U.2.1,sV ai U.2.2 c4],.agg #[iV V.1,iV V.2.1,sV ak V.2.2 al]]) (G6 ao ar av) rfl rfl rfl rfl GX rfl O ?_;rintro _ aG _ am ⟨rfl,rfl⟩ Z;refine zg 2 rfl (AM aw (fun ay az=>?_) (fun ay aA=>?_))
 ·refine zg 4 rfl (Ay (v:=iV p3) rfl (fun ρ h=>Yl.load Bq (h _ _ rfl) (Db (j:=0) (off:=0) Z rfl rfl)) ?_);obtain⟨aH,aB,aC⟩:=bs az;refine A9 aB rfl rfl rfl (zg 1 rfl ?_);refine BT 0 Z AN fun aD=>?_;refine zg 8 rfl ?_;obtain rfl:=oi aC;exact AL func200 rfl rfl (ag am rfl ⟨rfl,(by first | rfl | simp | (simp [Value.cells]))⟩ aD)
 ·refine zg 8 rfl ?_;obtain rfl:=oi aA;exact AL func200 rfl rfl (ag am rfl ⟨rfl,(by first | rfl | simp | (simp [Value.cells]))⟩ Z)
def f197(fuel:Nat)(p0:List Bx)(p1:Int)(p2:Int)(p3:Int)(p4:Int):Option (Int×Int):= (f200 fuel p0 p1 p2 p4).bind fun K=> (f200 fuel p0 K.2.1 p3 K.2.2).bind fun O=> (f200 fuel p0 K.1 O.1 O.2.2).bind fun U=> some U.2
theorem YD{K:Nat}{W:Nat}{Z:Nat}{O:AA}{bk:Nat}{p0:List (Bx)}{p1:Int}{p2:Int}{p3:Int}{p4:Int}(hW:WL 133 Cr E K W Z O p0){fuel:Nat}{r:Int×Int}(aa:f197 fuel p0 p1 p2 p3 p4=some r):AU J 197 [.slice (A2 K) Z W,iV p1,iV p2,iV p3,pV bk 0,(fV 134)] E ([(bk,.cells #[iV p4] 3 (0,0))]++ [(K,.cells O 133 (0,0))]) (fun w E' B'=>w=iV r.1∧B'= [(bk,.cells #[iV r.2] 3 (0,0))]++ [(K,.cells O 133 (0,0))]):=by
 refine Bj func197 fun Q aG cs H U ag=>?_;unfold f197 at aa;refine DO (S':= [[(bk,.cells #[iV p4] 3 (0,0))],[(K,.cells O 133 (0,0))]]) (by simp) U fun U=>?_;obtain⟨ah,ai,aj⟩:=bs aa;refine zg 11 rfl (Kz 0 1 rfl rfl U fun ak=>?_);refine B8 0 (OI hW ai) rfl rfl NI ak rfl ?_;rintro _ aH _ V ⟨rfl,rfl⟩ al;refine FA 0 rfl al fun am=>CG (S':= [[(bk,.cells #[iV ah.2.2] 3 (0,0))],[],[(K,.cells O 133 (0,0))]]) rfl am fun an=>?_;obtain⟨ao,ap,aq⟩:=bs aj;refine zg 13 rfl (Kz 0 2 rfl rfl an fun ar=>?_);refine B8 0 (OI (hW.Ai V) ap) rfl rfl NI ar rfl ?_;rintro _ aI _ ab ⟨rfl,rfl⟩ au;refine FA 0 rfl au fun av=>CG (S':= [[(bk,.cells #[iV ao.2.2] 3 (0,0))],[],[],[(K,.cells O 133 (0,0))]]) rfl av fun aw=>?_;obtain⟨ae,ay,az⟩:=bs aq;refine zg 13 rfl (Kz 0 3 rfl rfl aw fun aA=>?_);refine B8 0 (OI (hW.Ai (V.Ab ab)) ay) rfl rfl NI aA rfl ?_;rintro _ aJ _ aB ⟨rfl,rfl⟩ aC;refine FA 0 rfl aC fun aD=>CG (S':= [[(bk,.cells #[iV ae.2.2] 3 (0,0))],[],[],[],[(K,.cells O 133 (0,0))]]) rfl aD fun aE=>zg 11 rfl (CG (S':= [[(bk,.cells #[iV ae.2.2] 3 (0,0))],[],[],[],[(K,.cells O 133 (0,0))]]) rfl aE fun aF=>?_);obtain rfl:=oi az;exact AL func197 rfl rfl (ag ((V.Ab ab).Ab aB) rfl ⟨rfl,(by first | rfl | simp | (simp [Value.cells]))⟩ aF)
def f181(fuel:Nat)(p0:List Bx)(p1:Int)(p2:Int):Option (Int×Int):= (Av (p2 - p1)).bind fun K=> (HA K (4)).bind fun V=> (Av (V*1)).bind fun W=> (Av (p1+W)).bind fun Z=> (HA K (4)).bind fun aa=> (Av (aa*2)).bind fun ab=> (Av (p1+ab)).bind fun U=> (HA K (4)).bind fun ae=> (Av (ae*3)).bind fun ag=> (Av (p1+ag)).bind fun ah=> Option.bind (if 8≤K then(Option.bind (if 50≤K then(none) else(some ())) fun aj=> (f197 fuel p0 Z U ah 0).bind fun ai=> some ai) else(some (U,0))) fun O=> if O.2=0 then(some (O.1,1)) else(if O.2=12 then(some (O.1,2)) else(some (O.1,0)))
theorem Sw{K:Nat}{W:Nat}{Z:Nat}{O:AA}{p0:List (Bx)}{p1:Int}{p2:Int}(hW:WL 133 Cr E K W Z O p0){fuel:Nat}{r:Int×Int}(ag:f181 fuel p0 p1 p2=some r):AU J 181 [.slice (A2 K) Z W,iV p1,iV p2,(fV 134)] E [(K,.cells O 133 (0,0))] (fun w E' B'=>w= .tuple #[iV r.1,iV r.2]∧B'= [(K,.cells O 133 (0,0))]):=by
 refine Bj func181 fun Q bi cs H ak aa=>?_;unfold f181 at ag;obtain⟨bj,al,am⟩:=bs ag;refine zg 9 rfl (Cd al rfl rfl rfl ?_);refine zg 4 rfl (CN ak Cp fun U ah=>?_);obtain⟨an,ao,ap⟩:=bs am;refine zg 5 rfl (Ay (v:=iV an) rfl (fun ρ h=>KV (h _ _ rfl) (h _ _ rfl) ao) ?_);obtain⟨bl,aq,ar⟩:=bs ap;refine Ay rfl (fun ρ h=>IW (h _ _ rfl) (h _ _ rfl) aq) ?_;obtain⟨au,av,aw⟩:=bs ar;refine A9 av rfl rfl rfl ?_;obtain⟨ay,az,aA⟩:=bs aw;refine zg 6 rfl (Ay (v:=iV ay) rfl (fun ρ h=>KV (h _ _ rfl) (h _ _ rfl) az) ?_);obtain⟨bm,aB,aC⟩:=bs aA;refine Ay rfl (fun ρ h=>IW (h _ _ rfl) (h _ _ rfl) aB) ?_;obtain⟨aD,aE,aF⟩:=bs aC;refine A9 aE rfl rfl rfl ?_;obtain⟨aG,aH,aI⟩:=bs aF;refine zg 6 rfl (Ay (v:=iV aG) rfl (fun ρ h=>KV (h _ _ rfl) (h _ _ rfl) aH) ?_);obtain⟨bn,aJ,aK⟩:=bs aI;refine Ay rfl (fun ρ h=>IW (h _ _ rfl) (h _ _ rfl) aJ) ?_;obtain⟨aL,aM,aN⟩:=bs aK;refine A9 aM rfl rfl rfl ?_;obtain⟨ab,aO,aP⟩:=bs aN;refine zg 8 rfl (CM [bX K O 133,bX U #[iV ab.2] 3] [(11,pV U 0),(13,iV ab.1)] (fun bo ae V=>?_) (fun ai=>?_))
 ·refine zg 2 rfl (Ay (v:=iV ab.2) rfl (fun ρ h=>Yl.load Bq (h _ _ rfl) (Db (j:=1) (off:=0) V rfl rfl)) ?_);refine zg 7 rfl (AM aP (fun aQ aR=>?_) (fun aQ aS=>?_))
  ·refine zg 6 rfl (JS.drop 1 V rfl fun aT=>?_);obtain rfl:=oi aR;exact AL func181 rfl rfl (aa ae rfl ⟨rfl,(by first | rfl | simp | (simp [Value.cells]))⟩ aT)
  ·refine zg 5 rfl (AM aS (fun aU aV=>?_) (fun aU aW=>?_))
   ·refine zg 6 rfl (JS.drop 1 V rfl fun aX=>?_);obtain rfl:=oi aV;exact AL func181 rfl rfl (aa ae rfl ⟨rfl,(by first | rfl | simp | (simp [Value.cells]))⟩ aX)
   ·refine zg 6 rfl (JS.drop 1 V rfl fun aY=>?_);obtain rfl:=oi aW;exact AL func181 rfl rfl (aa ae rfl ⟨rfl,(by first | rfl | simp | (simp [Value.cells]))⟩ aY)
 ·refine AM aO (fun aZ a0=>?_) (fun aZ a1=>?_)
  ·obtain⟨bp,a2,a3⟩:=bs a0;refine zg 6 rfl (CM [bX K O 133,bX U #[iV 0] 3] [(0,.slice (A2 K) Z W),(3,(fV 134)),(8,iV 0),(9,iV 0),(11,pV U 0),(12,iV au),(13,iV aD),(14,iV aL)] (fun bq aj a4=>?_) (fun a5=>?_))
   ·obtain⟨a6,a7,a8⟩:=bs a3;refine zg 6 rfl (Kz 1 0 rfl rfl a4 fun a9=>?_);refine B8 1 (YD (hW.Ai aj) a7) rfl rfl (A3 func197 rfl) a9 rfl ?_;rintro _ br _ ba ⟨rfl,rfl⟩ bb;refine FA 1 rfl bb fun bc=>CG (S':= [[],[(U,.cells #[iV a6.2] 3 (0,0))],[(K,.cells O 133 (0,0))]]) rfl bc fun bd=>zg 2 rfl (JS.swap 1 2 rfl rfl rfl bd fun be=>?_);obtain rfl:=oi a8;exact ai (aj.Ab ba) be rfl
   ·refine AM a2 (fun bf bg=>?_) (fun bf bh=>?_)
    ·refine zg 5 rfl ?_;cases bg
    ·refine JL.skip ?_;obtain rfl:=oi bh;exact a5 Aq ah rfl
  ·refine JL.skip ?_;obtain rfl:=oi a1;exact ai Aq ah rfl
end Pal
namespace Pal
open Go Go.Conc Go.Proofs
open Go.Proofs.Tryz
variable {J:Judge Tryz.prog}{E:LH}
def HQ(fuel:Nat)(K:Int×Int×(List Bx)):Option (Bn (Int×Int×(List Bx)) ((List Bx))):= if K.1<K.2.1 then((ix K.2.2 K.2.1).bind fun O=> (ix K.2.2 K.1).bind fun U=> (Av (K.1+1)).bind fun V=> (Av (K.2.1 - 1)).bind fun W=> some (.more (V,W,((K.2.2.set (Int.toNat K.1) O).set (Int.toNat K.2.1) U)))) else(some (.done K.2.2))
def f182(fuel:Nat)(p0:List Bx)(p1:Int)(p2:Int):Option ((List Bx)):= (Av (p2 - 1)).bind fun K=> Option.bind (iter (HQ fuel) fuel (p1,K,p0)) fun O=> some O
theorem R3{K:Nat}{Z:Nat}{aa:Nat}{ai:AA}{p0:List (Bx)}{p1:Int}{p2:Int}(hW:WL 133 Cr E K Z aa ai p0){fuel:Nat}{r:(List Bx)}(ap:f182 fuel p0 p1 p2=some r):AU J 182 [.slice (A2 K) aa Z,iV p1,iV p2,(fV 134)] E [(K,.cells ai 133 (0,0))] (fun w E' B'=>∃(aq:AA),w= .tuple #[]∧B'= [(K,.cells aq 133 (0,0))]∧WL 133 Cr E' K Z aa aq r):=by
 refine Bj func182 fun Q a2 cs H ay az=>?_;unfold f182 at ap;obtain⟨a3,aA,aB⟩:=bs ap;refine zg 8 rfl (Cd aA rfl rfl rfl ?_);obtain⟨aC,aD,aE⟩:=bs aB;refine zg 2 rfl (Bs (fun L s=>∃(aj:LH) (f17:AA),Jn E H aj [bX K f17 133] [] L s (WL 133 Cr aj K Z aa f17 aC)) ?_ ?_)
 ·rintro _ _ ⟨aj,f17,rfl,rfl,aF,aG,aH⟩;obtain rfl:=oi aE;exact JL.fin (v:= .tuple #[]) rfl rfl (B6.list func182 rfl (vs:= []) trivial) (az aF rfl ⟨f17,rfl,(by first | rfl | simp | (simp [Value.cells])),aH⟩ aG)
 ·intro aI;refine JL.block (CE aD (fun L s W=>∃(ab:LH) (f25:AA),Jn E H ab [bX K f25 133] [(0,.slice (A2 K) aa Z),(8,iV W.1),(9,iV W.2.1)] L s (WL 133 Cr ab K Z aa f25 W.2.2)) ⟨E,ai,rfl,rfl,Aq,ay,hW⟩ ?_);rintro _ _ W ⟨ab,f25,rfl,rfl,ar,ae,V⟩ aJ ⟨a4,ak⟩ aK;have au:=ak;unfold HQ at au;refine zg 7 rfl (AM au (fun aL aM=>?_) (fun aL aN=>?_))
  ·refine zg 3 rfl (G3 [13,15] [K] mixed rfl ?_);refine Bt 0 rfl rfl (Bt 1 rfl rfl ?_);refine Bt 2 rfl rfl (Bt 3 rfl rfl ?_);refine Bt 4 rfl rfl (Bt 5 rfl rfl ?_);obtain⟨O,ag,aO⟩:=bs aM;obtain⟨_,⟨_,_,rfl,rfl,⟨_,_,rfl,rfl,⟨al,am,rfl,aP⟩⟩⟩,aQ⟩:=WL.at V ag;refine Cw 6 V.2 ag underlying130 AS ?_;refine En 7 [iV O.1,iV O.2.1,sV al O.2.2 am] 0 ae aQ Cn AS ?_;refine Bt 8 rfl rfl (Bt 9 rfl rfl ?_);obtain⟨U,ah,aR⟩:=bs aO;obtain⟨_,⟨_,_,rfl,rfl,⟨_,_,rfl,rfl,⟨an,ao,rfl,aS⟩⟩⟩,aT⟩:=WL.at V ah;refine Cw 10 V.2 ah underlying130 AS ?_;refine En 11 [iV U.1,iV U.2.1,sV an U.2.2 ao] 0 ae aT Cn AS ?_;refine Cw 12 V.2 ah underlying130 AS ?_;have av:=WL.put (x':=O) (ws':= [iV O.1,iV O.2.1,sV al O.2.2 am]) V V.2 ah ⟨_,_,rfl,rfl,⟨_,_,rfl,rfl,⟨_,_,rfl,aP⟩⟩⟩;refine Em 13 0 ae AS av.2 fun aU=>?_;refine Cw 14 V.2 ag underlying130 AS ?_;have aw:=WL.put (x':=U) (ws':= [iV U.1,iV U.2.1,sV an U.2.2 ao]) av.1 V.2 ag ⟨_,_,rfl,rfl,⟨_,_,rfl,rfl,⟨_,_,rfl,aS⟩⟩⟩;refine Em 15 0 aU AS aw.2 fun aV=>?_;refine JB.fin (by decide+kernel) ?_;obtain⟨aW,aX,aY⟩:=bs aR;refine zg 3 rfl (A9 aX rfl rfl rfl ?_);obtain⟨aZ,a0,a1⟩:=bs aY;refine zg 4 rfl (Cd a0 rfl rfl rfl ?_);refine zg 3 rfl ?_;obtain rfl:=oi a1;exact Aw (aK _ _ (aW,aZ,((W.2.2.set (Int.toNat W.1) O).set (Int.toNat W.2.1) U)) ⟨ab,(A4 (A4 f25 (Int.toNat (W.1)*3) [iV O.1,iV O.2.1,sV al O.2.2 am]) (Int.toNat (W.2.1)*3) [iV U.1,iV U.2.1,sV an U.2.2 ao]),rfl,rfl,ar,aV,aw.1⟩ ak) rfl
  ·refine JL.exit rfl ?_;obtain rfl:=oi aN;obtain rfl:=aJ _ ak;exact Aw (aI _ _ ⟨ab,f25,rfl,rfl,ar,ae,V⟩) rfl
def I0(fuel:Nat)(p2:Int)(O:Int×Int×(List Bx))(K:Int):Option (Bn Int Int):= Option.bind (if K<p2 then((ix O.2.2 K).bind fun U=> (Av (K - 1)).bind fun V=> (ix O.2.2 V).bind fun W=> (f134 fuel U W).bind fun Z=> some (decide (¬(Z<0)))) else(some false)) fun aa=> if aa=true then((Av (K+1)).bind fun ab=> some (.more ab)) else(some (.done K))
def Ru(fuel:Nat)(K:Int×(List Bx)):Option (Bn (Int×(List Bx)) ((List Bx))):= if 1≤K.1 then((ix K.2 K.1).bind fun O=> (Av (K.1 - 1)).bind fun W=> (ix K.2 W).bind fun Z=> (f134 fuel O Z).bind fun aa=> if ¬(aa<0) then(some (.done K.2)) else((Av (K.1 - 1)).bind fun U=> (Av (K.1 - 1)).bind fun ab=> (ix K.2 ab).bind fun V=> (ix (K.2.set (Int.toNat K.1) V) U).bind fun ag=> (Av (K.1 - 1)).bind fun ae=> some (.more (ae,((K.2.set (Int.toNat K.1) V).set (Int.toNat U) O))))) else(some (.done K.2))
def Rb(fuel:Nat)(p2:Int)(K:Int×(List Bx)):Option (Bn (Int×(List Bx)) ((List Bx))):= if K.1<p2 then((ix K.2 K.1).bind fun O=> (Av (K.1 - 1)).bind fun W=> (ix K.2 W).bind fun Z=> (f134 fuel O Z).bind fun aa=> if ¬(aa<0) then(some (.done K.2)) else((Av (K.1 - 1)).bind fun U=> (Av (K.1 - 1)).bind fun ab=> (ix K.2 ab).bind fun V=> (ix (K.2.set (Int.toNat K.1) V) U).bind fun ag=> (Av (K.1+1)).bind fun ae=> some (.more (ae,((K.2.set (Int.toNat K.1) V).set (Int.toNat U) O))))) else(some (.done K.2))
def Mr(fuel:Nat)(p1:Int)(p2:Int)(K:Int×Int×(List Bx)):Option (Bn (Int×Int×(List Bx)) ((Bool×(List Bx))⊕((List Bx)))):= if K.2.1<5 then(Option.bind (iter (I0 fuel p2 K) fuel K.1) fun O=> if O=p2 then(some (.done (Sum.inl (true,K.2.2)))) else((Av (p2 - p1)).bind fun aa=> if aa<50 then(some (.done (Sum.inl (false,K.2.2)))) else((Av (O - 1)).bind fun U=> (Av (O - 1)).bind fun ab=> (ix K.2.2 ab).bind fun V=> (ix K.2.2 O).bind fun W=> (ix (K.2.2.set (Int.toNat O) V) U).bind fun an=> (Av (O - p1)).bind fun ae=> Option.bind (if 2≤ae then((Av (O - 1)).bind fun ag=> Option.bind (iter (Ru fuel) fuel (ag,((K.2.2.set (Int.toNat O) V).set (Int.toNat U) W))) fun ah=> some ah) else(some ((K.2.2.set (Int.toNat O) V).set (Int.toNat U) W))) fun Z=> (Av (p2 - O)).bind fun ai=> Option.bind (if 2≤ai then((Av (O+1)).bind fun aj=> Option.bind (iter (Rb fuel p2) fuel (aj,Z)) fun ak=> some ak) else(some Z)) fun al=> (Av (K.2.1+1)).bind fun am=> some (.more (O,am,al))))) else(some (.done (Sum.inr K.2.2)))
def f183(fuel:Nat)(p0:List Bx)(p1:Int)(p2:Int):Option (Bool×(List Bx)):= (Av (p1+1)).bind fun K=> Option.bind (iter (Mr fuel p1 p2) fuel (K,0,p0)) fun O=> Sum.elim (fun r=>some r) (fun U=> some (false,U)) O
theorem Sc{K:Nat}{O:Nat}{U:Nat}{a5:AA}{p0:List (Bx)}{p1:Int}{p2:Int}(hW:WL 133 Cr E K O U a5 p0){fuel:Nat}{r:Bool×(List Bx)}(bo:f183 fuel p0 p1 p2=some r):AU J 183 [.slice (A2 K) U O,iV p1,iV p2,(fV 134)] E [(K,.cells a5 133 (0,0))] (fun w E' B'=>∃(bp:AA),w= .bool r.1∧B'= [(K,.cells bp 133 (0,0))]∧WL 133 Cr E' K O U bp r.2):=by
 refine Bj func183 fun Q fe cs H cg a6=>?_;unfold f183 at bo;obtain⟨ff,ci,ck⟩:=bs bo;refine zg 7 rfl (A9 ci rfl rfl rfl ?_);obtain⟨bq,cm,a7⟩:=bs ck;refine zg 7 rfl (Bs (fun L s=>∃(a8:(List Bx)) (a9:LH) (f18:AA),bq=Sum.inr a8∧Jn E H a9 [bX K f18 133] [] L s (WL 133 Cr a9 K O U f18 a8)) ?_ ?_)
 ·rintro _ _ ⟨a8,a9,f18,rfl,rfl,rfl,cn,co,cp⟩;have cq:=elim_inr a7;refine zg 4 rfl ?_;obtain rfl:=oi cq;exact AL func183 rfl rfl (a6 cn rfl ⟨f18,rfl,(by first | rfl | simp | (simp [Value.cells])),cp⟩ co)
 ·intro cr;refine JL.block (CE cm (fun L s Z=>∃(aP:LH) (f27:AA),Jn E H aP [bX K f27 133] [(0,.slice (A2 K) U O),(1,iV p1),(2,iV p2),(3,(fV 134)),(9,iV Z.1),(10,iV Z.2.1)] L s (WL 133 Cr aP K O U f27 Z.2.2)) ⟨E,a5,rfl,rfl,Aq,cg,hW⟩ ?_);rintro _ _ Z ⟨aP,f27,rfl,rfl,aQ,br,aa⟩ ba ⟨fg,az⟩ ct;have bu:=az;unfold Mr at bu;refine zg 6 rfl (AM bu (fun cu cv=>?_) (fun cu cw=>?_))
  ·obtain⟨ak,cy,cz⟩:=bs cv;refine zg 4 rfl (CM [bX K f27 133] [(0,.slice (A2 K) U O),(1,iV p1),(2,iV p2),(3,(fV 134)),(9,iV ak),(10,iV Z.2.1)] (fun aA al aB=>?_) (fun cA=>?_))
   ·refine zg 7 rfl (AM cz (fun cB cC=>?_) (fun cB cD=>?_))
    ·refine zg 4 rfl ?_;obtain rfl:=oi cC;obtain rfl:=ba _ az;have cE:=elim_inl a7;obtain rfl:=oi cE;exact AL func183 rfl rfl (a6 (aQ.Ab al) rfl ⟨f27,rfl,(by first | rfl | simp | (simp [Value.cells])),(aa.Ai al)⟩ aB)
    ·obtain⟨fh,cF,cG⟩:=bs cD;refine zg 6 rfl (Cd cF rfl rfl rfl ?_);refine zg 2 rfl (AM cG (fun cH cI=>?_) (fun cH cJ=>?_))
     ·refine zg 4 rfl ?_;obtain rfl:=oi cI;obtain rfl:=ba _ az;have cK:=elim_inl a7;obtain rfl:=oi cK;exact AL func183 rfl rfl (a6 (aQ.Ab al) rfl ⟨f27,rfl,(by first | rfl | simp | (simp [Value.cells])),(aa.Ai al)⟩ aB)
     ·refine zg 2 rfl (G3 [15,17] [K] mixed rfl ?_);refine Bt 0 rfl rfl (Bt 1 rfl rfl ?_);refine Bt 2 rfl rfl (Bt 3 rfl rfl ?_);obtain⟨bv,cM,cN⟩:=bs cJ;refine GM 4 true rfl rfl (fun ρ h s' hs=>Dc (h _ _ rfl) (h _ _ rfl) cM) (Bt 5 rfl rfl ?_);refine Bt 6 rfl rfl ?_;obtain⟨fj,cO,cP⟩:=bs cN;refine GM 7 true rfl rfl (fun ρ h s' hs=>Dc (h _ _ rfl) (h _ _ rfl) cO) ?_;obtain⟨ab,bw,cQ⟩:=bs cP;obtain⟨_,⟨_,_,rfl,rfl,⟨_,_,rfl,rfl,⟨aR,aS,rfl,cR⟩⟩⟩,cT⟩:=WL.at (aa.Ai al) bw;refine Cw 8 aa.2 bw underlying130 AS ?_;refine En 9 [iV ab.1,iV ab.2.1,sV aR ab.2.2 aS] 0 aB cT Cn AS ?_;refine Bt 10 rfl rfl (Bt 11 rfl rfl ?_);obtain⟨ae,aT,cV⟩:=bs cQ;obtain⟨_,⟨_,_,rfl,rfl,⟨_,_,rfl,rfl,⟨aU,aV,rfl,cW⟩⟩⟩,cX⟩:=WL.at (aa.Ai al) aT;refine Cw 12 aa.2 aT underlying130 AS ?_;refine En 13 [iV ae.1,iV ae.2.1,sV aU ae.2.2 aV] 0 aB cX Cn AS ?_;refine Cw 14 aa.2 aT underlying130 AS ?_;have aC:=WL.put (x':=ab) (ws':= [iV ab.1,iV ab.2.1,sV aR ab.2.2 aS]) (aa.Ai al) aa.2 aT ⟨_,_,rfl,rfl,⟨_,_,rfl,rfl,⟨_,_,rfl,cR⟩⟩⟩;refine Em 15 0 aB AS aC.2 fun cY=>?_;obtain⟨fk,bb,cZ⟩:=bs cV;obtain⟨_,⟨_,_,rfl,rfl,⟨_,_,rfl,rfl,⟨fm,fo,rfl,fp⟩⟩⟩,fq⟩:=WL.at aC.1 bb;refine Cw 16 (aC.1).2 bb underlying130 AS ?_;have bc:=WL.put (x':=ae) (ws':= [iV ae.1,iV ae.2.1,sV aU ae.2.2 aV]) aC.1 (aC.1).2 bb ⟨_,_,rfl,rfl,⟨_,_,rfl,rfl,⟨_,_,rfl,cW⟩⟩⟩;refine Em 17 0 cY AS bc.2 fun bx=>?_;refine JB.fin (by decide+kernel) ?_;obtain⟨fu,c0,c1⟩:=bs cZ;refine zg 5 rfl (Cd c0 rfl rfl rfl ?_);obtain⟨c2,c3,c4⟩:=bs c1;refine zg 2 rfl (Bs (fun L s=>∃(am:LH) (f99:AA),Jn aA H am [bX K f99 133] [(0,.slice (A2 K) U O),(1,iV p1),(2,iV p2),(3,(fV 134)),(9,iV ak),(10,iV Z.2.1)] L s (WL 133 Cr am K O U f99 c2)) ?_ ?_)
      ·rintro _ _ ⟨am,f99,rfl,rfl,c5,bz,bA⟩;obtain⟨fv,c6,c7⟩:=bs c4;refine zg 4 rfl (Cd c6 rfl rfl rfl ?_);obtain⟨bB,c8,c9⟩:=bs c7;refine zg 2 rfl (Bs (fun L s=>∃(aW:LH) (f109:AA),Jn am H aW [bX K f109 133] [(0,.slice (A2 K) U O),(1,iV p1),(2,iV p2),(3,(fV 134)),(9,iV ak),(10,iV Z.2.1)] L s (WL 133 Cr aW K O U f109 bB)) ?_ ?_)
       ·rintro _ _ ⟨aW,f109,rfl,rfl,da,db,dc⟩;obtain⟨dd,de,df⟩:=bs c9;refine zg 3 rfl (A9 de rfl rfl rfl ?_);refine zg 2 rfl ?_;obtain rfl:=oi df;exact Aw (ct _ _ (ak,dd,bB) ⟨aW,f109,rfl,rfl,(((aQ.Ab al).Ab c5).Ab da),db,dc⟩ az) rfl
       ·intro bC;refine AM c8 (fun dg dh=>?_) (fun dg di=>?_)
        ·obtain⟨fw,dj,dk⟩:=bs dh;refine zg 3 rfl (A9 dj rfl rfl rfl ?_);obtain⟨dl,dm,dn⟩:=bs dk;refine zg 2 rfl (Bs (fun L s=>∃(aX:LH) (f134:AA),Jn am H aX [bX K f134 133] [(0,.slice (A2 K) U O),(1,iV p1),(2,iV p2),(3,(fV 134)),(9,iV ak),(10,iV Z.2.1)] L s (WL 133 Cr aX K O U f134 dl)) ?_ ?_)
         ·rintro _ _ ⟨aX,f134,rfl,rfl,dp,dq,dr⟩;obtain rfl:=oi dn;exact Aw (bC _ _ ⟨aX,f134,rfl,rfl,dp,dq,dr⟩) rfl
         ·intro bD;refine JL.block (CE dm (fun L s an=>∃(aY:LH) (f142:AA),Jn am H aY [bX K f142 133] [(0,.slice (A2 K) U O),(1,iV p1),(2,iV p2),(3,(fV 134)),(9,iV ak),(10,iV Z.2.1),(12,iV an.1)] L s (WL 133 Cr aY K O U f142 an.2)) ⟨am,f99,rfl,rfl,Aq,bz,bA⟩ ?_);rintro _ _ an ⟨aY,f142,rfl,rfl,bd,aD,ag⟩ bE ⟨fx,aZ⟩ dt;have bF:=aZ;unfold Rb at bF;refine zg 7 rfl (AM bF (fun du dv=>?_) (fun du dw=>?_))
          ·refine zg 5 rfl (DI 10 [K] ⟨⟨0,_,rfl⟩,trivial⟩ aD fun ht=>?_);refine Bh ht rfl [0,1,2] rfl ?_;obtain⟨V,aE,dx⟩:=bs dv;obtain⟨_,⟨_,_,rfl,rfl,⟨_,_,rfl,rfl,⟨aF,aG,rfl,bG⟩⟩⟩,bH⟩:=WL.at ag aE;refine Gb 3 ht (ag).2 aE underlying130 AS ?_;refine Ed 4 ht [iV V.1,iV V.2.1,sV aF V.2.2 aG] 0 aD bH Cn AS ?_;refine Bh ht rfl [5,6] rfl ?_;obtain⟨fy,dy,dz⟩:=bs dx;refine Bw 7 ht rfl rfl (fun ρ h s' hs=>Dc (h _ _ rfl) (h _ _ rfl) dy) ?_;obtain⟨ao,bI,dA⟩:=bs dz;obtain⟨_,⟨_,_,rfl,rfl,⟨_,_,rfl,rfl,⟨bJ,bK,rfl,dB⟩⟩⟩,dC⟩:=WL.at ag bI;refine Gb 8 ht (ag).2 bI underlying130 AS ?_;refine Ed 9 ht [iV ao.1,iV ao.2.1,sV bJ ao.2.2 bK] 0 aD dC Cn AS ?_;refine Cg [10,11,12] ?_;obtain⟨dD,dE,dF⟩:=bs dA;refine Kx (vs:= [.agg #[iV V.1,iV V.2.1,sV aF V.2.2 aG],.agg #[iV ao.1,iV ao.2.1,sV bJ ao.2.2 bK]]) (G6 bG dB dE) rfl rfl rfl rfl GX rfl aD ?_;rintro _ bL _ ap ⟨rfl,rfl⟩ a0;refine zg 1 rfl (Ay (v:= .bool (decide (¬(dD<0)))) rfl (fun ρ h=>IY (h _ _ rfl)) ?_);refine JL.done (AM dF (fun dG dH=>?_) (fun dG dI=>?_))
           ·refine JL.exit rfl ?_;obtain rfl:=oi dH;obtain rfl:=bE _ aZ;exact Aw (bD _ _ ⟨bL,f142,rfl,rfl,(bd.Ab ap),a0,(ag.Ai ap)⟩) rfl
           ·refine JL.skip (G3 [15,17] [K] mixed rfl ?_);refine Bt 0 rfl rfl (Bt 1 rfl rfl ?_);refine Bt 2 rfl rfl (Bt 3 rfl rfl ?_);obtain⟨bM,dJ,dK⟩:=bs dI;refine GM 4 true rfl rfl (fun ρ h s' hs=>Dc (h _ _ rfl) (h _ _ rfl) dJ) (Bt 5 rfl rfl ?_);refine Bt 6 rfl rfl ?_;obtain⟨fz,dL,dM⟩:=bs dK;refine GM 7 true rfl rfl (fun ρ h s' hs=>Dc (h _ _ rfl) (h _ _ rfl) dL) ?_;obtain⟨ai,bN,dN⟩:=bs dM;obtain⟨_,⟨_,_,rfl,rfl,⟨_,_,rfl,rfl,⟨be,bf,rfl,dO⟩⟩⟩,dP⟩:=WL.at (ag.Ai ap) bN;refine Cw 8 ag.2 bN underlying130 AS ?_;refine En 9 [iV ai.1,iV ai.2.1,sV be ai.2.2 bf] 0 a0 dP Cn AS ?_;refine Bt 10 rfl rfl (Bt 11 rfl rfl ?_);refine Cw 12 ag.2 aE underlying130 AS ?_;refine En 13 [iV V.1,iV V.2.1,sV aF V.2.2 aG] 0 a0 bH Cn AS ?_;refine Cw 14 ag.2 aE underlying130 AS ?_;have aH:=WL.put (x':=ai) (ws':= [iV ai.1,iV ai.2.1,sV be ai.2.2 bf]) (ag.Ai ap) ag.2 aE ⟨_,_,rfl,rfl,⟨_,_,rfl,rfl,⟨_,_,rfl,dO⟩⟩⟩;refine Em 15 0 a0 AS aH.2 fun dQ=>?_;obtain⟨fA,bg,dR⟩:=bs dN;obtain⟨_,⟨_,_,rfl,rfl,⟨_,_,rfl,rfl,⟨fB,fC,rfl,fD⟩⟩⟩,fE⟩:=WL.at aH.1 bg;refine Cw 16 (aH.1).2 bg underlying130 AS ?_;have bO:=WL.put (x':=V) (ws':= [iV V.1,iV V.2.1,sV aF V.2.2 aG]) aH.1 (aH.1).2 bg ⟨_,_,rfl,rfl,⟨_,_,rfl,rfl,⟨_,_,rfl,(bG.Ai ap)⟩⟩⟩;refine Em 17 0 dQ AS bO.2 fun dS=>?_;refine JB.fin (by decide+kernel) ?_;obtain⟨dT,dU,dV⟩:=bs dR;refine zg 3 rfl (A9 dU rfl rfl rfl ?_);refine zg 2 rfl ?_;obtain rfl:=oi dV;exact Aw (dt _ _ (dT,((an.2.set (Int.toNat an.1) ai).set (Int.toNat bM) V)) ⟨bL,(A4 (A4 f142 (Int.toNat (an.1)*3) [iV ai.1,iV ai.2.1,sV be ai.2.2 bf]) (Int.toNat (bM)*3) [iV V.1,iV V.2.1,sV aF V.2.2 aG]),rfl,rfl,(bd.Ab ap),dS,bO.1⟩ aZ) rfl
          ·refine JL.exit rfl ?_;obtain rfl:=oi dw;obtain rfl:=bE _ aZ;exact Aw (bD _ _ ⟨aY,f142,rfl,rfl,bd,aD,ag⟩) rfl
        ·refine JL.skip ?_;obtain rfl:=oi di;exact Aw (bC _ _ ⟨am,f99,rfl,rfl,Aq,bz,bA⟩) rfl
      ·intro bP;refine AM c3 (fun dW dX=>?_) (fun dW dY=>?_)
       ·obtain⟨fF,dZ,ea⟩:=bs dX;refine zg 3 rfl (Cd dZ rfl rfl rfl ?_);obtain⟨eb,ec,ed⟩:=bs ea;refine zg 2 rfl (Bs (fun L s=>∃(a1:LH) (f224:AA),Jn aA H a1 [bX K f224 133] [(0,.slice (A2 K) U O),(1,iV p1),(2,iV p2),(3,(fV 134)),(9,iV ak),(10,iV Z.2.1)] L s (WL 133 Cr a1 K O U f224 eb)) ?_ ?_)
        ·rintro _ _ ⟨a1,f224,rfl,rfl,ee,ef,eg⟩;obtain rfl:=oi ed;exact Aw (bP _ _ ⟨a1,f224,rfl,rfl,ee,ef,eg⟩) rfl
        ·intro bQ;refine JL.block (CE ec (fun L s aq=>∃(a2:LH) (f232:AA),Jn aA H a2 [bX K f232 133] [(0,.slice (A2 K) U O),(1,iV p1),(2,iV p2),(3,(fV 134)),(9,iV ak),(10,iV Z.2.1),(11,iV aq.1)] L s (WL 133 Cr a2 K O U f232 aq.2)) ⟨aA,(A4 (A4 f27 (Int.toNat (ak)*3) [iV ab.1,iV ab.2.1,sV aR ab.2.2 aS]) (Int.toNat (bv)*3) [iV ae.1,iV ae.2.1,sV aU ae.2.2 aV]),rfl,rfl,Aq,bx,bc.1⟩ ?_);rintro _ _ aq ⟨a2,f232,rfl,rfl,bh,aI,ah⟩ bR ⟨fG,a3⟩ eh;have bS:=a3;unfold Ru at bS;refine zg 6 rfl (AM bS (fun ei ej=>?_) (fun ei ek=>?_))
         ·refine zg 5 rfl (DI 10 [K] ⟨⟨0,_,rfl⟩,trivial⟩ aI fun ht=>?_);refine Bh ht rfl [0,1,2] rfl ?_;obtain⟨W,aJ,el⟩:=bs ej;obtain⟨_,⟨_,_,rfl,rfl,⟨_,_,rfl,rfl,⟨aK,aL,rfl,bT⟩⟩⟩,bU⟩:=WL.at ah aJ;refine Gb 3 ht (ah).2 aJ underlying130 AS ?_;refine Ed 4 ht [iV W.1,iV W.2.1,sV aK W.2.2 aL] 0 aI bU Cn AS ?_;refine Bh ht rfl [5,6] rfl ?_;obtain⟨fH,em,en⟩:=bs el;refine Bw 7 ht rfl rfl (fun ρ h s' hs=>Dc (h _ _ rfl) (h _ _ rfl) em) ?_;obtain⟨ar,bV,eo⟩:=bs en;obtain⟨_,⟨_,_,rfl,rfl,⟨_,_,rfl,rfl,⟨bW,bY,rfl,ep⟩⟩⟩,eq⟩:=WL.at ah bV;refine Gb 8 ht (ah).2 bV underlying130 AS ?_;refine Ed 9 ht [iV ar.1,iV ar.2.1,sV bW ar.2.2 bY] 0 aI eq Cn AS ?_;refine Cg [10,11,12] ?_;obtain⟨er,et,eu⟩:=bs eo;refine Kx (vs:= [.agg #[iV W.1,iV W.2.1,sV aK W.2.2 aL],.agg #[iV ar.1,iV ar.2.1,sV bW ar.2.2 bY]]) (G6 bT ep et) rfl rfl rfl rfl GX rfl aI ?_;rintro _ bZ _ au ⟨rfl,rfl⟩ a4;refine zg 1 rfl (Ay (v:= .bool (decide (¬(er<0)))) rfl (fun ρ h=>IY (h _ _ rfl)) ?_);refine JL.done (AM eu (fun ew ex=>?_) (fun ew ey=>?_))
          ·refine JL.exit rfl ?_;obtain rfl:=oi ex;obtain rfl:=bR _ a3;exact Aw (bQ _ _ ⟨bZ,f232,rfl,rfl,(bh.Ab au),a4,(ah.Ai au)⟩) rfl
          ·refine JL.skip (G3 [15,17] [K] mixed rfl ?_);refine Bt 0 rfl rfl (Bt 1 rfl rfl ?_);refine Bt 2 rfl rfl (Bt 3 rfl rfl ?_);obtain⟨b0,ez,eA⟩:=bs ey;refine GM 4 true rfl rfl (fun ρ h s' hs=>Dc (h _ _ rfl) (h _ _ rfl) ez) (Bt 5 rfl rfl ?_);refine Bt 6 rfl rfl ?_;obtain⟨fI,eB,eC⟩:=bs eA;refine GM 7 true rfl rfl (fun ρ h s' hs=>Dc (h _ _ rfl) (h _ _ rfl) eB) ?_;obtain⟨aj,b1,eD⟩:=bs eC;obtain⟨_,⟨_,_,rfl,rfl,⟨_,_,rfl,rfl,⟨bi,bj,rfl,eE⟩⟩⟩,eF⟩:=WL.at (ah.Ai au) b1;refine Cw 8 ah.2 b1 underlying130 AS ?_;refine En 9 [iV aj.1,iV aj.2.1,sV bi aj.2.2 bj] 0 a4 eF Cn AS ?_;refine Bt 10 rfl rfl (Bt 11 rfl rfl ?_);refine Cw 12 ah.2 aJ underlying130 AS ?_;refine En 13 [iV W.1,iV W.2.1,sV aK W.2.2 aL] 0 a4 bU Cn AS ?_;refine Cw 14 ah.2 aJ underlying130 AS ?_;have aM:=WL.put (x':=aj) (ws':= [iV aj.1,iV aj.2.1,sV bi aj.2.2 bj]) (ah.Ai au) ah.2 aJ ⟨_,_,rfl,rfl,⟨_,_,rfl,rfl,⟨_,_,rfl,eE⟩⟩⟩;refine Em 15 0 a4 AS aM.2 fun eG=>?_;obtain⟨fJ,bl,eH⟩:=bs eD;obtain⟨_,⟨_,_,rfl,rfl,⟨_,_,rfl,rfl,⟨fK,fL,rfl,fM⟩⟩⟩,fN⟩:=WL.at aM.1 bl;refine Cw 16 (aM.1).2 bl underlying130 AS ?_;have b2:=WL.put (x':=W) (ws':= [iV W.1,iV W.2.1,sV aK W.2.2 aL]) aM.1 (aM.1).2 bl ⟨_,_,rfl,rfl,⟨_,_,rfl,rfl,⟨_,_,rfl,(bT.Ai au)⟩⟩⟩;refine Em 17 0 eG AS b2.2 fun eI=>?_;refine JB.fin (by decide+kernel) ?_;obtain⟨eJ,eK,eL⟩:=bs eH;refine zg 3 rfl (Cd eK rfl rfl rfl ?_);refine zg 2 rfl ?_;obtain rfl:=oi eL;exact Aw (eh _ _ (eJ,((aq.2.set (Int.toNat aq.1) aj).set (Int.toNat b0) W)) ⟨bZ,(A4 (A4 f232 (Int.toNat (aq.1)*3) [iV aj.1,iV aj.2.1,sV bi aj.2.2 bj]) (Int.toNat (b0)*3) [iV W.1,iV W.2.1,sV aK W.2.2 aL]),rfl,rfl,(bh.Ab au),eI,b2.1⟩ a3) rfl
         ·refine JL.exit rfl ?_;obtain rfl:=oi ek;obtain rfl:=bR _ a3;exact Aw (bQ _ _ ⟨a2,f232,rfl,rfl,bh,aI,ah⟩) rfl
       ·refine JL.skip ?_;obtain rfl:=oi dY;exact Aw (bP _ _ ⟨aA,(A4 (A4 f27 (Int.toNat (ak)*3) [iV ab.1,iV ab.2.1,sV aR ab.2.2 aS]) (Int.toNat (bv)*3) [iV ae.1,iV ae.2.1,sV aU ae.2.2 aV]),rfl,rfl,Aq,bx,bc.1⟩) rfl
   ·refine JL.block (CO cy (fun aN=> [bX K f27 133]) (fun aN=> [(0,.slice (A2 K) U O),(1,iV p1),(2,iV p2),(3,(fV 134)),(9,iV aN),(10,iV Z.2.1)]) Aq br ?_);rintro aN b3 av aO eM ⟨fO,bm⟩ eN;have b4:=bm;unfold I0 at b4;refine zg 2 rfl (DI 18 [K] ⟨⟨0,_,rfl⟩,trivial⟩ aO fun ht=>?_);refine Bh ht rfl [0,1,2,3] rfl ?_;obtain⟨eO,b5,eP⟩:=bs b4;refine FR 0 #[true,true,true,true,true,true,true,true,true,true,true,true,true,true,true,true,true,true] (fun L s=>∃(b6:LH),Jm b3 H b6 [bX K f27 133] [(0,.slice (A2 K) U O),(1,iV p1),(2,iV p2),(3,(fV 134)),(9,iV aN),(10,iV Z.2.1),(36,.bool eO)] L s) ?_ ?_
    ·rintro _ _ ⟨b6,rfl,rfl,b7,b8⟩;refine AV.fin (by decide+kernel) (BK eP (fun eQ eR=>?_) (fun eQ eS=>?_))
     ·obtain⟨eT,eU,eV⟩:=bs eR;refine zg 4 rfl (A9 eU rfl rfl rfl ?_);refine zg 3 rfl ?_;obtain rfl:=oi eV;exact eN eT (av.Ab b7) b8 rfl bm
     ·refine JL.exit rfl ?_;obtain rfl:=oi eS;obtain rfl:=eM _ bm;exact cA (av.Ab b7) b8 rfl
    ·intro b9;refine FO (q:=aN<p2) (i:=22) rfl (fun bn=>?_) (fun bn=>?_)
     ·have eW:=ip b5 bn;refine Bh ht rfl [4,5,6] rfl ?_;obtain⟨aw,ca,eX⟩:=bs eW;obtain⟨_,⟨_,_,rfl,rfl,⟨_,_,rfl,rfl,⟨cb,cc,rfl,eY⟩⟩⟩,eZ⟩:=WL.at (aa.Ai av) ca;refine Bw 7 ht rfl rfl (fun ρ h s' hs=>GA ((aa.Ai av)).2 ca underlying130 AS (h _ _ rfl) (h _ _ rfl)) ?_;refine Ed 8 ht [iV aw.1,iV aw.2.1,sV cb aw.2.2 cc] 0 aO eZ Cn AS ?_;refine Bh ht rfl [9,10] rfl ?_;obtain⟨fP,e0,e1⟩:=bs eX;refine Bw 11 ht rfl rfl (fun ρ h s' hs=>Dc (h _ _ rfl) (h _ _ rfl) e0) ?_;obtain⟨ay,cd,e3⟩:=bs e1;obtain⟨_,⟨_,_,rfl,rfl,⟨_,_,rfl,rfl,⟨ce,cf,rfl,e4⟩⟩⟩,e5⟩:=WL.at (aa.Ai av) cd;refine Bw 12 ht rfl rfl (fun ρ h s' hs=>GA ((aa.Ai av)).2 cd underlying130 AS (h _ _ rfl) (h _ _ rfl)) ?_;refine Ed 13 ht [iV ay.1,iV ay.2.1,sV ce ay.2.2 cf] 0 aO e5 Cn AS ?_;obtain⟨e6,e7,e8⟩:=bs e3;refine HM (i:=14) ⟨⟨0,_,rfl⟩,trivial⟩ (vs:= [.agg #[iV aw.1,iV aw.2.1,sV cb aw.2.2 cc],.agg #[iV ay.1,iV ay.2.1,sV ce ay.2.2 cf]]) (G6 eY e4 e7) (by decide+kernel) rfl rfl rfl rfl GX rfl aO ?_;rintro _ e9 _ fa ⟨rfl,rfl⟩ fb;refine Cz 15 ht rfl rfl ?_;refine Bw (v:= .bool (decide (¬(e6<0)))) 16 ht rfl rfl (fun ρ h s' hs=>IY (h _ _ rfl)) ?_;refine Cz 17 ht rfl rfl ?_;obtain rfl:=oi e8;refine Dg ?_ (b9 _ _ ⟨e9,rfl,rfl,fa,fb⟩);exact⟨rfl,rfl,rfl,rfl,rfl,rfl,rfl,trivial⟩
     ·have fc:=im b5 bn;refine Bh ht rfl [4,5,6,7,8,9,10,11,12,13,14,15,16,17] rfl ?_;obtain rfl:=oi fc;refine Dg ?_ (b9 _ _ ⟨b3,rfl,rfl,Aq,aO⟩);exact⟨rfl,rfl,rfl,rfl,rfl,rfl,rfl,trivial⟩
  ·refine JL.exit rfl ?_;obtain rfl:=oi cw;have fd:bq=(Sum.inr Z.2.2):=(ba _ az).symm;exact Aw (cr _ _ ⟨Z.2.2,aP,f27,fd,rfl,rfl,aQ,br,aa⟩) rfl
def KM(fuel:Nat)(p0:List Bx)(p1:Int)(p3:Int)(O:Bx)(U:Bx)(V:Int)(K:Int):Option (Bn Int Int):= Option.bind (if K≤V then((ix ((p0.set (Int.toNat p1) O).set (Int.toNat p3) U) K).bind fun W=> (ix ((p0.set (Int.toNat p1) O).set (Int.toNat p3) U) p1).bind fun Z=> (f134 fuel W Z).bind fun aa=> some (decide (aa<0))) else(some false)) fun ab=> if ab=true then((Av (K+1)).bind fun ae=> some (.more ae)) else(some (.done K))
def KS(fuel:Nat)(p0:List Bx)(p1:Int)(p3:Int)(O:Bx)(U:Bx)(V:Int)(K:Int):Option (Bn Int Int):= Option.bind (if V≤K then((ix ((p0.set (Int.toNat p1) O).set (Int.toNat p3) U) K).bind fun W=> (ix ((p0.set (Int.toNat p1) O).set (Int.toNat p3) U) p1).bind fun Z=> (f134 fuel W Z).bind fun aa=> some (decide (¬(aa<0)))) else(some false)) fun ab=> if ab=true then((Av (K - 1)).bind fun ae=> some (.more ae)) else(some (.done K))
def JF(fuel:Nat)(p1:Int)(O:Int×Int×(List Bx))(K:Int):Option (Bn Int Int):= Option.bind (if K≤O.2.1 then((ix O.2.2 K).bind fun U=> (ix O.2.2 p1).bind fun V=> (f134 fuel U V).bind fun W=> some (decide (W<0))) else(some false)) fun Z=> if Z=true then((Av (K+1)).bind fun aa=> some (.more aa)) else(some (.done K))
def JJ(fuel:Nat)(p1:Int)(O:Int×Int×(List Bx))(U:Int)(K:Int):Option (Bn Int Int):= Option.bind (if U≤K then((ix O.2.2 K).bind fun V=> (ix O.2.2 p1).bind fun W=> (f134 fuel V W).bind fun Z=> some (decide (¬(Z<0)))) else(some false)) fun aa=> if aa=true then((Av (K - 1)).bind fun ab=> some (.more ab)) else(some (.done K))
def IX(fuel:Nat)(p1:Int)(K:Int×Int×(List Bx)):Option (Bn (Int×Int×(List Bx)) (Int×(List Bx))):= Option.bind (iter (JF fuel p1 K) fuel K.1) fun O=> Option.bind (iter (JJ fuel p1 K O) fuel K.2.1) fun U=> if U<O then(some (.done (U,K.2.2))) else((ix K.2.2 U).bind fun V=> (ix K.2.2 O).bind fun W=> (Av (O+1)).bind fun Z=> (Av (U - 1)).bind fun aa=> some (.more (Z,aa,((K.2.2.set (Int.toNat O) V).set (Int.toNat U) W))))
def f185(fuel:Nat)(p0:List Bx)(p1:Int)(p2:Int)(p3:Int):Option (Int×Bool×(List Bx)):= (ix p0 p3).bind fun K=> (ix p0 p1).bind fun O=> (Av (p1+1)).bind fun aa=> (Av (p2 - 1)).bind fun Z=> Option.bind (iter (KM fuel p0 p1 p3 K O Z) fuel aa) fun W=> Option.bind (iter (KS fuel p0 p1 p3 K O W) fuel Z) fun U=> if U<W then((ix ((p0.set (Int.toNat p1) K).set (Int.toNat p3) O) p1).bind fun ab=> (ix ((p0.set (Int.toNat p1) K).set (Int.toNat p3) O) U).bind fun ae=> some (U,true,((((p0.set (Int.toNat p1) K).set (Int.toNat p3) O).set (Int.toNat U) ab).set (Int.toNat p1) ae))) else((ix ((p0.set (Int.toNat p1) K).set (Int.toNat p3) O) U).bind fun ag=> (ix ((p0.set (Int.toNat p1) K).set (Int.toNat p3) O) W).bind fun ah=> (Av (W+1)).bind fun ai=> (Av (U - 1)).bind fun aj=> Option.bind (iter (IX fuel p1) fuel (ai,aj,((((p0.set (Int.toNat p1) K).set (Int.toNat p3) O).set (Int.toNat W) ag).set (Int.toNat U) ah))) fun V=> (ix V.2 p1).bind fun ak=> (ix V.2 V.1).bind fun al=> some (V.1,false,((V.2.set (Int.toNat V.1) ak).set (Int.toNat p1) al)))
theorem Sr{K:Nat}{W:Nat}{Z:Nat}{ah:AA}{p0:List (Bx)}{p1:Int}{p2:Int}{p3:Int}(hW:WL 133 Cr E K W Z ah p0){fuel:Nat}{r:Int×Bool×(List Bx)}(bJ:f185 fuel p0 p1 p2 p3=some r):AU J 185 [.slice (A2 K) Z W,iV p1,iV p2,iV p3,(fV 134)] E [(K,.cells ah 133 (0,0))] (fun w E' B'=>∃(bK:AA),w= .tuple #[iV r.1,.bool r.2.1]∧B'= [(K,.cells bK 133 (0,0))]∧WL 133 Cr E' K W Z bK r.2.2):=by
 refine Bj func185 fun Q gj cs H a7 bL=>?_;unfold f185 at bJ;refine zg 6 rfl (G3 [13,15] [K] mixed rfl ?_);refine Bt 0 rfl rfl (Bt 1 rfl rfl ?_);refine Bt 2 rfl rfl (Bt 3 rfl rfl ?_);refine Bt 4 rfl rfl (Bt 5 rfl rfl ?_);obtain⟨O,aX,cX⟩:=bs bJ;obtain⟨_,⟨_,_,rfl,rfl,⟨_,_,rfl,rfl,⟨ai,c4,rfl,cY⟩⟩⟩,cZ⟩:=WL.at hW aX;refine Cw 6 hW.2 aX underlying130 AS ?_;refine En 7 [iV O.1,iV O.2.1,sV ai O.2.2 c4] 0 a7 cZ Cn AS ?_;refine Bt 8 rfl rfl (Bt 9 rfl rfl ?_);obtain⟨U,aO,c0⟩:=bs cX;obtain⟨_,⟨_,_,rfl,rfl,⟨_,_,rfl,rfl,⟨aj,ak,rfl,c1⟩⟩⟩,c2⟩:=WL.at hW aO;refine Cw 10 hW.2 aO underlying130 AS ?_;refine En 11 [iV U.1,iV U.2.1,sV aj U.2.2 ak] 0 a7 c2 Cn AS ?_;refine Cw 12 hW.2 aO underlying130 AS ?_;have bM:=WL.put (x':=O) (ws':= [iV O.1,iV O.2.1,sV ai O.2.2 c4]) hW hW.2 aO ⟨_,_,rfl,rfl,⟨_,_,rfl,rfl,⟨_,_,rfl,cY⟩⟩⟩;refine Em 13 0 a7 AS bM.2 fun c3=>?_;refine Cw 14 hW.2 aX underlying130 AS ?_;have V:=WL.put (x':=U) (ws':= [iV U.1,iV U.2.1,sV aj U.2.2 ak]) bM.1 hW.2 aX ⟨_,_,rfl,rfl,⟨_,_,rfl,rfl,⟨_,_,rfl,c1⟩⟩⟩;refine Em 15 0 c3 AS V.2 fun c5=>?_;refine JB.fin (by decide+kernel) ?_;obtain⟨gk,c6,c7⟩:=bs c0;refine zg 3 rfl (A9 c6 rfl rfl rfl ?_);obtain⟨aY,c8,c9⟩:=bs c7;refine zg 1 rfl (Cd c8 rfl rfl rfl ?_);obtain⟨az,da,db⟩:=bs c9;refine zg 4 rfl (CM [bX K (A4 (A4 ah (Int.toNat (p1)*3) [iV O.1,iV O.2.1,sV ai O.2.2 c4]) (Int.toNat (p3)*3) [iV U.1,iV U.2.1,sV aj U.2.2 ak]) 133] [(0,.slice (A2 K) Z W),(1,iV p1),(4,(fV 134)),(12,iV az),(13,iV aY)] (fun gl ab dc=>?_) (fun dd=>?_))
 ·obtain⟨a8,de,df⟩:=bs db;refine JL.seq (CM [bX K (A4 (A4 ah (Int.toNat (p1)*3) [iV O.1,iV O.2.1,sV ai O.2.2 c4]) (Int.toNat (p3)*3) [iV U.1,iV U.2.1,sV aj U.2.2 ak]) 133] [(0,.slice (A2 K) Z W),(1,iV p1),(4,(fV 134)),(12,iV az),(13,iV a8)] (fun a9 aw aA=>?_) (fun dg=>?_))
  ·refine zg 7 rfl (AM df (fun dh di=>?_) (fun dh dj=>?_))
   ·refine JL.seq (G3 [13,15] [K] mixed rfl ?_);refine Bt 0 rfl rfl (Bt 1 rfl rfl ?_);refine Bt 2 rfl rfl (Bt 3 rfl rfl ?_);refine Bt 4 rfl rfl (Bt 5 rfl rfl ?_);refine Cw 6 hW.2 aO underlying130 AS ?_;obtain⟨al,ba,dk⟩:=bs di;obtain⟨_,⟨_,_,rfl,rfl,⟨_,_,rfl,rfl,⟨bb,bc,rfl,dl⟩⟩⟩,dm⟩:=WL.at (V.1.Ai (ab.Ab aw)) ba;refine En 7 [iV al.1,iV al.2.1,sV bb al.2.2 bc] 0 aA dm Cn AS ?_;refine Bt 8 rfl rfl (Bt 9 rfl rfl ?_);obtain⟨am,aZ,dn⟩:=bs dk;obtain⟨_,⟨_,_,rfl,rfl,⟨_,_,rfl,rfl,⟨bd,be,rfl,dp⟩⟩⟩,dq⟩:=WL.at (V.1.Ai (ab.Ab aw)) aZ;refine Cw 10 (V.1).2 aZ underlying130 AS ?_;refine En 11 [iV am.1,iV am.2.1,sV bd am.2.2 be] 0 aA dq Cn AS ?_;refine Cw 12 (V.1).2 aZ underlying130 AS ?_;have bN:=WL.put (x':=al) (ws':= [iV al.1,iV al.2.1,sV bb al.2.2 bc]) (V.1.Ai (ab.Ab aw)) (V.1).2 aZ ⟨_,_,rfl,rfl,⟨_,_,rfl,rfl,⟨_,_,rfl,dl⟩⟩⟩;refine Em 13 0 aA AS bN.2 fun dr=>?_;refine Cw 14 (V.1).2 ba underlying130 AS ?_;have bO:=WL.put (x':=am) (ws':= [iV am.1,iV am.2.1,sV bd am.2.2 be]) bN.1 (V.1).2 ba ⟨_,_,rfl,rfl,⟨_,_,rfl,rfl,⟨_,_,rfl,dp⟩⟩⟩;refine Em 15 0 dr AS bO.2 fun dt=>?_;refine JB.fin (by decide+kernel) (zg 6 rfl ?_);obtain rfl:=oi dn;exact AL func185 rfl rfl (bL (ab.Ab aw) rfl ⟨(A4 (A4 (A4 (A4 ah (Int.toNat (p1)*3) [iV O.1,iV O.2.1,sV ai O.2.2 c4]) (Int.toNat (p3)*3) [iV U.1,iV U.2.1,sV aj U.2.2 ak]) (Int.toNat (a8)*3) [iV al.1,iV al.2.1,sV bb al.2.2 bc]) (Int.toNat (p1)*3) [iV am.1,iV am.2.1,sV bd am.2.2 be]),rfl,(by first | rfl | simp | (simp [Value.cells])),bO.1⟩ dt)
   ·refine zg 2 rfl (G3 [13,15] [K] mixed rfl ?_);refine Bt 0 rfl rfl (Bt 1 rfl rfl ?_);refine Bt 2 rfl rfl (Bt 3 rfl rfl ?_);refine Bt 4 rfl rfl (Bt 5 rfl rfl ?_);obtain⟨an,a0,du⟩:=bs dj;obtain⟨_,⟨_,_,rfl,rfl,⟨_,_,rfl,rfl,⟨bf,bg,rfl,dv⟩⟩⟩,dw⟩:=WL.at (V.1.Ai (ab.Ab aw)) a0;refine Cw 6 (V.1).2 a0 underlying130 AS ?_;refine En 7 [iV an.1,iV an.2.1,sV bf an.2.2 bg] 0 aA dw Cn AS ?_;refine Bt 8 rfl rfl (Bt 9 rfl rfl ?_);obtain⟨ao,a1,dx⟩:=bs du;obtain⟨_,⟨_,_,rfl,rfl,⟨_,_,rfl,rfl,⟨bh,bi,rfl,dy⟩⟩⟩,dz⟩:=WL.at (V.1.Ai (ab.Ab aw)) a1;refine Cw 10 (V.1).2 a1 underlying130 AS ?_;refine En 11 [iV ao.1,iV ao.2.1,sV bh ao.2.2 bi] 0 aA dz Cn AS ?_;refine Cw 12 (V.1).2 a1 underlying130 AS ?_;have bP:=WL.put (x':=an) (ws':= [iV an.1,iV an.2.1,sV bf an.2.2 bg]) (V.1.Ai (ab.Ab aw)) (V.1).2 a1 ⟨_,_,rfl,rfl,⟨_,_,rfl,rfl,⟨_,_,rfl,dv⟩⟩⟩;refine Em 13 0 aA AS bP.2 fun dA=>?_;refine Cw 14 (V.1).2 a0 underlying130 AS ?_;have bQ:=WL.put (x':=ao) (ws':= [iV ao.1,iV ao.2.1,sV bh ao.2.2 bi]) bP.1 (V.1).2 a0 ⟨_,_,rfl,rfl,⟨_,_,rfl,rfl,⟨_,_,rfl,dy⟩⟩⟩;refine Em 15 0 dA AS bQ.2 fun dB=>?_;refine JB.fin (by decide+kernel) ?_;obtain⟨gm,dC,dD⟩:=bs dx;refine zg 3 rfl (A9 dC rfl rfl rfl ?_);obtain⟨gn,dE,dF⟩:=bs dD;refine zg 5 rfl (Cd dE rfl rfl rfl ?_);obtain⟨bj,dG,dH⟩:=bs dF;refine zg 3 rfl (Bs (fun L s=>∃(bl:LH) (f102:AA),Jn a9 H bl [bX K f102 133] [(0,.slice (A2 K) Z W),(1,iV p1),(13,iV bj.1)] L s (WL 133 Cr bl K W Z f102 bj.2)) ?_ ?_)
    ·rintro _ _ ⟨bl,f102,rfl,rfl,dI,bm,au⟩;refine JL.seq (G3 [13,15] [K] mixed rfl ?_);refine Bt 0 rfl rfl (Bt 1 rfl rfl ?_);refine Bt 2 rfl rfl (Bt 3 rfl rfl ?_);refine Bt 4 rfl rfl (Bt 5 rfl rfl ?_);obtain⟨ap,a2,dJ⟩:=bs dH;obtain⟨_,⟨_,_,rfl,rfl,⟨_,_,rfl,rfl,⟨bn,bo,rfl,dK⟩⟩⟩,dL⟩:=WL.at au a2;refine Cw 6 au.2 a2 underlying130 AS ?_;refine En 7 [iV ap.1,iV ap.2.1,sV bn ap.2.2 bo] 0 bm dL Cn AS ?_;refine Bt 8 rfl rfl (Bt 9 rfl rfl ?_);obtain⟨aq,a3,dM⟩:=bs dJ;obtain⟨_,⟨_,_,rfl,rfl,⟨_,_,rfl,rfl,⟨bp,bq,rfl,dN⟩⟩⟩,dO⟩:=WL.at au a3;refine Cw 10 au.2 a3 underlying130 AS ?_;refine En 11 [iV aq.1,iV aq.2.1,sV bp aq.2.2 bq] 0 bm dO Cn AS ?_;refine Cw 12 au.2 a3 underlying130 AS ?_;have bR:=WL.put (x':=ap) (ws':= [iV ap.1,iV ap.2.1,sV bn ap.2.2 bo]) au au.2 a3 ⟨_,_,rfl,rfl,⟨_,_,rfl,rfl,⟨_,_,rfl,dK⟩⟩⟩;refine Em 13 0 bm AS bR.2 fun dP=>?_;refine Cw 14 au.2 a2 underlying130 AS ?_;have bS:=WL.put (x':=aq) (ws':= [iV aq.1,iV aq.2.1,sV bp aq.2.2 bq]) bR.1 au.2 a2 ⟨_,_,rfl,rfl,⟨_,_,rfl,rfl,⟨_,_,rfl,dN⟩⟩⟩;refine Em 15 0 dP AS bS.2 fun dQ=>?_;refine JB.fin (by decide+kernel) (zg 6 rfl ?_);obtain rfl:=oi dM;exact AL func185 rfl rfl (bL ((ab.Ab aw).Ab dI) rfl ⟨(A4 (A4 f102 (Int.toNat (bj.1)*3) [iV ap.1,iV ap.2.1,sV bn ap.2.2 bo]) (Int.toNat (p1)*3) [iV aq.1,iV aq.2.1,sV bp aq.2.2 bq]),rfl,(by first | rfl | simp | (simp [Value.cells])),bS.1⟩ dQ)
    ·intro dR;refine JL.block (CE dG (fun L s av=>∃(br:LH) (f127:AA),Jn a9 H br [bX K f127 133] [(0,.slice (A2 K) Z W),(1,iV p1),(4,(fV 134)),(12,iV av.1),(13,iV av.2.1)] L s (WL 133 Cr br K W Z f127 av.2.2)) ⟨a9,(A4 (A4 (A4 (A4 ah (Int.toNat (p1)*3) [iV O.1,iV O.2.1,sV ai O.2.2 c4]) (Int.toNat (p3)*3) [iV U.1,iV U.2.1,sV aj U.2.2 ak]) (Int.toNat (az)*3) [iV an.1,iV an.2.1,sV bf an.2.2 bg]) (Int.toNat (a8)*3) [iV ao.1,iV ao.2.1,sV bh ao.2.2 bi]),rfl,rfl,Aq,dB,bQ.1⟩ ?_);rintro _ _ av ⟨br,f127,rfl,rfl,bT,dS,aa⟩ dT ⟨gp,bu⟩ dU;have bU:=bu;unfold IX at bU;obtain⟨ay,dV,dW⟩:=bs bU;refine zg 2 rfl (CM [bX K f127 133] [(0,.slice (A2 K) Z W),(1,iV p1),(4,(fV 134)),(12,iV ay),(13,iV av.2.1)] (fun gq ar dX=>?_) (fun dY=>?_))
     ·obtain⟨bv,dZ,ea⟩:=bs dW;refine JL.seq (CM [bX K f127 133] [(0,.slice (A2 K) Z W),(1,iV p1),(4,(fV 134)),(12,iV ay),(13,iV bv)] (fun bV aB a4=>?_) (fun eb=>?_))
      ·refine zg 7 rfl (AM ea (fun ec ed=>?_) (fun ec ee=>?_))
       ·refine JL.exit rfl ?_;obtain rfl:=oi ed;obtain rfl:=dT _ bu;exact Aw (dR _ _ ⟨bV,f127,rfl,rfl,((bT.Ab ar).Ab aB),a4,(aa.Ai (ar.Ab aB))⟩) rfl
       ·refine zg 2 rfl (G3 [13,15] [K] mixed rfl ?_);refine Bt 0 rfl rfl (Bt 1 rfl rfl ?_);refine Bt 2 rfl rfl (Bt 3 rfl rfl ?_);refine Bt 4 rfl rfl (Bt 5 rfl rfl ?_);obtain⟨ae,a5,ef⟩:=bs ee;obtain⟨_,⟨_,_,rfl,rfl,⟨_,_,rfl,rfl,⟨bw,bx,rfl,eg⟩⟩⟩,eh⟩:=WL.at (aa.Ai (ar.Ab aB)) a5;refine Cw 6 aa.2 a5 underlying130 AS ?_;refine En 7 [iV ae.1,iV ae.2.1,sV bw ae.2.2 bx] 0 a4 eh Cn AS ?_;refine Bt 8 rfl rfl (Bt 9 rfl rfl ?_);obtain⟨ag,a6,ei⟩:=bs ef;obtain⟨_,⟨_,_,rfl,rfl,⟨_,_,rfl,rfl,⟨bz,bA,rfl,ej⟩⟩⟩,ek⟩:=WL.at (aa.Ai (ar.Ab aB)) a6;refine Cw 10 aa.2 a6 underlying130 AS ?_;refine En 11 [iV ag.1,iV ag.2.1,sV bz ag.2.2 bA] 0 a4 ek Cn AS ?_;refine Cw 12 aa.2 a6 underlying130 AS ?_;have bW:=WL.put (x':=ae) (ws':= [iV ae.1,iV ae.2.1,sV bw ae.2.2 bx]) (aa.Ai (ar.Ab aB)) aa.2 a6 ⟨_,_,rfl,rfl,⟨_,_,rfl,rfl,⟨_,_,rfl,eg⟩⟩⟩;refine Em 13 0 a4 AS bW.2 fun el=>?_;refine Cw 14 aa.2 a5 underlying130 AS ?_;have bY:=WL.put (x':=ag) (ws':= [iV ag.1,iV ag.2.1,sV bz ag.2.2 bA]) bW.1 aa.2 a5 ⟨_,_,rfl,rfl,⟨_,_,rfl,rfl,⟨_,_,rfl,ej⟩⟩⟩;refine Em 15 0 el AS bY.2 fun em=>?_;refine JB.fin (by decide+kernel) ?_;obtain⟨en,eo,ep⟩:=bs ei;refine zg 3 rfl (A9 eo rfl rfl rfl ?_);obtain⟨eq,er,et⟩:=bs ep;refine zg 4 rfl (Cd er rfl rfl rfl ?_);refine zg 3 rfl ?_;obtain rfl:=oi et;exact Aw (dU _ _ (en,eq,((av.2.2.set (Int.toNat ay) ae).set (Int.toNat bv) ag)) ⟨bV,(A4 (A4 f127 (Int.toNat (ay)*3) [iV ae.1,iV ae.2.1,sV bw ae.2.2 bx]) (Int.toNat (bv)*3) [iV ag.1,iV ag.2.1,sV bz ag.2.2 bA]),rfl,rfl,((bT.Ab ar).Ab aB),em,bY.1⟩ bu) rfl
      ·refine JL.block (CO dZ (fun aP=> [bX K f127 133]) (fun aP=> [(0,.slice (A2 K) Z W),(1,iV p1),(4,(fV 134)),(12,iV ay),(13,iV aP)]) Aq dX ?_);rintro aP bZ aC aQ eu ⟨gr,bB⟩ ew;have b0:=bB;unfold JJ at b0;refine zg 2 rfl (DI 17 [K] ⟨⟨0,_,rfl⟩,trivial⟩ aQ fun ht=>?_);refine Bh ht rfl [0,1,2,3] rfl ?_;obtain⟨ex,b1,ey⟩:=bs b0;refine FR 0 #[true,true,true,true,true,true,true,true,true,true,true,true,true,true,true,true,true] (fun L s=>∃(b2:LH),Jm bZ H b2 [bX K f127 133] [(0,.slice (A2 K) Z W),(1,iV p1),(4,(fV 134)),(12,iV ay),(13,iV aP),(139,.bool ex)] L s) ?_ ?_
       ·rintro _ _ ⟨b2,rfl,rfl,b3,b4⟩;refine AV.fin (by decide+kernel) (BK ey (fun ez eA=>?_) (fun ez eB=>?_))
        ·obtain⟨eC,eD,eE⟩:=bs eA;refine zg 4 rfl (Cd eD rfl rfl rfl ?_);refine zg 3 rfl ?_;obtain rfl:=oi eE;exact ew eC (aC.Ab b3) b4 rfl bB
        ·refine JL.exit rfl ?_;obtain rfl:=oi eB;obtain rfl:=eu _ bB;exact eb (aC.Ab b3) b4 rfl
       ·intro b5;refine FO (q:=ay≤aP) (i:=126) rfl (fun bC=>?_) (fun bC=>?_)
        ·have eF:=ip b1 bC;refine Bh ht rfl [4,5,6] rfl ?_;obtain⟨aD,b6,eG⟩:=bs eF;obtain⟨_,⟨_,_,rfl,rfl,⟨_,_,rfl,rfl,⟨b7,b8,rfl,eH⟩⟩⟩,eI⟩:=WL.at (aa.Ai (ar.Ab aC)) b6;refine Bw 7 ht rfl rfl (fun ρ h s' hs=>GA ((aa.Ai (ar.Ab aC))).2 b6 underlying130 AS (h _ _ rfl) (h _ _ rfl)) ?_;refine Ed 8 ht [iV aD.1,iV aD.2.1,sV b7 aD.2.2 b8] 0 aQ eI Cn AS ?_;refine Bh ht rfl [9,10] rfl ?_;obtain⟨aE,b9,eJ⟩:=bs eG;obtain⟨_,⟨_,_,rfl,rfl,⟨_,_,rfl,rfl,⟨ca,cb,rfl,eK⟩⟩⟩,eL⟩:=WL.at (aa.Ai (ar.Ab aC)) b9;refine Bw 11 ht rfl rfl (fun ρ h s' hs=>GA ((aa.Ai (ar.Ab aC))).2 b9 underlying130 AS (h _ _ rfl) (h _ _ rfl)) ?_;refine Ed 12 ht [iV aE.1,iV aE.2.1,sV ca aE.2.2 cb] 0 aQ eL Cn AS ?_;obtain⟨eM,eN,eO⟩:=bs eJ;refine HM (i:=13) ⟨⟨0,_,rfl⟩,trivial⟩ (vs:= [.agg #[iV aD.1,iV aD.2.1,sV b7 aD.2.2 b8],.agg #[iV aE.1,iV aE.2.1,sV ca aE.2.2 cb]]) (G6 eH eK eN) (by decide+kernel) rfl rfl rfl rfl GX rfl aQ ?_;rintro _ eP _ eQ ⟨rfl,rfl⟩ eR;refine Cz 14 ht rfl rfl ?_;refine Bw (v:= .bool (decide (¬(eM<0)))) 15 ht rfl rfl (fun ρ h s' hs=>IY (h _ _ rfl)) ?_;refine Cz 16 ht rfl rfl ?_;obtain rfl:=oi eO;refine Dg ?_ (b5 _ _ ⟨eP,rfl,rfl,eQ,eR⟩);exact⟨rfl,rfl,rfl,rfl,rfl,rfl,trivial⟩
        ·have eS:=im b1 bC;refine Bh ht rfl [4,5,6,7,8,9,10,11,12,13,14,15,16] rfl ?_;obtain rfl:=oi eS;refine Dg ?_ (b5 _ _ ⟨bZ,rfl,rfl,Aq,aQ⟩);exact⟨rfl,rfl,rfl,rfl,rfl,rfl,trivial⟩
     ·refine JL.block (CO dV (fun aR=> [bX K f127 133]) (fun aR=> [(0,.slice (A2 K) Z W),(1,iV p1),(4,(fV 134)),(12,iV aR),(13,iV av.2.1)]) Aq dS ?_);rintro aR cc aF aS eT ⟨gt,bD⟩ eU;have cd:=bD;unfold JF at cd;refine zg 2 rfl (DI 16 [K] ⟨⟨0,_,rfl⟩,trivial⟩ aS fun ht=>?_);refine Bh ht rfl [0,1,2,3] rfl ?_;obtain⟨eV,ce,eW⟩:=bs cd;refine FR 0 #[true,true,true,true,true,true,true,true,true,true,true,true,true,true,true,true] (fun L s=>∃(cf:LH),Jm cc H cf [bX K f127 133] [(0,.slice (A2 K) Z W),(1,iV p1),(4,(fV 134)),(12,iV aR),(13,iV av.2.1),(120,.bool eV)] L s) ?_ ?_
      ·rintro _ _ ⟨cf,rfl,rfl,cg,ci⟩;refine AV.fin (by decide+kernel) (BK eW (fun eX eY=>?_) (fun eX eZ=>?_))
       ·obtain⟨e0,e1,e3⟩:=bs eY;refine zg 4 rfl (A9 e1 rfl rfl rfl ?_);refine zg 3 rfl ?_;obtain rfl:=oi e3;exact eU e0 (aF.Ab cg) ci rfl bD
       ·refine JL.exit rfl ?_;obtain rfl:=oi eZ;obtain rfl:=eT _ bD;exact dY (aF.Ab cg) ci rfl
      ·intro ck;refine FO (q:=aR≤av.2.1) (i:=108) rfl (fun bE=>?_) (fun bE=>?_)
       ·have e4:=ip ce bE;refine Bh ht rfl [4,5,6] rfl ?_;obtain⟨aG,cm,e5⟩:=bs e4;obtain⟨_,⟨_,_,rfl,rfl,⟨_,_,rfl,rfl,⟨cn,co,rfl,e6⟩⟩⟩,e7⟩:=WL.at (aa.Ai aF) cm;refine Bw 7 ht rfl rfl (fun ρ h s' hs=>GA ((aa.Ai aF)).2 cm underlying130 AS (h _ _ rfl) (h _ _ rfl)) ?_;refine Ed 8 ht [iV aG.1,iV aG.2.1,sV cn aG.2.2 co] 0 aS e7 Cn AS ?_;refine Bh ht rfl [9,10] rfl ?_;obtain⟨aH,cp,e8⟩:=bs e5;obtain⟨_,⟨_,_,rfl,rfl,⟨_,_,rfl,rfl,⟨cq,cr,rfl,e9⟩⟩⟩,fa⟩:=WL.at (aa.Ai aF) cp;refine Bw 11 ht rfl rfl (fun ρ h s' hs=>GA ((aa.Ai aF)).2 cp underlying130 AS (h _ _ rfl) (h _ _ rfl)) ?_;refine Ed 12 ht [iV aH.1,iV aH.2.1,sV cq aH.2.2 cr] 0 aS fa Cn AS ?_;obtain⟨gu,fb,fc⟩:=bs e8;refine HM (i:=13) ⟨⟨0,_,rfl⟩,trivial⟩ (vs:= [.agg #[iV aG.1,iV aG.2.1,sV cn aG.2.2 co],.agg #[iV aH.1,iV aH.2.1,sV cq aH.2.2 cr]]) (G6 e6 e9 fb) (by decide+kernel) rfl rfl rfl rfl GX rfl aS ?_;rintro _ fd _ fe ⟨rfl,rfl⟩ ff;refine Bh ht rfl [14,15] rfl ?_;obtain rfl:=oi fc;refine Dg ?_ (ck _ _ ⟨fd,rfl,rfl,fe,ff⟩);exact⟨rfl,rfl,rfl,rfl,rfl,rfl,trivial⟩
       ·have fg:=im ce bE;refine Bh ht rfl [4,5,6,7,8,9,10,11,12,13,14,15] rfl ?_;obtain rfl:=oi fg;refine Dg ?_ (ck _ _ ⟨cc,rfl,rfl,Aq,aS⟩);exact⟨rfl,rfl,rfl,rfl,rfl,rfl,trivial⟩
  ·refine JL.block (CO de (fun aT=> [bX K (A4 (A4 ah (Int.toNat (p1)*3) [iV O.1,iV O.2.1,sV ai O.2.2 c4]) (Int.toNat (p3)*3) [iV U.1,iV U.2.1,sV aj U.2.2 ak]) 133]) (fun aT=> [(0,.slice (A2 K) Z W),(1,iV p1),(4,(fV 134)),(12,iV az),(13,iV aT)]) Aq dc ?_);rintro aT ct aI aU fh ⟨gv,bF⟩ fj;have cu:=bF;unfold KS at cu;refine zg 2 rfl (DI 17 [K] ⟨⟨0,_,rfl⟩,trivial⟩ aU fun ht=>?_);refine Bh ht rfl [0,1,2,3] rfl ?_;obtain⟨fk,cv,fm⟩:=bs cu;refine FR 0 #[true,true,true,true,true,true,true,true,true,true,true,true,true,true,true,true,true] (fun L s=>∃(cw:LH),Jm ct H cw [bX K (A4 (A4 ah (Int.toNat (p1)*3) [iV O.1,iV O.2.1,sV ai O.2.2 c4]) (Int.toNat (p3)*3) [iV U.1,iV U.2.1,sV aj U.2.2 ak]) 133] [(0,.slice (A2 K) Z W),(1,iV p1),(4,(fV 134)),(12,iV az),(13,iV aT),(66,.bool fk)] L s) ?_ ?_
   ·rintro _ _ ⟨cw,rfl,rfl,cy,cz⟩;refine AV.fin (by decide+kernel) (BK fm (fun fo fp=>?_) (fun fo fq=>?_))
    ·obtain⟨fu,fv,fw⟩:=bs fp;refine zg 4 rfl (Cd fv rfl rfl rfl ?_);refine zg 3 rfl ?_;obtain rfl:=oi fw;exact fj fu (aI.Ab cy) cz rfl bF
    ·refine JL.exit rfl ?_;obtain rfl:=oi fq;obtain rfl:=fh _ bF;exact dg (aI.Ab cy) cz rfl
   ·intro cA;refine FO (q:=az≤aT) (i:=53) rfl (fun bG=>?_) (fun bG=>?_)
    ·have fx:=ip cv bG;refine Bh ht rfl [4,5,6] rfl ?_;obtain⟨aJ,cB,fy⟩:=bs fx;obtain⟨_,⟨_,_,rfl,rfl,⟨_,_,rfl,rfl,⟨cC,cD,rfl,fz⟩⟩⟩,fA⟩:=WL.at (V.1.Ai (ab.Ab aI)) cB;refine Bw 7 ht rfl rfl (fun ρ h s' hs=>GA ((V.1.Ai (ab.Ab aI))).2 cB underlying130 AS (h _ _ rfl) (h _ _ rfl)) ?_;refine Ed 8 ht [iV aJ.1,iV aJ.2.1,sV cC aJ.2.2 cD] 0 aU fA Cn AS ?_;refine Bh ht rfl [9,10] rfl ?_;obtain⟨aK,cE,fB⟩:=bs fy;obtain⟨_,⟨_,_,rfl,rfl,⟨_,_,rfl,rfl,⟨cF,cG,rfl,fC⟩⟩⟩,fD⟩:=WL.at (V.1.Ai (ab.Ab aI)) cE;refine Bw 11 ht rfl rfl (fun ρ h s' hs=>GA ((V.1.Ai (ab.Ab aI))).2 cE underlying130 AS (h _ _ rfl) (h _ _ rfl)) ?_;refine Ed 12 ht [iV aK.1,iV aK.2.1,sV cF aK.2.2 cG] 0 aU fD Cn AS ?_;obtain⟨fE,fF,fG⟩:=bs fB;refine HM (i:=13) ⟨⟨0,_,rfl⟩,trivial⟩ (vs:= [.agg #[iV aJ.1,iV aJ.2.1,sV cC aJ.2.2 cD],.agg #[iV aK.1,iV aK.2.1,sV cF aK.2.2 cG]]) (G6 fz fC fF) (by decide+kernel) rfl rfl rfl rfl GX rfl aU ?_;rintro _ fH _ fI ⟨rfl,rfl⟩ fJ;refine Cz 14 ht rfl rfl ?_;refine Bw (v:= .bool (decide (¬(fE<0)))) 15 ht rfl rfl (fun ρ h s' hs=>IY (h _ _ rfl)) ?_;refine Cz 16 ht rfl rfl ?_;obtain rfl:=oi fG;refine Dg ?_ (cA _ _ ⟨fH,rfl,rfl,fI,fJ⟩);exact⟨rfl,rfl,rfl,rfl,rfl,rfl,trivial⟩
    ·have fK:=im cv bG;refine Bh ht rfl [4,5,6,7,8,9,10,11,12,13,14,15,16] rfl ?_;obtain rfl:=oi fK;refine Dg ?_ (cA _ _ ⟨ct,rfl,rfl,Aq,aU⟩);exact⟨rfl,rfl,rfl,rfl,rfl,rfl,trivial⟩
 ·refine JL.block (CO da (fun aV=> [bX K (A4 (A4 ah (Int.toNat (p1)*3) [iV O.1,iV O.2.1,sV ai O.2.2 c4]) (Int.toNat (p3)*3) [iV U.1,iV U.2.1,sV aj U.2.2 ak]) 133]) (fun aV=> [(0,.slice (A2 K) Z W),(1,iV p1),(4,(fV 134)),(12,iV aV),(13,iV aY)]) Aq c5 ?_);rintro aV cH aL aW fL ⟨gw,bH⟩ fM;have cI:=bH;unfold KM at cI;refine zg 2 rfl (DI 16 [K] ⟨⟨0,_,rfl⟩,trivial⟩ aW fun ht=>?_);refine Bh ht rfl [0,1,2,3] rfl ?_;obtain⟨fN,cJ,fO⟩:=bs cI;refine FR 0 #[true,true,true,true,true,true,true,true,true,true,true,true,true,true,true,true] (fun L s=>∃(cK:LH),Jm cH H cK [bX K (A4 (A4 ah (Int.toNat (p1)*3) [iV O.1,iV O.2.1,sV ai O.2.2 c4]) (Int.toNat (p3)*3) [iV U.1,iV U.2.1,sV aj U.2.2 ak]) 133] [(0,.slice (A2 K) Z W),(1,iV p1),(4,(fV 134)),(12,iV aV),(13,iV aY),(47,.bool fN)] L s) ?_ ?_
  ·rintro _ _ ⟨cK,rfl,rfl,cM,cN⟩;refine AV.fin (by decide+kernel) (BK fO (fun fP fQ=>?_) (fun fP fR=>?_))
   ·obtain⟨fS,fT,fU⟩:=bs fQ;refine zg 4 rfl (A9 fT rfl rfl rfl ?_);refine zg 3 rfl ?_;obtain rfl:=oi fU;exact fM fS (aL.Ab cM) cN rfl bH
   ·refine JL.exit rfl ?_;obtain rfl:=oi fR;obtain rfl:=fL _ bH;exact dd (aL.Ab cM) cN rfl
  ·intro cO;refine FO (q:=aV≤aY) (i:=35) rfl (fun bI=>?_) (fun bI=>?_)
   ·have fW:=ip cJ bI;refine Bh ht rfl [4,5,6] rfl ?_;obtain⟨aM,cP,fX⟩:=bs fW;obtain⟨_,⟨_,_,rfl,rfl,⟨_,_,rfl,rfl,⟨cQ,cR,rfl,fY⟩⟩⟩,fZ⟩:=WL.at (V.1.Ai aL) cP;refine Bw 7 ht rfl rfl (fun ρ h s' hs=>GA ((V.1.Ai aL)).2 cP underlying130 AS (h _ _ rfl) (h _ _ rfl)) ?_;refine Ed 8 ht [iV aM.1,iV aM.2.1,sV cQ aM.2.2 cR] 0 aW fZ Cn AS ?_;refine Bh ht rfl [9,10] rfl ?_;obtain⟨aN,cT,ga⟩:=bs fX;obtain⟨_,⟨_,_,rfl,rfl,⟨_,_,rfl,rfl,⟨cV,cW,rfl,gb⟩⟩⟩,gc⟩:=WL.at (V.1.Ai aL) cT;refine Bw 11 ht rfl rfl (fun ρ h s' hs=>GA ((V.1.Ai aL)).2 cT underlying130 AS (h _ _ rfl) (h _ _ rfl)) ?_;refine Ed 12 ht [iV aN.1,iV aN.2.1,sV cV aN.2.2 cW] 0 aW gc Cn AS ?_;obtain⟨gx,gd,ge⟩:=bs ga;refine HM (i:=13) ⟨⟨0,_,rfl⟩,trivial⟩ (vs:= [.agg #[iV aM.1,iV aM.2.1,sV cQ aM.2.2 cR],.agg #[iV aN.1,iV aN.2.1,sV cV aN.2.2 cW]]) (G6 fY gb gd) (by decide+kernel) rfl rfl rfl rfl GX rfl aW ?_;rintro _ gf _ gg ⟨rfl,rfl⟩ gh;refine Bh ht rfl [14,15] rfl ?_;obtain rfl:=oi ge;refine Dg ?_ (cO _ _ ⟨gf,rfl,rfl,gg,gh⟩);exact⟨rfl,rfl,rfl,rfl,rfl,rfl,trivial⟩
   ·have gi:=im cJ bI;refine Bh ht rfl [4,5,6,7,8,9,10,11,12,13,14,15] rfl ?_;obtain rfl:=oi gi;refine Dg ?_ (cO _ _ ⟨cH,rfl,rfl,Aq,aW⟩);exact⟨rfl,rfl,rfl,rfl,rfl,rfl,trivial⟩
end Pal
namespace Pal
open Go Go.Conc Go.Proofs
open Go.Proofs.Tryz
variable {J:Judge Tryz.prog}{E:LH}
def Mf(fuel:Nat)(p0:List Bx)(p1:Int)(p2:Int)(p3:Int)(aq:Unit):Option (Bn Unit (((List Bx))⊕(Unit))):= (Av (p2 - p1)).bind fun Z=> if Z≤12 then((f178 fuel p0 p1 p2).bind fun aa=> some (.done (Sum.inl aa))) else(if p3=0 then(none) else((f181 fuel p0 p1 p2).bind fun O=> Option.bind (if O.2=2 then((f182 fuel p0 p1 p2).bind fun ab=> (Av (p2 - 1)).bind fun ae=> (Av (O.1 - p1)).bind fun ag=> (Av (ae - ag)).bind fun ah=> some (ah,1,ab)) else(some (O.1,O.2,p0))) fun K=> Option.bind (if K.2.1=1 then((f183 fuel K.2.2 p1 p2).bind fun U=> if U.1=true then(some (Sum.inl U.2)) else(some (Sum.inr U.2))) else(some (Sum.inr K.2.2))) fun ai=>Sum.elim (fun r=>some (.done (Sum.inl r))) (fun V=> Option.bind (if 0<p1 then((Av (p1 - 1)).bind fun aj=> (ix V aj).bind fun ak=> (ix V K.1).bind fun al=> (f134 fuel ak al).bind fun am=> some (decide (¬(am<0)))) else(some false)) fun an=> if an=true then(none) else((f185 fuel V p1 p2 K.1).bind fun W=> (Av (W.1 - p1)).bind fun ao=> (Av (p2 - W.1)).bind fun ap=> (HA Z (8)).bind fun ar=> if ao<ap then(none) else((Av (W.1+1)).bind fun au=> none))) ai))
def Iu(fuel:Nat)(p0:List Bx)(p1:Int)(p2:Int)(p3:Int):Option ((List Bx)):= Option.bind (iter (Mf fuel p0 p1 p2 p3) fuel ()) fun K=> Sum.elim (fun r=>some r) (fun O=> none) K
theorem Rj{K:Nat}{O:Nat}{U:Nat}{ai:AA}{p0:List (Bx)}{p1:Int}{p2:Int}{p3:Int}(hW:WL 133 Cr E K O U ai p0){fuel:Nat}{r:(List Bx)}(ao:Iu fuel p0 p1 p2 p3=some r):AU J 162 [.slice (A2 K) U O,iV p1,iV p2,iV p3,(fV 134)] E [(K,.cells ai 133 (0,0))] (fun w E' B'=>∃(ap:AA),w= .tuple #[]∧B'= [(K,.cells ap 133 (0,0))]∧WL 133 Cr E' K O U ap r):=by
 refine Bj func162 fun Q cr cs H aS aq=>?_;unfold Iu at ao;obtain⟨ct,aT,ar⟩:=bs ao;refine zg 8 rfl (Bs (fun L s=>False) ?_ ?_)
 ·intro _ _ aU;exact aU.elim
 ·intro cu;refine JL.block (CO aT (fun au=> [bX K ai 133]) (fun au=> [(0,.slice (A2 K) U O),(1,iV p1),(2,iV p2),(3,iV p3),(4,(fV 134)),(10,.bool true),(11,.bool true)]) Aq aS ?_);rintro au cv V av aw ⟨cw,aj⟩ cy;have ay:=aj;unfold Mf at ay;obtain⟨ak,aV,aW⟩:=bs ay;refine zg 5 rfl (Cd aV rfl rfl rfl ?_);refine zg 8 rfl (AM aW (fun aX aY=>?_) (fun aX aZ=>?_))
  ·obtain⟨cz,a0,a1⟩:=bs aY;refine zg 6 rfl (B8 0 (R4 (hW.Ai V) a0) rfl rfl NM av rfl ?_);rintro _ cA _ a2 ⟨f32,rfl,rfl,a3⟩ a4;refine JL.done ?_;obtain rfl:=oi a1;obtain rfl:=aw _ aj;have a5:=elim_inl ar;obtain rfl:=oi a5;exact AL func162 rfl rfl (aq (V.Ab a2) rfl ⟨f32,rfl,(by first | rfl | simp | (simp [Value.cells])),a3⟩ a4)
  ·refine zg 7 rfl (AM aZ (fun a6 a7=>?_) (fun a6 a8=>?_))
   ·refine zg 6 rfl ?_;cases a7
   ·refine zg 5 rfl (Ay (v:= .bool false) rfl (fun ρ h=>Yl.not (c:=true) (h _ _ rfl)) ?_);obtain⟨cB,a9,ba⟩:=bs a8;refine zg 9 rfl (B8 0 (Sw (hW.Ai V) a9) rfl rfl (A3 func181 rfl) av rfl ?_);rintro _ az _ al ⟨rfl,rfl⟩ aA;obtain⟨W,bb,bc⟩:=bs ba;refine zg 12 rfl (Bs (fun L s=>∃(ab:LH) (f56:AA),Jn az H ab [bX K f56 133] [(0,.slice (A2 K) U O),(1,iV p1),(2,iV p2),(3,iV p3),(4,(fV 134)),(10,.bool true),(11,.bool true),(12,iV ak),(13,iV W.1),(14,iV W.2.1)] L s (WL 133 Cr ab K O U f56 W.2.2)) ?_ ?_)
    ·rintro _ _ ⟨ab,f56,rfl,rfl,bd,aB,aC⟩;obtain⟨be,bf,aD⟩:=bs bc;refine zg 12 rfl (Bs (fun L s=>∃(am:(List Bx)) (ae:LH) (f65:AA),be=Sum.inr am∧Jn ab H ae [bX K f65 133] [(0,.slice (A2 K) U O),(1,iV p1),(2,iV p2),(3,iV p3),(4,(fV 134)),(10,.bool true),(11,.bool true),(12,iV ak),(13,iV W.1)] L s (WL 133 Cr ae K O U f65 am)) ?_ ?_)
     ·rintro _ _ ⟨am,ae,f65,rfl,rfl,rfl,cC,ag,ah⟩;have bg:=elim_inr aD;refine zg 2 rfl (DI 17 [K] ⟨⟨0,_,rfl⟩,trivial⟩ ag fun ht=>?_);refine Bh ht rfl [0,1,2] rfl ?_;obtain⟨bh,aE,bi⟩:=bs bg;refine FR 0 #[true,true,true,true,true,true,true,true,true,true,true,true,true,true,true,true,true] (fun L s=>∃(aF:LH),Jm ae H aF [bX K f65 133] [(0,.slice (A2 K) U O),(1,iV p1),(2,iV p2),(3,iV p3),(4,(fV 134)),(10,.bool true),(11,.bool true),(12,iV ak),(13,iV W.1),(97,.bool bh)] L s) ?_ ?_
      ·rintro _ _ ⟨aF,rfl,rfl,bj,bl⟩;refine AV.fin (by decide+kernel) (BK bi (fun bm bn=>?_) (fun bm bo=>?_))
       ·refine zg 7 rfl ?_;cases bn
       ·obtain⟨cD,bp,bq⟩:=bs bo;refine zg 8 rfl (B8 0 (Sr (ah.Ai bj) bp) rfl rfl (A3 func185 rfl) bl rfl ?_);rintro _ cE _ cF ⟨f83,rfl,rfl,cG⟩ cH;obtain⟨cI,br,bu⟩:=bs bq;refine zg 15 rfl (Cd br rfl rfl rfl ?_);obtain⟨cJ,bv,bw⟩:=bs bu;refine zg 2 rfl (Cd bv rfl rfl rfl ?_);obtain⟨bx,bz,bA⟩:=bs bw;refine zg 6 rfl (Ay (v:=iV bx) rfl (fun ρ h=>KV (h _ _ rfl) (h _ _ rfl) bz) ?_);refine zg 8 rfl (AM bA (fun bB bC=>?_) (fun bB bD=>?_))
        ·refine zg 14 rfl ?_;cases bC
        ·obtain⟨cK,bE,bF⟩:=bs bD;refine zg 11 rfl (A9 bE rfl rfl rfl ?_);refine zg 3 rfl ?_;cases bF
      ·intro aG;refine FO (q:=0<p1) (i:=83) rfl (fun an=>?_) (fun an=>?_)
       ·have bG:=ip aE an;refine Bh ht rfl [3,4,5] rfl ?_;obtain⟨cM,bH,bI⟩:=bs bG;refine Bw 6 ht rfl rfl (fun ρ h s' hs=>Dc (h _ _ rfl) (h _ _ rfl) bH) ?_;obtain⟨Z,aH,bJ⟩:=bs bI;obtain⟨_,⟨_,_,rfl,rfl,⟨_,_,rfl,rfl,⟨aI,aJ,rfl,bK⟩⟩⟩,bL⟩:=WL.at ah aH;refine Gb 7 ht (ah).2 aH underlying130 AS ?_;refine Ed 8 ht [iV Z.1,iV Z.2.1,sV aI Z.2.2 aJ] 0 ag bL Cn AS ?_;refine Bh ht rfl [9,10] rfl ?_;obtain⟨aa,aK,bM⟩:=bs bJ;obtain⟨_,⟨_,_,rfl,rfl,⟨_,_,rfl,rfl,⟨aL,aM,rfl,bN⟩⟩⟩,bO⟩:=WL.at ah aK;refine Gb 11 ht (ah).2 aK underlying130 AS ?_;refine Ed 12 ht [iV aa.1,iV aa.2.1,sV aL aa.2.2 aM] 0 ag bO Cn AS ?_;obtain⟨bP,bQ,bR⟩:=bs bM;refine HM (i:=13) ⟨⟨0,_,rfl⟩,trivial⟩ (vs:= [.agg #[iV Z.1,iV Z.2.1,sV aI Z.2.2 aJ],.agg #[iV aa.1,iV aa.2.1,sV aL aa.2.2 aM]]) (G6 bK bN bQ) (by decide+kernel) rfl rfl rfl rfl GX rfl ag ?_;rintro _ bS _ bT ⟨rfl,rfl⟩ bU;refine Cz 14 ht rfl rfl ?_;refine Bw (v:= .bool (decide (¬(bP<0)))) 15 ht rfl rfl (fun ρ h s' hs=>IY (h _ _ rfl)) ?_;refine Cz 16 ht rfl rfl ?_;obtain rfl:=oi bR;refine Dg ?_ (aG _ _ ⟨bS,rfl,rfl,bT,bU⟩);exact⟨rfl,rfl,rfl,rfl,rfl,rfl,rfl,rfl,rfl,rfl,trivial⟩
       ·have bV:=im aE an;refine Bh ht rfl [3,4,5,6,7,8,9,10,11,12,13,14,15,16] rfl ?_;obtain rfl:=oi bV;refine Dg ?_ (aG _ _ ⟨ae,rfl,rfl,Aq,ag⟩);exact⟨rfl,rfl,rfl,rfl,rfl,rfl,rfl,rfl,rfl,rfl,trivial⟩
     ·intro aN;refine AM bf (fun bW bY=>?_) (fun bW bZ=>?_)
      ·obtain⟨b0,b1,b2⟩:=bs bY;refine zg 6 rfl (B8 0 (Sc aC b1) rfl rfl (A3 func183 rfl) aB rfl ?_);rintro _ b3 _ aO ⟨f133,rfl,rfl,aP⟩ aQ;refine JL.done (BK b2 (fun b4 b5=>?_) (fun b4 b6=>?_))
       ·obtain rfl:=oi b5;have b7:=elim_inl aD;obtain rfl:=oi b7;obtain rfl:=aw _ aj;have b8:=elim_inl ar;obtain rfl:=oi b8;exact AL func162 rfl rfl (aq (((V.Ab al).Ab bd).Ab aO) rfl ⟨f133,rfl,(by first | rfl | simp | (simp [Value.cells])),aP⟩ aQ)
       ·exact JL.skip (Aw (aN _ _ ⟨b0.2,b3,f133,(Option.some.inj b6).symm,rfl,rfl,aO,aQ,aP⟩) rfl)
      ·exact JL.skip (Aw (aN _ _ ⟨W.2.2,ab,f56,(Option.some.inj bZ).symm,rfl,rfl,Aq,aB,aC⟩) rfl)
    ·intro aR;refine AM bb (fun b9 ca=>?_) (fun b9 cb=>?_)
     ·obtain⟨cN,cc,cd⟩:=bs ca;refine zg 6 rfl (B8 0 (R3 (hW.Ai (V.Ab al)) cc) rfl rfl (A3 func182 rfl) aA rfl ?_);rintro _ ce _ cf ⟨f156,rfl,rfl,cg⟩ ci;obtain⟨cO,ck,cm⟩:=bs cd;refine zg 4 rfl (Cd ck rfl rfl rfl ?_);obtain⟨cP,cn,co⟩:=bs cm;refine zg 2 rfl (Cd cn rfl rfl rfl ?_);obtain⟨cQ,cp,cq⟩:=bs co;refine Cd cp rfl rfl rfl (zg 5 rfl ?_);obtain rfl:=oi cq;exact Aw (aR _ _ ⟨ce,f156,rfl,rfl,cf,ci,cg⟩) rfl
     ·refine JL.skip ?_;obtain rfl:=oi cb;exact Aw (aR _ _ ⟨az,ai,rfl,rfl,Aq,aA,(hW.Ai (V.Ab al))⟩) rfl
def Hm(fuel:Nat)(p3:Int)(K:Int×Int×Bool×Bool×(List Bx)):Option (Bn (Int×Int×Bool×Bool×(List Bx)) (((List Bx))⊕(Unit))):= Option.bind ((Av (K.2.1 - K.1)).bind fun ab=> if ab≤12 then((f178 fuel K.2.2.2.2 K.1 K.2.1).bind fun ai=> some (Sum.inl ai)) else(if p3=0 then(none) else(Option.bind (if(!K.2.2.1)=true then(none) else(some ())) fun aE=> (f181 fuel K.2.2.2.2 K.1 K.2.1).bind fun V=> Option.bind (if V.2=2 then((f182 fuel K.2.2.2.2 K.1 K.2.1).bind fun aj=> (Av (K.2.1 - 1)).bind fun ak=> (Av (V.1 - K.1)).bind fun al=> (Av (ak - al)).bind fun am=> some (am,1,aj)) else(some (V.1,V.2,K.2.2.2.2))) fun U=> Option.bind (if K.2.2.1=true then(some K.2.2.2.1) else(some false)) fun an=> Option.bind (if an=true then(some (decide (U.2.1=1))) else(some false)) fun ao=> Option.bind (if ao=true then((f183 fuel U.2.2 K.1 K.2.1).bind fun Z=> if Z.1=true then(some (Sum.inl Z.2)) else(some (Sum.inr Z.2))) else(some (Sum.inr U.2.2))) fun ap=>Sum.elim (fun r=>some (Sum.inl r)) (fun aa=> Option.bind (if 0<K.1 then((Av (K.1 - 1)).bind fun aq=> (ix aa aq).bind fun ar=> (ix aa U.1).bind fun au=> (f134 fuel ar au).bind fun av=> some (decide (¬(av<0)))) else(some false)) fun aw=> if aw=true then(none) else((f185 fuel aa K.1 K.2.1 U.1).bind fun O=> (Av (O.1 - K.1)).bind fun ae=> (Av (K.2.1 - O.1)).bind fun ag=> (HA ab (8)).bind fun ah=> Option.bind (if ae<ag then((Iu fuel O.2.2 K.1 O.1 p3).bind fun ay=> (Av (O.1+1)).bind fun az=> some (az,K.2.1,decide (ah≤ae),ay)) else((Av (O.1+1)).bind fun aA=> (Iu fuel O.2.2 aA K.2.1 p3).bind fun aB=> some (K.1,O.1,decide (ah≤ag),aB))) fun W=> some (Sum.inr (W.1,W.2.1,W.2.2.1,O.2.1,W.2.2.2)))) ap))) fun aC=>Sum.elim (fun r=>some (.done (Sum.inl r))) (fun aD=> some (.more aD)) aC
def f162(fuel:Nat)(p0:List Bx)(p1:Int)(p2:Int)(p3:Int):Option ((List Bx)):= Option.bind (iter (Hm fuel p3) fuel (p1,p2,true,true,p0)) fun K=> Sum.elim (fun r=>some r) (fun O=> none) K
theorem YB{O:Nat}{U:Nat}{V:Nat}{aw:AA}{p0:List (Bx)}{p1:Int}{p2:Int}{p3:Int}(hW:WL 133 Cr E O U V aw p0){fuel:Nat}{r:(List Bx)}(aE:f162 fuel p0 p1 p2 p3=some r):AU J 162 [.slice (A2 O) V U,iV p1,iV p2,iV p3,(fV 134)] E [(O,.cells aw 133 (0,0))] (fun w E' B'=>∃(aF:AA),w= .tuple #[]∧B'= [(O,.cells aF 133 (0,0))]∧WL 133 Cr E' O U V aF r):=by
 refine Bj func162 fun Q dI cs H be aG=>?_;unfold f162 at aE;obtain⟨dJ,bf,aH⟩:=bs aE;refine zg 8 rfl (Bs (fun L s=>False) ?_ ?_)
 ·intro _ _ bg;exact bg.elim
 ·intro dK;refine JL.block (CE bf (fun L s K=>∃(al:LH) (f22:AA),Jn E H al [bX O f22 133] [(0,.slice (A2 O) V U),(1,iV K.1),(2,iV K.2.1),(3,iV p3),(4,(fV 134)),(10,.bool K.2.2.1),(11,.bool K.2.2.2.1)] L s (WL 133 Cr al O U V f22 K.2.2.2.2)) ⟨E,aw,rfl,rfl,Aq,be,hW⟩ ?_);rintro _ _ K ⟨al,f22,rfl,rfl,ay,aI,am⟩ aJ ⟨dL,an⟩ bh;have aK:=an;unfold Hm at aK;obtain⟨bi,bj,az⟩:=bs aK;refine Bs (fun L s=>∃(Z:Int×Int×Bool×Bool×(List Bx)) (ao:LH) (f36:AA),bi=Sum.inr Z∧Jn al H ao [bX O f36 133] [(0,.slice (A2 O) V U),(1,iV Z.1),(2,iV Z.2.1),(3,iV p3),(4,(fV 134)),(10,.bool Z.2.2.1),(11,.bool Z.2.2.2.1)] L s (WL 133 Cr ao O U V f36 Z.2.2.2.2)) ?_ ?_
  ·rintro _ _ ⟨Z,ao,f36,rfl,rfl,rfl,bl,bm,bn⟩;have bo:=elim_inr az;obtain rfl:=oi bo;exact Aw (bh _ _ Z ⟨ao,f36,rfl,rfl,(ay.Ab bl),bm,bn⟩ an) rfl
  ·intro bp;obtain⟨ab,bq,br⟩:=bs bj;refine zg 5 rfl (Cd bq rfl rfl rfl ?_);refine zg 8 rfl (AM br (fun bu bv=>?_) (fun bu bw=>?_))
   ·obtain⟨dM,bx,bz⟩:=bs bv;refine zg 6 rfl (B8 0 (R4 am bx) rfl rfl NM aI rfl ?_);rintro _ dN _ bA ⟨f52,rfl,rfl,bB⟩ bC;refine JL.done ?_;obtain rfl:=oi bz;have bD:=elim_inl az;obtain rfl:=oi bD;obtain rfl:=aJ _ an;have bE:=elim_inl aH;obtain rfl:=oi bE;exact AL func162 rfl rfl (aG (ay.Ab bA) rfl ⟨f52,rfl,(by first | rfl | simp | (simp [Value.cells])),bB⟩ bC)
   ·refine zg 7 rfl (AM bw (fun bF bG=>?_) (fun bF bH=>?_))
    ·refine zg 6 rfl ?_;cases bG
    ·refine zg 5 rfl (Ay (v:= .bool (!K.2.2.1)) rfl (fun ρ h=>Yl.not (h _ _ rfl)) ?_);obtain⟨dO,bI,bJ⟩:=bs bH;refine JL.done (CM [bX O f22 133] [(0,.slice (A2 O) V U),(1,iV K.1),(2,iV K.2.1),(3,iV p3),(4,(fV 134)),(10,.bool K.2.2.1),(11,.bool K.2.2.2.1),(12,iV ab)] (fun dP ah bK=>?_) (fun bL=>?_))
     ·obtain⟨dQ,bM,bN⟩:=bs bJ;refine zg 6 rfl (B8 0 (Sw (am.Ai ah) bM) rfl rfl (A3 func181 rfl) bK rfl ?_);rintro _ aL _ ap ⟨rfl,rfl⟩ aM;obtain⟨W,bO,bP⟩:=bs bN;refine zg 12 rfl (Bs (fun L s=>∃(aA:LH) (f84:AA),Jn aL H aA [bX O f84 133] [(0,.slice (A2 O) V U),(1,iV K.1),(2,iV K.2.1),(3,iV p3),(4,(fV 134)),(10,.bool K.2.2.1),(11,.bool K.2.2.2.1),(12,iV ab),(13,iV W.1),(14,iV W.2.1)] L s (WL 133 Cr aA O U V f84 W.2.2)) ?_ ?_)
      ·rintro _ _ ⟨aA,f84,rfl,rfl,aN,aO,aP⟩;obtain⟨bQ,bR,bS⟩:=bs bP;refine zg 5 rfl (CS 4 4 [bX O f84 133] [(0,.slice (A2 O) V U),(1,iV K.1),(2,iV K.2.1),(3,iV p3),(4,(fV 134)),(10,.bool K.2.2.1),(11,.bool K.2.2.2.1),(12,iV ab),(13,iV W.1),(14,iV W.2.1),(71,.bool bQ)] (fun aB aq aQ=>?_) (fun aR=>?_))
       ·obtain⟨bT,bU,bV⟩:=bs bS;refine zg 1 rfl (FP [] (fun L s=>∃(ar:LH),Jm aB H ar [bX O f84 133] [(0,.slice (A2 O) V U),(1,iV K.1),(2,iV K.2.1),(3,iV p3),(4,(fV 134)),(10,.bool K.2.2.1),(11,.bool K.2.2.2.1),(12,iV ab),(13,iV W.1),(75,.bool bT)] L s) ?_ ?_)
        ·rintro _ _ ⟨ar,rfl,rfl,au,aS⟩;obtain⟨bW,bY,aT⟩:=bs bV;refine JL.done (Bs (fun L s=>∃(aC:(List Bx)) (ai:LH) (f105:AA),bW=Sum.inr aC∧Jn ar H ai [bX O f105 133] [(0,.slice (A2 O) V U),(1,iV K.1),(2,iV K.2.1),(3,iV p3),(4,(fV 134)),(10,.bool K.2.2.1),(11,.bool K.2.2.2.1),(12,iV ab),(13,iV W.1)] L s (WL 133 Cr ai O U V f105 aC)) ?_ ?_)
         ·rintro _ _ ⟨aC,ai,f105,rfl,rfl,rfl,bZ,aj,ak⟩;have b0:=elim_inr aT;refine zg 2 rfl (DI 17 [O] ⟨⟨0,_,rfl⟩,trivial⟩ aj fun ht=>?_);refine Bh ht rfl [0,1,2] rfl ?_;obtain⟨b1,aU,b2⟩:=bs b0;refine FR 0 #[true,true,true,true,true,true,true,true,true,true,true,true,true,true,true,true,true] (fun L s=>∃(aV:LH),Jm ai H aV [bX O f105 133] [(0,.slice (A2 O) V U),(1,iV K.1),(2,iV K.2.1),(3,iV p3),(4,(fV 134)),(10,.bool K.2.2.1),(11,.bool K.2.2.2.1),(12,iV ab),(13,iV W.1),(97,.bool b1)] L s) ?_ ?_
          ·rintro _ _ ⟨aV,rfl,rfl,aW,b3⟩;refine AV.fin (by decide+kernel) (BK b2 (fun b4 b5=>?_) (fun b4 b6=>?_))
           ·refine zg 7 rfl ?_;cases b5
           ·obtain⟨aX,b7,b8⟩:=bs b6;refine zg 8 rfl (B8 0 (Sr (ak.Ai aW) b7) rfl rfl (A3 func185 rfl) b3 rfl ?_);rintro _ b9 _ ca ⟨f123,rfl,rfl,aY⟩ aZ;obtain⟨dR,cb,cc⟩:=bs b8;refine zg 15 rfl (Cd cb rfl rfl rfl ?_);obtain⟨dS,cd,ce⟩:=bs cc;refine zg 2 rfl (Cd cd rfl rfl rfl ?_);obtain⟨cf,cg,ci⟩:=bs ce;refine zg 6 rfl (Ay (v:=iV cf) rfl (fun ρ h=>KV (h _ _ rfl) (h _ _ rfl) cg) ?_);obtain⟨aa,ck,cm⟩:=bs ci;refine zg 8 rfl (Bs (fun L s=>∃(av:LH) (f138:AA),Jn b9 H av [bX O f138 133] [(0,.slice (A2 O) V U),(1,iV aa.1),(2,iV aa.2.1),(3,iV p3),(4,(fV 134)),(10,.bool aa.2.2.1),(11,.bool aX.2.1)] L s (WL 133 Cr av O U V f138 aa.2.2.2)) ?_ ?_)
            ·rintro _ _ ⟨av,f138,rfl,rfl,cn,co,cp⟩;exact NZ (Aw (bp _ _ ⟨(aa.1,aa.2.1,aa.2.2.1,aX.2.1,aa.2.2.2),av,f138,(Option.some.inj cm).symm,rfl,rfl,((((((((ah.Ab ap).Ab aN).Ab aq).Ab au).Ab bZ).Ab aW).Ab ca).Ab cn),co,cp⟩) rfl)
            ·intro a0;refine AM ck (fun cq cr=>?_) (fun cq ct=>?_)
             ·obtain⟨dT,cu,cv⟩:=bs cr;refine zg 14 rfl (B8 0 (Rj aY cu) rfl rfl LQ aZ rfl ?_);rintro _ cw _ cy ⟨f150,rfl,rfl,cz⟩ cA;obtain⟨dU,cB,cC⟩:=bs cv;refine zg 3 rfl (A9 cB rfl rfl rfl ?_);refine zg 2 rfl ?_;obtain rfl:=oi cC;exact Aw (a0 _ _ ⟨cw,f150,rfl,rfl,cy,cA,cz⟩) rfl
             ·obtain⟨dV,cD,cE⟩:=bs ct;refine zg 11 rfl (A9 cD rfl rfl rfl ?_);obtain⟨dW,cF,cG⟩:=bs cE;refine zg 3 rfl (B8 0 (Rj aY cF) rfl rfl LQ aZ rfl ?_);rintro _ cH _ cI ⟨f165,rfl,rfl,cJ⟩ cK;refine zg 5 rfl ?_;obtain rfl:=oi cG;exact Aw (a0 _ _ ⟨cH,f165,rfl,rfl,cI,cK,cJ⟩) rfl
          ·intro a1;refine FO (q:=0<K.1) (i:=83) rfl (fun aD=>?_) (fun aD=>?_)
           ·have cM:=ip aU aD;refine Bh ht rfl [3,4,5] rfl ?_;obtain⟨dX,cN,cO⟩:=bs cM;refine Bw 6 ht rfl rfl (fun ρ h s' hs=>Dc (h _ _ rfl) (h _ _ rfl) cN) ?_;obtain⟨ae,a2,cP⟩:=bs cO;obtain⟨_,⟨_,_,rfl,rfl,⟨_,_,rfl,rfl,⟨a3,a4,rfl,cQ⟩⟩⟩,cR⟩:=WL.at ak a2;refine Gb 7 ht (ak).2 a2 underlying130 AS ?_;refine Ed 8 ht [iV ae.1,iV ae.2.1,sV a3 ae.2.2 a4] 0 aj cR Cn AS ?_;refine Bh ht rfl [9,10] rfl ?_;obtain⟨ag,a5,cT⟩:=bs cP;obtain⟨_,⟨_,_,rfl,rfl,⟨_,_,rfl,rfl,⟨a6,a7,rfl,cV⟩⟩⟩,cW⟩:=WL.at ak a5;refine Gb 11 ht (ak).2 a5 underlying130 AS ?_;refine Ed 12 ht [iV ag.1,iV ag.2.1,sV a6 ag.2.2 a7] 0 aj cW Cn AS ?_;obtain⟨cX,cY,cZ⟩:=bs cT;refine HM (i:=13) ⟨⟨0,_,rfl⟩,trivial⟩ (vs:= [.agg #[iV ae.1,iV ae.2.1,sV a3 ae.2.2 a4],.agg #[iV ag.1,iV ag.2.1,sV a6 ag.2.2 a7]]) (G6 cQ cV cY) (by decide+kernel) rfl rfl rfl rfl GX rfl aj ?_;rintro _ c0 _ c1 ⟨rfl,rfl⟩ c2;refine Cz 14 ht rfl rfl ?_;refine Bw (v:= .bool (decide (¬(cX<0)))) 15 ht rfl rfl (fun ρ h s' hs=>IY (h _ _ rfl)) ?_;refine Cz 16 ht rfl rfl ?_;obtain rfl:=oi cZ;refine Dg ?_ (a1 _ _ ⟨c0,rfl,rfl,c1,c2⟩);exact⟨rfl,rfl,rfl,rfl,rfl,rfl,rfl,rfl,rfl,rfl,trivial⟩
           ·have c3:=im aU aD;refine Bh ht rfl [3,4,5,6,7,8,9,10,11,12,13,14,15,16] rfl ?_;obtain rfl:=oi c3;refine Dg ?_ (a1 _ _ ⟨ai,rfl,rfl,Aq,aj⟩);exact⟨rfl,rfl,rfl,rfl,rfl,rfl,rfl,rfl,rfl,rfl,trivial⟩
         ·intro a8;refine BK bY (fun c4 c5=>?_) (fun c4 c6=>?_)
          ·obtain⟨c7,c8,c9⟩:=bs c5;refine zg 6 rfl (B8 0 (Sc (aP.Ai (aq.Ab au)) c8) rfl rfl (A3 func183 rfl) aS rfl ?_);rintro _ da _ a9 ⟨f205,rfl,rfl,ba⟩ bb;refine JL.done (BK c9 (fun db dc=>?_) (fun db dd=>?_))
           ·obtain rfl:=oi dc;have de:=elim_inl aT;obtain rfl:=oi de;have df:=elim_inl az;obtain rfl:=oi df;obtain rfl:=aJ _ an;have dg:=elim_inl aH;obtain rfl:=oi dg;exact AL func162 rfl rfl (aG ((((((ay.Ab ah).Ab ap).Ab aN).Ab aq).Ab au).Ab a9) rfl ⟨f205,rfl,(by first | rfl | simp | (simp [Value.cells])),ba⟩ bb)
           ·exact JL.skip (Aw (a8 _ _ ⟨c7.2,da,f205,(Option.some.inj dd).symm,rfl,rfl,a9,bb,ba⟩) rfl)
          ·exact JL.skip (Aw (a8 _ _ ⟨W.2.2,ar,f84,(Option.some.inj c6).symm,rfl,rfl,Aq,aS,(aP.Ai (aq.Ab au))⟩) rfl)
        ·intro bc;refine C8 72 bU (fun dh di=>?_) (fun dh dj=>?_)
         ·refine zg 3 rfl ?_;obtain rfl:=oi di;exact Aw (bc _ _ ⟨aB,rfl,rfl,Aq,aQ⟩) rfl
         ·refine zg 3 rfl ?_;obtain rfl:=oi dj;exact Aw (bc _ _ ⟨aB,rfl,rfl,Aq,aQ⟩) rfl
       ·refine C8 69 bR (fun dk dl=>?_) (fun dk dm=>?_)
        ·refine zg 2 rfl ?_;obtain rfl:=oi dl;exact aR Aq aO rfl
        ·refine zg 2 rfl ?_;obtain rfl:=oi dm;exact aR Aq aO rfl
      ·intro bd;refine AM bO (fun dn dp=>?_) (fun dn dq=>?_)
       ·obtain⟨dY,dr,dt⟩:=bs dp;refine zg 6 rfl (B8 0 (R3 (am.Ai (ah.Ab ap)) dr) rfl rfl (A3 func182 rfl) aM rfl ?_);rintro _ du _ dv ⟨dw,rfl,rfl,dx⟩ dy;obtain⟨dZ,dz,dA⟩:=bs dt;refine zg 4 rfl (Cd dz rfl rfl rfl ?_);obtain⟨ea,dB,dC⟩:=bs dA;refine zg 2 rfl (Cd dB rfl rfl rfl ?_);obtain⟨eb,dD,dE⟩:=bs dC;refine Cd dD rfl rfl rfl (zg 5 rfl ?_);obtain rfl:=oi dE;exact Aw (bd _ _ ⟨du,dw,rfl,rfl,dv,dy,dx⟩) rfl
       ·refine JL.skip ?_;obtain rfl:=oi dq;exact Aw (bd _ _ ⟨aL,f22,rfl,rfl,Aq,aM,(am.Ai (ah.Ab ap))⟩) rfl
     ·refine BK bI (fun dF dG=>?_) (fun dF dH=>?_)
      ·refine zg 6 rfl ?_;cases dG
      ·refine JL.skip ?_;obtain rfl:=oi dH;exact bL Aq aI rfl
def f133(fuel:Nat)(p0:List Bx):Option ((List Bx)):= (f163 fuel (Dm (p0.length:Int))).bind fun K=> (f162 fuel p0 0 (p0.length:Int) K).bind fun O=> some O
theorem XV{K:Nat}{O:Nat}{U:Nat}{V:AA}{p0:List (Bx)}(hW:WL 133 Cr E K O U V p0){fuel:Nat}{r:(List Bx)}(W:f133 fuel p0=some r):AU J 133 [.slice (A2 K) U O,(fV 134)] E [(K,.cells V 133 (0,0))] (fun w E' B'=>∃(Z:AA),w= .tuple #[]∧B'= [(K,.cells Z 133 (0,0))]∧WL 133 Cr E' K O U Z r):=by
 refine Bj func133 fun Q ao cs H ab ae=>?_;unfold f133 at W;refine zg 3 rfl (Ay (v:=iV (p0.length:Int)) rfl (fun ρ h=>RA (hW).2 rfl underlying130 (h _ _ rfl)) ?_);refine zg 6 rfl (Ay (v:= .int .u64 ((Dm (p0.length:Int):Nat):Int)) rfl (fun ρ h=>Yl.Dm underlying3 underlying156 (h _ _ rfl)) ?_);obtain⟨ap,ag,ah⟩:=bs W;refine BJ (Sz ag) rfl rfl (A3 func163 rfl) ab fun aq aa ai=>?_;obtain⟨ar,aj,ak⟩:=bs ah;refine zg 1 rfl (B8 0 (YB (hW.Ai aa) aj) rfl rfl LQ ai rfl ?_);rintro _ au _ al ⟨f12,rfl,rfl,am⟩ an;refine JL.done ?_;obtain rfl:=oi ak;exact JL.fin (v:= .tuple #[]) rfl rfl (B6.list func133 rfl (vs:= []) trivial) (ae (aa.Ab al) rfl ⟨f12,rfl,(by first | rfl | simp | (simp [Value.cells])),am⟩ an)
end Pal
namespace Pal
def A5{α:Type}(o:Option α)(Q:α→Prop):Prop:=∃a,o=some a∧Q a
section
variable {α β:Type}{Q R:α→Prop}
theorem Al{a:α}(h:Q a):A5 (some a) Q:=⟨a,rfl,h⟩
theorem A5.Ai{o:Option α}(h:A5 o R)(k:∀a,R a→Q a):A5 o Q:=let ⟨a,K,O⟩:=h;⟨a,K,k a O⟩
theorem A5.of_eq{o:Option α}{a:α}(h:o=some a)(k:Q a):A5 o Q:=⟨a,h,k⟩
theorem AI{o:Option β}{f:β→Option α}{S:β→Prop}(h:A5 o S)(k:∀b,S b→A5 (f b) Q):A5 (o.bind f) Q:=by
 obtain⟨b,rfl,hb⟩:=h;obtain⟨a,K,O⟩:=k b hb;exact⟨a,K,O⟩
theorem AP{o:Option β}{f:β→Option α}{b:β}(h:o=some b)(k:A5 (f b) Q):A5 (o.bind f) Q:=by subst h;exact k
theorem A5.Zp{f:Int→Option α}{x:Int}(K: -9223372036854775808≤x)(O:x≤9223372036854775807)(k:A5 (f x) Q):A5 ((Av x).bind f) Q:=AP (if_pos ⟨K,O⟩) k
theorem Ec{xs:List β}{i:Int}{m:Nat}{b:β}(h:i=(m:Int))(hb:xs[m]? =some b):ix xs i=some b:=by subst h;simpa [ix] using hb
theorem Bv{f:β→Option α}{xs:List β}{i:Int}{m:Nat}(h:i=(m:Int))(hm:m<xs.length)(k:A5 (f xs[m]) Q):A5 ((ix xs i).bind f) Q:=AP (Ec h (List.getElem?_eq_getElem hm)) k
theorem Ij{f:List β→Option α}{xs:List β}{x:β}(h:xs.length+1≤2 ^ 40)(k:A5 (f (xs++ [x])) Q):A5 ((room xs x).bind f) Q:=AP (if_pos h) k
theorem By{c:Prop} [Decidable c] {x y:Option α}(K:c→A5 x Q)(O:¬c→A5 y Q):A5 (if c then x else y) Q:=by
 by_cases h:c
 ·rw [if_pos h];exact K h
 ·rw [if_neg h];exact O h
theorem BI{c:Prop} [Decidable c] {x y:Option α}(h:c)(k:A5 x Q):A5 (if c then x else y) Q:=by rw [if_pos h];exact k
theorem Bf{c:Prop} [Decidable c] {x y:Option α}(h:¬c)(k:A5 y Q):A5 (if c then x else y) Q:=by rw [if_neg h];exact k
def Bn.sat{S A:Type}(I:S→Prop)(Q:A→Prop):Bn S A→Prop
 | .more s=>I s
 | .done a=>Q a
theorem Ot{S:Type}{body:S→Option (Bn S α)}(I:Nat→S→Prop)(round:∀m s,I m s→A5 (body s) (Bn.sat (fun s'=>∃m',m'<m∧I m' s') Q)):
  ∀{m fuel:Nat} {s:S},I m s→m<fuel→A5 (iter body fuel s) Q:=by
 intro m
 induction m using Nat.strongRecOn with
 | _ m O=>
  intro fuel s U aa;obtain⟨fuel,rfl⟩:∃k,fuel=k+1:=⟨fuel - 1,by omega⟩;obtain⟨st,V,K⟩:=round m s U;unfold Pal.iter;rw [V];cases st with
  | more s'=>
   obtain⟨m',W,Z⟩:=K;exact O m' W Z (by omega)
  | done a=>exact⟨a,rfl,K⟩
end
end Pal
namespace Pal
open Go.Sort
abbrev PT:=Int×Int×(List (Int×(List Int)×Nat))
def AQ(x y:PT):Bool:=decide (x.1<y.1)
theorem MA:SWO AQ:=⟨fun x=>by simp [AQ],fun x y z K O=>by simp [AQ] at*;omega,fun x y z K O=>by simp [AQ] at*;omega⟩
def KO(xs:List PT):Prop:=∀x∈xs,0≤x.1∧x.1≤1000
theorem KH{fuel:Nat}{x y:PT}(K:0≤x.1∧x.1≤1000)(O:0≤y.1∧y.1≤1000):f134 fuel x y=some (x.1 - y.1):=by
 unfold f134;rw [show Av (x.1 - y.1)=some (x.1 - y.1) from if_pos (by omega)];rfl
theorem JC(x y:PT):decide (x.1 - y.1<0)=AQ x y:=by unfold AQ;congr 1;apply propext;omega
theorem KO.get{xs:List PT}(h:KO xs){i:Nat}(hi:i<xs.length):0≤xs[i].1∧xs[i].1≤1000:=h _ (List.getElem_mem hi)
theorem KO.set{xs:List PT}(h:KO xs){i:Nat}{x:PT}(K:0≤x.1∧x.1≤1000):KO (xs.set i x):=fun y O=>by
 rcases List.mem_or_eq_of_mem_set O with q | q
 ·exact h y q
 ·subst q;exact K
theorem IU{xs:List PT}{i j:Nat}(hi:i<xs.length)(K:j<xs.length):((xs.set i xs[j]).set j xs[i]).toArray=swp xs.toArray i j:=by
 unfold swp;rw [show xs.toArray[j]! =xs[j] by simp [getElem!_pos,K],show xs.toArray[i]! =xs[i] by simp [getElem!_pos,hi]];simp
theorem GC{xs:List PT}{i:Nat}(hi:i<xs.length):xs.toArray[i]! =xs[i]:=by simp [getElem!_pos,hi]
section
variable {α:Type}{Q:α→Prop}
theorem AX{f:Int→Option α}{x:Int}(y:Int)(h:x=y)(K: -9223372036854775808≤y)(O:y≤9223372036854775807)(k:A5 (f y) Q):A5 ((Av x).bind f) Q:=by subst h;exact A5.Zp K O k
end
theorem Wy{F:Nat}(a:Nat):∀(j fuel:Nat) (xs:List PT),j<fuel→j<xs.length→xs.length<1000→KO xs→
  A5 (iter (JE F (a:Int)) fuel ((j:Int),xs)) (fun ys=>ys.toArray=insInner AQ a j xs.toArray∧KO ys∧ys.length=xs.length):=by
 intro j
 induction j with
 | zero=>
  intro fuel xs ab U Z K;obtain⟨fuel,rfl⟩:∃k,fuel=k+1:=⟨fuel - 1,by omega⟩;refine⟨xs,?_,rfl,K,rfl⟩;have ae:¬((a:Int)<0):=by omega
  simp [iter,JE,ae]
 | succ j ag=>
  intro fuel xs ab U Z K;obtain⟨fuel,rfl⟩:∃k,fuel=k+1:=⟨fuel - 1,by omega⟩;have O:j<xs.length:=by omega
  have ah:A5 (JE F (a:Int) (((j+1:Nat):Int),xs)) (fun st=>st=if(decide (j+1>a)&&AQ xs[j+1] xs[j])=true then .more ((j:Int),(xs.set (j+1) xs[j]).set j xs[j+1]) else .done xs):=by
   unfold JE;refine AI (S:=fun c=>c=(decide (j+1>a)&&AQ xs[j+1] xs[j])) ?_ ?_
   ·refine By (fun h=>?_) (fun h=>?_)
    ·have W:a<j+1:=by simp at h;omega
     refine Bv (m:=j+1) rfl U (AX (j:Int) (by simp) (by omega) (by omega) ?_);refine Bv (m:=j) rfl O (AP (KH (K.get U) (K.get O)) ?_);refine Al ?_;rw [JC];simp [W]
    ·have W:¬a<j+1:=by simp at h;omega
     refine Al ?_;simp [W]
   ·rintro c rfl;refine By (fun h=>?_) (fun h=>?_)
    ·refine AX (j:Int) (by simp) (by omega) (by omega) (AX (j:Int) (by simp) (by omega) (by omega) ?_);refine Bv (m:=j) rfl O (Bv (m:=j+1) rfl U ?_);refine AP (b:=(xs.set (j+1) xs[j])[j]'(by simpa using O)) (Ec rfl (List.getElem?_eq_getElem _)) ?_;refine AX (j:Int) (by simp) (by omega) (by omega) (Al ?_);rw [if_pos h];simp
    ·refine Al ?_;rw [if_neg h]
  obtain⟨st,ai,rfl⟩:=ah;unfold iter;rw [ai];have V:insInner AQ a (j+1) xs.toArray=if(decide (j+1>a)&&AQ xs[j+1] xs[j])=true then insInner AQ a j (swp xs.toArray (j+1) j) else xs.toArray:=by
   rw [insInner,GC U,GC O]
  by_cases aa:(decide (j+1>a)&&AQ xs[j+1] xs[j])=true
  ·rw [if_pos aa] at V ⊢;have aj:KO ((xs.set (j+1) xs[j]).set j xs[j+1]):=(K.set (K.get O)).set (K.get U);refine(ag fuel ((xs.set (j+1) xs[j]).set j xs[j+1]) (by omega) (by simpa using O) (by simpa using Z) aj).Ai ?_;rintro ys ⟨ak,al,am⟩;refine⟨?_,al,by simpa using am⟩;rw [ak,IU U O,V]
  ·rw [if_neg aa] at V ⊢;exact⟨xs,rfl,V.symm,K,rfl⟩
theorem VY{F:Nat}(a b:Nat)(ah:2000<F):∀(m i fuel:Nat) (xs:List PT),b - i=m→m<fuel→b≤xs.length→xs.length<1000→KO xs→
  A5 (iter (IZ F (a:Int) (b:Int)) fuel ((i:Int),xs)) (fun ys=>ys.toArray=insOuter AQ a b i xs.toArray∧KO ys∧ys.length=xs.length):=by
 intro m
 induction m with
 | zero=>
  intro i fuel xs hm W hb V O;obtain⟨fuel,rfl⟩:∃k,fuel=k+1:=⟨fuel - 1,by omega⟩;have U:¬i<b:=by omega
  have K:A5 (IZ F (a:Int) (b:Int) ((i:Int),xs)) (fun st=>st= .done xs):=by
   unfold IZ;exact Bf (show ¬(i:Int)<(b:Int) by omega) (Al rfl)
  obtain⟨st,K,rfl⟩:=K;unfold iter;rw [K];refine⟨xs,rfl,?_,O,rfl⟩;rw [insOuter,if_neg U]
 | succ m Z=>
  intro i fuel xs hm W hb V O;obtain⟨fuel,rfl⟩:∃k,fuel=k+1:=⟨fuel - 1,by omega⟩;have U:i<b:=by omega
  obtain⟨ys,aa,ab,ae,ai⟩:=Wy (F:=F) a i F xs (by omega) (by omega) V O;have K:A5 (IZ F (a:Int) (b:Int) ((i:Int),xs)) (fun st=>st= .more (((i+1:Nat):Int),ys)):=by
   unfold IZ;refine BI (show(i:Int)<(b:Int) by omega) (AP aa ?_);exact AX ((i+1:Nat):Int) (by simp) (by omega) (by omega) (Al rfl)
  obtain⟨st,K,rfl⟩:=K;unfold iter;rw [K];refine(Z (i+1) fuel ys (by omega) (by omega) (by omega) (by omega) ae).Ai ?_;rintro aj ⟨k1,ag,ak⟩;refine⟨?_,ag,by omega⟩;rw [k1,ab,insOuter.eq_def AQ a b i,if_pos U]
theorem Re{F a b:Nat}{xs:List PT}(K:2000<F)(hb:b≤xs.length)(O:xs.length<1000)(U:KO xs)(aa:a≤b):
  A5 (f178 F xs (a:Int) (b:Int)) (fun ys=>ys.toArray=insertionSort AQ xs.toArray a b∧KO ys∧ys.length=xs.length):=by
 unfold f178;refine AX ((a+1:Nat):Int) (by simp) (by omega) (by omega) (AI (VY (F:=F) a b K (b - (a+1)) (a+1) F xs rfl (by omega) hb O U) ?_);rintro ys ⟨V,W,Z⟩;exact⟨ys,rfl,V,W,Z⟩
end Pal
namespace Pal
open Go.Sort
theorem OF{F a b sw:Nat}{xs:List PT}(O:a<xs.length)(hb:b<xs.length)(hs:sw<1000)(V:xs.length<1000)(U:KO xs):
  f200 F xs (a:Int) (b:Int) (sw:Int)=some ((((order2 AQ xs.toArray a b sw).1:Nat):Int),(((order2 AQ xs.toArray a b sw).2.1:Nat):Int),(((order2 AQ xs.toArray a b sw).2.2:Nat):Int)):=by
 have h:A5 (f200 F xs (a:Int) (b:Int) (sw:Int)) (fun r=>r=((((order2 AQ xs.toArray a b sw).1:Nat):Int),(((order2 AQ xs.toArray a b sw).2.1:Nat):Int),(((order2 AQ xs.toArray a b sw).2.2:Nat):Int))):=by
  unfold f200;refine Bv (m:=b) rfl hb (Bv (m:=a) rfl O ?_);refine AP (KH (U.get hb) (U.get O)) ?_;have e:order2 AQ xs.toArray a b sw=if AQ xs[b] xs[a] then(b,a,sw+1) else(a,b,sw):=by unfold order2;rw [GC O,GC hb]
  refine By (fun h=>?_) (fun h=>?_)
  ·have K:AQ xs[b] xs[a]=true:=by rw [← JC];exact decide_eq_true h
   refine AX ((sw+1:Nat):Int) (by simp) (by omega) (by omega) (Al ?_);rw [e,if_pos K]
  ·have K:¬AQ xs[b] xs[a]=true:=by rw [← JC];simpa using h
   refine Al ?_;rw [e,if_neg K]
 obtain⟨r,K,rfl⟩:=h;exact K
theorem Qm{n a b sw:Nat}{d:Array PT}(K:a<n)(hb:b<n):(order2 AQ d a b sw).1<n∧(order2 AQ d a b sw).2.1<n∧(order2 AQ d a b sw).2.2≤sw+1:=by
 unfold order2;split
 ·exact⟨hb,K,Nat.le_refl _⟩
 ·exact⟨K,hb,Nat.le_succ _⟩
theorem WN{F a b c sw:Nat}{xs:List PT}(U:a<xs.length)(hb:b<xs.length)(V:c<xs.length)(hs:sw<900)(K:xs.length<1000)(O:KO xs):
  f197 F xs (a:Int) (b:Int) (c:Int) (sw:Int)=some ((((median AQ xs.toArray a b c sw).1:Nat):Int),(((median AQ xs.toArray a b c sw).2:Nat):Int)):=by
 unfold f197 median;obtain⟨Z,W,ab⟩:=Qm (sw:=sw) (d:=xs.toArray) U hb;rw [OF U hb (by omega) K O];simp only [Option.bind_some];obtain⟨aa,ae,ag⟩:=Qm (sw:=(order2 AQ xs.toArray a b sw).2.2) (d:=xs.toArray) W V;rw [OF W V (by omega) K O];simp only [Option.bind_some];rw [OF Z aa (by omega) K O];simp only [Option.bind_some]
def Ix:Hint→Int | .unknown=>0 | .increasing=>1 | .decreasing=>2
theorem A5.quo{α:Type}{Q:α→Prop}{f:Int→Option α}{x:Int}(m k:Nat)(K:x=(m:Int))(hm:m<1000)(O:0<k)(h:A5 (f ((m / k:Nat):Int)) Q):A5 ((HA x (k:Int)).bind f) Q:=by
 subst K;refine AP ?_ h;unfold HA;rw [if_neg (by omega)];have e:((m:Int).tdiv (k:Int))=((m / k:Nat):Int):=by rw [Int.tdiv_eq_ediv_of_nonneg (by omega)];rfl
 have hle:m / k≤m:=Nat.div_le_self _ _;rw [e];generalize m / k=z at hle ⊢;exact if_pos (by omega)
theorem Xk{F a b:Nat}{xs:List PT}(ah:a+8≤b)(ai:b<a+50)(hb:b≤xs.length)(Z:xs.length<1000)(aa:KO xs):
  f181 F xs (a:Int) (b:Int)=some ((((choosePivot AQ xs.toArray a b).1:Nat):Int),Ix (choosePivot AQ xs.toArray a b).2):=by
 have h:A5 (f181 F xs (a:Int) (b:Int)) (fun r=>r=((((choosePivot AQ xs.toArray a b).1:Nat):Int),Ix (choosePivot AQ xs.toArray a b).2)):=by
  unfold f181;have aj:(b - a) / 4≤b - a:=Nat.div_le_self _ _;have ak:(b - a) / 4*3<b - a:=by omega
  refine AX ((b - a:Nat):Int) (by omega) (by omega) (by omega) (A5.quo (b - a) 4 rfl (by omega) (by omega) ?_);refine AX (((b - a) / 4*1:Nat):Int) (by push_cast;rfl) (by omega) (by omega) (AX ((a+(b - a) / 4*1:Nat):Int) (by push_cast;rfl) (by omega) (by omega) ?_);refine A5.quo (b - a) 4 rfl (by omega) (by omega) (AX (((b - a) / 4*2:Nat):Int) (by push_cast;rfl) (by omega) (by omega) ?_);refine AX ((a+(b - a) / 4*2:Nat):Int) (by push_cast;rfl) (by omega) (by omega) (A5.quo (b - a) 4 rfl (by omega) (by omega) ?_);refine AX (((b - a) / 4*3:Nat):Int) (by push_cast;rfl) (by omega) (by omega) (AX ((a+(b - a) / 4*3:Nat):Int) (by push_cast;rfl) (by omega) (by omega) ?_);have ab:choosePivot AQ xs.toArray a b=((median AQ xs.toArray (a+(b - a) / 4*1) (a+(b - a) / 4*2) (a+(b - a) / 4*3) 0).1,if(median AQ xs.toArray (a+(b - a) / 4*1) (a+(b - a) / 4*2) (a+(b - a) / 4*3) 0).2=0 then .increasing else if(median AQ xs.toArray (a+(b - a) / 4*1) (a+(b - a) / 4*2) (a+(b - a) / 4*3) 0).2=12 then .decreasing else .unknown):=by
   unfold choosePivot;simp only;rw [if_pos (by omega),if_neg (by omega)]
  rw [ab];generalize ae:median AQ xs.toArray (a+(b - a) / 4*1) (a+(b - a) / 4*2) (a+(b - a) / 4*3) 0=K;refine AI (S:=fun r=>r=(((K.1:Nat):Int),((K.2:Nat):Int))) ?_ ?_
  ·refine BI (by omega) (AI (S:=fun _=>True) (Bf (by omega) (Al trivial)) fun _ _=>?_);have W:=WN (F:=F) (a:=a+(b - a) / 4*1) (b:=a+(b - a) / 4*2) (c:=a+(b - a) / 4*3) (sw:=0) (xs:=xs) (by omega) (by omega) (by omega) (by omega) Z aa;rw [ae] at W;exact AP W (Al rfl)
  ·rintro r rfl;refine By (fun h=>?_) (fun h=>?_)
   ·have O:K.2=0:=by simp at h;omega
    rw [if_pos O];exact Al rfl
   ·have O:¬K.2=0:=by simp at h;omega
    rw [if_neg O];refine By (fun U=>?_) (fun U=>?_)
    ·have V:K.2=12:=by simp at U;omega
     rw [if_pos V];exact Al rfl
    ·have V:¬K.2=12:=by simp at U;omega
     rw [if_neg V];exact Al rfl
 obtain⟨r,ag,rfl⟩:=h;exact ag
theorem Xi{F:Nat}:∀(m i j fuel:Nat) (xs:List PT),j - i≤m→m<fuel→(i<j→j<xs.length)→i≤xs.length→j≤xs.length→xs.length<1000→KO xs→
  A5 (iter (HQ F) fuel ((i:Int),(j:Int),xs)) (fun ys=>ys.toArray=reverseLoop i j xs.toArray∧KO ys∧ys.length=xs.length):=by
 intro m
 induction m with
 | zero=>
  intro i j fuel xs hm ab Z hi ae aa K;obtain⟨fuel,rfl⟩:∃k,fuel=k+1:=⟨fuel - 1,by omega⟩;have O:¬i<j:=by omega
  have U:A5 (HQ F ((i:Int),(j:Int),xs)) (fun st=>st= .done xs):=by
   unfold HQ;exact Bf (show ¬(i:Int)<(j:Int) by omega) (Al rfl)
  obtain⟨st,hb,rfl⟩:=U;unfold iter;rw [hb];refine⟨xs,rfl,?_,K,rfl⟩;rw [reverseLoop,if_neg O]
 | succ m ag=>
  intro i j fuel xs hm ab Z hi ae aa K;obtain⟨fuel,rfl⟩:∃k,fuel=k+1:=⟨fuel - 1,by omega⟩;by_cases O:i<j
  ·have V:=Z O;have W:i<xs.length:=by omega
   have U:A5 (HQ F ((i:Int),(j:Int),xs)) (fun st=>st= .more (((i+1:Nat):Int),((j - 1:Nat):Int),(xs.set i xs[j]).set j xs[i])):=by
    unfold HQ;refine BI (show(i:Int)<(j:Int) by omega) (Bv (m:=j) rfl V ?_);refine Bv (m:=i) rfl W (AX ((i+1:Nat):Int) (by simp) (by omega) (by omega) ?_);exact AX ((j - 1:Nat):Int) (by simp;omega) (by omega) (by omega) (Al rfl)
   obtain⟨st,hb,rfl⟩:=U;unfold iter;rw [hb];refine(ag (i+1) (j - 1) fuel ((xs.set i xs[j]).set j xs[i]) (by omega) (by omega) (by simp;omega) (by simp;omega) (by simp;omega) (by simpa using aa) ((K.set (K.get V)).set (K.get W))).Ai ?_;rintro ys ⟨ah,ai,aj⟩;refine⟨?_,ai,by simpa using aj⟩;rw [ah,IU W V,reverseLoop.eq_def i j,if_pos O]
  ·have U:A5 (HQ F ((i:Int),(j:Int),xs)) (fun st=>st= .done xs):=by
    unfold HQ;exact Bf (show ¬(i:Int)<(j:Int) by omega) (Al rfl)
   obtain⟨st,hb,rfl⟩:=U;unfold iter;rw [hb];refine⟨xs,rfl,?_,K,rfl⟩;rw [reverseLoop,if_neg O]
theorem Xc{F a b:Nat}{xs:List PT}(U:2000<F)(V:a<b)(hb:b≤xs.length)(K:xs.length<1000)(O:KO xs):
  A5 (f182 F xs (a:Int) (b:Int)) (fun ys=>ys.toArray=reverseRange xs.toArray a b∧KO ys∧ys.length=xs.length):=by
 unfold f182 reverseRange;refine AX ((b - 1:Nat):Int) (by omega) (by omega) (by omega) (AI (Xi (F:=F) (b - 1 - a) a (b - 1) F xs (by omega) (by omega) (by omega) (by omega) (by omega) K O) ?_);rintro ys h;exact⟨ys,rfl,h⟩
theorem Xj{F b q1:Nat}{xs:List PT}(q2:Int)(hb:b≤xs.length)(ag:xs.length<1000)(Z:KO xs):∀(m i fuel:Nat),b - i≤m→m<fuel→1≤i→
  A5 (iter (I0 F (b:Int) (((q1:Nat):Int),q2,xs)) fuel (i:Int)) (fun r=>r=((scanSorted AQ xs.toArray b i:Nat):Int)):=by
 intro m
 induction m with
 | zero=>
  intro i fuel hm ae hi;obtain⟨fuel,rfl⟩:∃k,fuel=k+1:=⟨fuel - 1,by omega⟩;have K:¬i<b:=by omega
  have O:A5 (I0 F (b:Int) (((q1:Nat):Int),q2,xs) (i:Int)) (fun st=>st= .done (i:Int)):=by
   unfold I0;refine AI (S:=fun c=>c=false) (Bf (by omega) (Al rfl)) ?_;rintro c rfl;exact Bf (by simp) (Al rfl)
  obtain⟨st,U,rfl⟩:=O;unfold iter;rw [U];refine⟨_,rfl,?_⟩;rw [scanSorted,if_neg (by simp [K])]
 | succ m aa=>
  intro i fuel hm ae hi;obtain⟨fuel,rfl⟩:∃k,fuel=k+1:=⟨fuel - 1,by omega⟩;by_cases K:i<b
  ·have V:i<xs.length:=by omega
   have W:i - 1<xs.length:=by omega
   have O:A5 (I0 F (b:Int) (((q1:Nat):Int),q2,xs) (i:Int)) (fun st=>st=if(!AQ xs[i] xs[i-1])=true then .more ((i+1:Nat):Int) else .done (i:Int)):=by
    unfold I0;refine AI (S:=fun c=>c= !AQ xs[i] xs[i-1]) ?_ ?_
    ·refine BI (by omega) (Bv (m:=i) rfl V ?_);refine AX ((i - 1:Nat):Int) (by omega) (by omega) (by omega) (Bv (m:=i - 1) rfl W ?_);refine AP (KH (Z.get V) (Z.get W)) (Al ?_);rw [← JC];exact decide_not
    ·rintro c rfl;refine By (fun h=>?_) (fun h=>?_)
     ·refine AX ((i+1:Nat):Int) (by simp) (by omega) (by omega) ?_;rw [if_pos h];exact Al rfl
     ·rw [if_neg h];exact Al rfl
   obtain⟨st,U,rfl⟩:=O;unfold iter;rw [U];have hs:scanSorted AQ xs.toArray b i=if(!AQ xs[i] xs[i-1])=true then scanSorted AQ xs.toArray b (i+1) else i:=by
    rw [scanSorted.eq_def AQ xs.toArray b i,GC V,GC W];simp [K]
   by_cases ab:(!AQ xs[i] xs[i-1])=true
   ·rw [if_pos ab] at hs ⊢;rw [hs];exact aa (i+1) fuel (by omega) (by omega) (by omega)
   ·rw [if_neg ab] at hs ⊢;exact⟨_,rfl,by rw [hs]⟩
  ·exact aa i (fuel+1) (by omega) (by omega) hi
theorem Wx{F a b:Nat}{xs:List PT}(aa:2000<F)(ab:a<b)(ae:b<a+50)(hb:b≤xs.length)(O:xs.length<1000)(U:KO xs):
  f183 F xs (a:Int) (b:Int)=some ((partialInsertionSort AQ xs.toArray a b).2,xs)∧(partialInsertionSort AQ xs.toArray a b).1=xs.toArray:=by
 have e:partialInsertionSort AQ xs.toArray a b=if scanSorted AQ xs.toArray b (a+1)=b then(xs.toArray,true) else(xs.toArray,false):=by
  unfold partialInsertionSort partialIns;simp only;split
  ·rfl
  ·rw [if_pos (by omega)]
 have h:A5 (f183 F xs (a:Int) (b:Int)) (fun r=>r=((partialInsertionSort AQ xs.toArray a b).2,xs)):=by
  unfold f183;refine AX ((a+1:Nat):Int) (by simp) (by omega) (by omega) (AI (S:=fun r=>r=Sum.inl ((partialInsertionSort AQ xs.toArray a b).2,xs)) ?_ ?_)
  ·obtain⟨K,rfl⟩:∃k,F=k+1:=⟨F - 1,by omega⟩;have V:A5 (Mr (K+1) (a:Int) (b:Int) (((a+1:Nat):Int),0,xs)) (fun st=>st= .done (Sum.inl ((partialInsertionSort AQ xs.toArray a b).2,xs))):=by
    unfold Mr;refine BI (show(0:Int)<5 by omega) (AI (Xj (F:=K+1) (q1:=a+1) 0 hb O U (b - (a+1)) (a+1) (K+1) (by omega) (by omega) (by omega)) ?_);rintro r rfl;rw [e];refine By (fun h=>?_) (fun h=>?_)
    ·rw [if_pos (by omega)];exact Al rfl
    ·rw [if_neg (by omega)];exact AX ((b - a:Nat):Int) (by omega) (by omega) (by omega) (BI (by omega) (Al rfl))
   obtain⟨st,W,rfl⟩:=V;unfold iter;rw [W];exact⟨_,rfl,rfl⟩
  ·rintro r rfl;exact Al rfl
 obtain⟨r,Z,rfl⟩:=h;refine⟨Z,?_⟩;rw [e];split <;> rfl
end Pal
namespace Pal
open Go.Sort
theorem PV{body:Int→Option (Bn Int Int)}{d:Array PT}{p:PT→Bool}{j:Nat}(V:j<900)
  (h:∀i:Nat,i≤j+2→body (i:Int)=some (if(decide (i≤j)&&p d[i]!)=true then .more ((i+1:Nat):Int) else .done (i:Int))):
  ∀(m i fuel:Nat),j+1 - i≤m→m<fuel→i≤j+2→iter body fuel (i:Int)=some ((scanUp p d j i:Nat):Int):=by
 intro m
 induction m with
 | zero=>
  intro i fuel hm O hi;obtain⟨fuel,rfl⟩:∃k,fuel=k+1:=⟨fuel - 1,by omega⟩;have K:¬(decide (i≤j)&&p d[i]!)=true:=by simp;omega
  unfold iter;rw [h i hi,if_neg K,scanUp,if_neg K]
 | succ m U=>
  intro i fuel hm O hi;obtain⟨fuel,rfl⟩:∃k,fuel=k+1:=⟨fuel - 1,by omega⟩;unfold iter;rw [h i hi,scanUp];by_cases K:(decide (i≤j)&&p d[i]!)=true
  ·rw [if_pos K,if_pos K];have:i≤j:=by simp at K;exact K.1
   exact U (i+1) fuel (by omega) (by omega) (by omega)
  ·rw [if_neg K,if_neg K]
theorem Pz{body:Int→Option (Bn Int Int)}{d:Array PT}{p:PT→Bool}{i:Nat}(hi:1≤i){n:Nat}
  (h:∀j:Nat,j<n→body (j:Int)=some (if(decide (i≤j)&&p d[j]!)=true then .more ((j - 1:Nat):Int) else .done (j:Int))):
  ∀(j fuel:Nat),j<n→j<fuel→iter body fuel (j:Int)=some ((scanDown p d i j:Nat):Int):=by
 intro j
 induction j with
 | zero=>
  intro fuel O U;obtain⟨fuel,rfl⟩:∃k,fuel=k+1:=⟨fuel - 1,by omega⟩;have K:¬(decide (i≤0)&&p d[0]!)=true:=by simp;omega
  unfold iter;rw [h 0 O,if_neg K];rfl
 | succ j V=>
  intro fuel O U;obtain⟨fuel,rfl⟩:∃k,fuel=k+1:=⟨fuel - 1,by omega⟩;unfold iter;rw [h (j+1) O,scanDown];by_cases K:(decide (i≤j+1)&&p d[j+1]!)=true
  ·rw [if_pos K,if_pos K];exact V fuel (by omega) (by omega)
  ·rw [if_neg K,if_neg K]
theorem A5.LI{α:Type}{o:Option α}{a:α}(h:A5 o (fun x=>x=a)):o=some a:=by obtain⟨x,K,rfl⟩:=h;exact K
theorem RQ{F a:Nat}{q2:Int}{j:Nat}{q1:Int}{ys:List PT}(K:a<ys.length)(W:j<ys.length)(Z:ys.length<900)(V:KO ys)(i:Nat)(hi:i≤j+2):
  JF F (a:Int) (q1,(j:Int),ys) (i:Int)=some (if(decide (i≤j)&&AQ ys.toArray[i]! ys.toArray[a]!)=true then .more ((i+1:Nat):Int) else .done (i:Int)):=by
 refine A5.LI ?_;unfold JF;refine AI (S:=fun c=>c=(decide (i≤j)&&AQ ys.toArray[i]! ys.toArray[a]!)) ?_ ?_
 ·refine By (fun h=>?_) (fun h=>?_)
  ·have O:i≤j:=by simp at h;omega
   have U:i<ys.length:=by omega
   refine Bv (m:=i) rfl U (Bv (m:=a) rfl K ?_);refine AP (KH (V.get U) (V.get K)) (Al ?_);rw [JC,GC U,GC K];simp [O]
  ·have O:¬i≤j:=by simp at h;omega
   refine Al ?_;simp [O]
 ·rintro c rfl;refine By (fun h=>?_) (fun h=>?_)
  ·refine AX ((i+1:Nat):Int) (by simp) (by omega) (by omega) ?_;rw [if_pos h];exact Al rfl
  ·rw [if_neg h];exact Al rfl
theorem Qe{F a i:Nat}{q1 q2:Int}{ys:List PT}(O:a<ys.length)(W:ys.length<900)(V:KO ys)(hi:1≤i)(j:Nat)(U:j<ys.length):
  JJ F (a:Int) (q1,q2,ys) (i:Int) (j:Int)=some (if(decide (i≤j)&& !AQ ys.toArray[j]! ys.toArray[a]!)=true then .more ((j - 1:Nat):Int) else .done (j:Int)):=by
 refine A5.LI ?_;unfold JJ;refine AI (S:=fun c=>c=(decide (i≤j)&& !AQ ys.toArray[j]! ys.toArray[a]!)) ?_ ?_
 ·refine By (fun h=>?_) (fun h=>?_)
  ·have K:i≤j:=by omega
   refine Bv (m:=j) rfl U (Bv (m:=a) rfl O ?_);refine AP (KH (V.get U) (V.get O)) (Al ?_);rw [GC U,GC O,← JC,← decide_not];simp [K]
  ·have K:¬i≤j:=by omega
   refine Al ?_;simp [K]
 ·rintro c rfl;refine By (fun h=>?_) (fun h=>?_)
  ·have K:i≤j:=by simp at h;exact h.1
   refine AX ((j - 1:Nat):Int) (by omega) (by omega) (by omega) ?_;rw [if_pos h];exact Al rfl
  ·rw [if_neg h];exact Al rfl
theorem Wz{F a b:Nat}(aw:2000<F)(ay:a<b):∀(m i j fuel:Nat) (ys:List PT),j+1 - i≤m→m<fuel→a<i→i≤j+2→j<b→b≤ys.length→ys.length<900→KO ys→
  A5 (iter (IX F (a:Int)) fuel ((i:Int),(j:Int),ys)) (fun r=>r.1=(((partLoop AQ a i j ys.toArray).1:Nat):Int)∧r.2.toArray=(partLoop AQ a i j ys.toArray).2∧KO r.2∧r.2.length=ys.length):=by
 intro m
 induction m with
 | zero=>?_
 | succ m ak=>?_
 all_goals
  intro i j fuel ys hm az aA al aB hb V U;obtain⟨fuel,rfl⟩:∃k,fuel=k+1:=⟨fuel - 1,by omega⟩;have ag:a<ys.length:=by omega
  have ah:j<ys.length:=by omega
  have W:iter (JF F (a:Int) ((i:Int),(j:Int),ys)) F (i:Int)=some ((scanUp (fun x=>AQ x ys.toArray[a]!) ys.toArray j i:Nat):Int):=
   PV (by omega) (fun am an=>RQ (q2:=0) ag ah V U am an) (j+1 - i) i F (by omega) (by omega) al
  have ao:=scanUp_ge (fun x=>AQ x ys.toArray[a]!) ys.toArray j i;have ap:=scanUp_spec (fun x=>AQ x ys.toArray[a]!) ys.toArray j _ i rfl;have O:=partLoop_eq AQ a i j ys.toArray;generalize aC:scanUp (fun x=>AQ x ys.toArray[a]!) ys.toArray j i=i2 at W ao ap O;have Z:iter (JJ F (a:Int) ((i:Int),(j:Int),ys) (i2:Int)) F (j:Int)=some ((scanDown (fun x=> !AQ x ys.toArray[a]!) ys.toArray i2 j:Nat):Int):=
   Pz (n:=ys.length) (by omega) (fun aq ar=>Qe ag V U (by omega) aq ar) j F ah (by omega)
  have hle:=scanDown_le (fun x=> !AQ x ys.toArray[a]!) ys.toArray i2 j;generalize aD:scanDown (fun x=> !AQ x ys.toArray[a]!) ys.toArray i2 j=K at Z hle O;by_cases ai:i2>K
  ·have aa:IX F (a:Int) ((i:Int),(j:Int),ys)=some (.done ((K:Int),ys)):=by
    refine A5.LI ?_;unfold IX;refine AP W (AP Z ?_);exact BI (by omega) (Al rfl)
   unfold iter;rw [aa];rw [if_pos ai] at O;exact⟨_,rfl,by rw [O],by rw [O],U,rfl⟩
  ·first
    | (exfalso;omega)
    | (
     have ab:i2<ys.length:=by omega
     have ae:K<ys.length:=by omega
     have aa:IX F (a:Int) ((i:Int),(j:Int),ys)=some (.more (((i2+1:Nat):Int),((K - 1:Nat):Int),(ys.set i2 ys[K]).set K ys[i2])):=by
      refine A5.LI ?_
      unfold IX
      refine AP W ?_
      refine AP Z ?_
      refine Bf (by omega) ?_
      refine Bv (m:=K) rfl ae ?_
      refine Bv (m:=i2) rfl ab ?_
      refine AX ((i2+1:Nat):Int) (by simp) (by omega) (by omega) ?_
      refine AX ((K - 1:Nat):Int) (by omega) (by omega) (by omega) ?_
      exact Al rfl
     unfold iter;rw [aa]
     rw [if_neg ai] at O
     refine(ak (i2+1) (K - 1) fuel ((ys.set i2 ys[K]).set K ys[i2]) (by omega) (by omega) (by omega) (by omega) (by omega) (by simpa using hb) (by simpa using V) ((U.set (U.get ae)).set (U.get ab))).Ai ?_
     rintro r ⟨k1,aj,au,av⟩
     rw [IU ab ae,← O] at k1 aj
     exact⟨k1,aj,au,by simpa using av⟩)
theorem Vq{F a:Nat}{j p3:Nat}{xs ys:List PT}{K O:PT}(he:(xs.set a K).set p3 O=ys)(U:a<ys.length)(V:j<ys.length)(W:ys.length<900)(Z:KO ys)(i:Nat)(hi:i≤j+2):
  KM F xs (a:Int) (p3:Int) K O (j:Int) (i:Int)=some (if(decide (i≤j)&&AQ ys.toArray[i]! ys.toArray[a]!)=true then .more ((i+1:Nat):Int) else .done (i:Int)):=by
 rw [← RQ (F:=F) (q1:=0) (q2:=0) U V W Z i hi];unfold KM JF;simp only [Int.toNat_natCast,he]
theorem TY{F a i p3:Nat}{xs ys:List PT}{K O:PT}(he:(xs.set a K).set p3 O=ys)(U:a<ys.length)(V:ys.length<900)(W:KO ys)(hi:1≤i)(j:Nat)(Z:j<ys.length):
  KS F xs (a:Int) (p3:Int) K O (i:Int) (j:Int)=some (if(decide (i≤j)&& !AQ ys.toArray[j]! ys.toArray[a]!)=true then .more ((j - 1:Nat):Int) else .done (j:Int)):=by
 rw [← Qe (F:=F) (q1:=0) (q2:=0) U V W hi j Z];unfold KS JJ;simp only [Int.toNat_natCast,he]
theorem TE(a:Nat):∀(n i j:Nat) (d:Array PT),j+1 - i≤n→(partLoop AQ a i j d).1≤j:=by
  intro n
  induction n with
  | zero=>?_
  | succ n V=>?_
  all_goals
    intro i j d Z;have K:=partLoop_eq AQ a i j d;have W:=scanUp_ge (fun x=>AQ x d[a]!) d j i;generalize aa:scanUp (fun x=>AQ x d[a]!) d j i=i2 at W K;have hle:=scanDown_le (fun x=> !AQ x d[a]!) d i2 j;generalize ab:scanDown (fun x=> !AQ x d[a]!) d i2 j=O at hle K;by_cases U:i2>O
    ·rw [K,if_pos U];exact hle
    ·first
        | (exfalso;omega)
        | (rw [K,if_neg U]
           have:=V (i2+1) (O - 1) (swp d i2 O) (by omega)
           omega)
theorem Wg{F a b pv:Nat}(aq:2000<F){xs:List PT}(aD:a≤pv)(aE:pv<b)(hb:b≤xs.length)(aF:xs.length<900)(ab:KO xs):
  A5 (f185 F xs (a:Int) (b:Int) (pv:Int)) (fun r=>r.1=(((partition AQ xs.toArray a b pv).1:Nat):Int)∧r.2.1=(partition AQ xs.toArray a b pv).2.1∧r.2.2.toArray=(partition AQ xs.toArray a b pv).2.2∧KO r.2.2∧r.2.2.length=xs.length):=by
 have ae:a<xs.length:=by omega
 have ag:pv<xs.length:=by omega
 obtain⟨ys,V⟩:∃ys,(xs.set a xs[pv]).set pv xs[a]=ys:=⟨_,rfl⟩;have O:KO ys:=by rw [← V];exact(ab.set (ab.get ag)).set (ab.get ae)
 have an:ys.length=xs.length:=by rw [← V];simp
 have ar:ys.toArray=swp xs.toArray a pv:=by rw [← V,IU ae ag]
 have Z:a<ys.length:=by omega
 have ao:b - 1<ys.length:=by omega
 unfold f185;refine Bv (m:=pv) rfl ag (Bv (m:=a) rfl ae ?_);refine AX ((a+1:Nat):Int) (by simp) (by omega) (by omega) (AX ((b - 1:Nat):Int) (by omega) (by omega) (by omega) ?_);have au:iter (KM F xs (a:Int) (pv:Int) xs[pv] xs[a] ((b - 1:Nat):Int)) F ((a+1:Nat):Int)=some ((scanUp (fun x=>AQ x ys.toArray[a]!) ys.toArray (b - 1) (a+1):Nat):Int):=
  PV (by omega) (fun av aw=>Vq V Z ao (by omega) O av aw) (b - 1+1 - (a+1)) (a+1) F (by omega) (by omega) (by omega)
 refine AP au ?_;have ay:=scanUp_ge (fun x=>AQ x ys.toArray[a]!) ys.toArray (b - 1) (a+1);have U:partition AQ xs.toArray a b pv=if scanUp (fun x=>AQ x ys.toArray[a]!) ys.toArray (b - 1) (a+1)>scanDown (fun x=> !AQ x ys.toArray[a]!) ys.toArray (scanUp (fun x=>AQ x ys.toArray[a]!) ys.toArray (b - 1) (a+1)) (b - 1) then
   (scanDown (fun x=> !AQ x ys.toArray[a]!) ys.toArray (scanUp (fun x=>AQ x ys.toArray[a]!) ys.toArray (b - 1) (a+1)) (b - 1),true,swp ys.toArray (scanDown (fun x=> !AQ x ys.toArray[a]!) ys.toArray (scanUp (fun x=>AQ x ys.toArray[a]!) ys.toArray (b - 1) (a+1)) (b - 1)) a) else
   ((partLoop AQ a (scanUp (fun x=>AQ x ys.toArray[a]!) ys.toArray (b - 1) (a+1)+1) (scanDown (fun x=> !AQ x ys.toArray[a]!) ys.toArray (scanUp (fun x=>AQ x ys.toArray[a]!) ys.toArray (b - 1) (a+1)) (b - 1) - 1) (swp ys.toArray (scanUp (fun x=>AQ x ys.toArray[a]!) ys.toArray (b - 1) (a+1)) (scanDown (fun x=> !AQ x ys.toArray[a]!) ys.toArray (scanUp (fun x=>AQ x ys.toArray[a]!) ys.toArray (b - 1) (a+1)) (b - 1)))).1,false,
    swp (partLoop AQ a (scanUp (fun x=>AQ x ys.toArray[a]!) ys.toArray (b - 1) (a+1)+1) (scanDown (fun x=> !AQ x ys.toArray[a]!) ys.toArray (scanUp (fun x=>AQ x ys.toArray[a]!) ys.toArray (b - 1) (a+1)) (b - 1) - 1) (swp ys.toArray (scanUp (fun x=>AQ x ys.toArray[a]!) ys.toArray (b - 1) (a+1)) (scanDown (fun x=> !AQ x ys.toArray[a]!) ys.toArray (scanUp (fun x=>AQ x ys.toArray[a]!) ys.toArray (b - 1) (a+1)) (b - 1)))).2
     (partLoop AQ a (scanUp (fun x=>AQ x ys.toArray[a]!) ys.toArray (b - 1) (a+1)+1) (scanDown (fun x=> !AQ x ys.toArray[a]!) ys.toArray (scanUp (fun x=>AQ x ys.toArray[a]!) ys.toArray (b - 1) (a+1)) (b - 1) - 1) (swp ys.toArray (scanUp (fun x=>AQ x ys.toArray[a]!) ys.toArray (b - 1) (a+1)) (scanDown (fun x=> !AQ x ys.toArray[a]!) ys.toArray (scanUp (fun x=>AQ x ys.toArray[a]!) ys.toArray (b - 1) (a+1)) (b - 1)))).1 a):=by
  rw [ar];rfl
 generalize aG:scanUp (fun x=>AQ x ys.toArray[a]!) ys.toArray (b - 1) (a+1)=i2 at ay U ⊢;have az:iter (KS F xs (a:Int) (pv:Int) xs[pv] xs[a] (i2:Int)) F ((b - 1:Nat):Int)=some ((scanDown (fun x=> !AQ x ys.toArray[a]!) ys.toArray i2 (b - 1):Nat):Int):=
  Pz (n:=ys.length) (by omega) (fun aA aB=>TY V Z (by omega) O (by omega) aA aB) (b - 1) F ao (by omega)
 refine AP az ?_;have hle:=scanDown_le (fun x=> !AQ x ys.toArray[a]!) ys.toArray i2 (b - 1);generalize aH:scanDown (fun x=> !AQ x ys.toArray[a]!) ys.toArray i2 (b - 1)=K at hle U ⊢;have W:K<ys.length:=by omega
 simp only [Int.toNat_natCast,V];refine By (fun h=>?_) (fun h=>?_)
 ·have ah:i2>K:=by omega
  rw [if_pos ah] at U;refine Bv (m:=a) rfl Z (Bv (m:=K) rfl W ?_);refine Al ?_;rw [U];exact⟨rfl,rfl,IU W Z,(O.set (O.get Z)).set (O.get W),by simp [an]⟩
 ·have ah:¬i2>K:=by omega
  have ai:i2<ys.length:=by omega
  rw [if_neg ah] at U;refine Bv (m:=K) rfl W (Bv (m:=i2) rfl ai ?_);refine AX ((i2+1:Nat):Int) (by simp) (by omega) (by omega) (AX ((K - 1:Nat):Int) (by omega) (by omega) (by omega) ?_);refine AI (Wz (F:=F) aq (show a<b by omega) (K - 1+1 - (i2+1)) (i2+1) (K - 1) F ((ys.set i2 ys[K]).set K ys[i2]) (by omega) (by omega) (by omega) (by omega) (by omega) (by simp;omega) (by simp;omega) ((O.set (O.get W)).set (O.get ai))) ?_;rintro r ⟨k1,aj,aa,ap⟩;rw [IU ai W] at k1 aj;have aC:=TE a _ (i2+1) (K - 1) (swp ys.toArray i2 K) (Nat.le_refl _);obtain⟨aI,ak⟩:=r;simp only at k1 aj aa ap ⊢;subst k1;rw [← aj] at U;have hlen:ak.length=ys.length:=by simpa using ap
  generalize (partLoop AQ a (i2+1) (K - 1) (swp ys.toArray i2 K)).1=pm at aC U ⊢;have al:pm<ak.length:=by omega
  have am:a<ak.length:=by omega
  refine Bv (m:=a) rfl am (Bv (m:=pm) rfl al ?_);refine Al ?_;rw [U];exact⟨rfl,rfl,IU al am,(aa.set (aa.get am)).set (aa.get al),by simp [hlen,an]⟩
end Pal
namespace Pal
open Go.Sort
theorem W9(F:Nat):∀n:Nat,n<13→∃l,f163 F (Dm (n:Int))=some l:=by
 intro n K
 match n,K with
 | 0,_=>exact⟨_,rfl⟩
 | 1,_=>exact⟨_,rfl⟩
 | 2,_=>exact⟨_,rfl⟩
 | 3,_=>exact⟨_,rfl⟩
 | 4,_=>exact⟨_,rfl⟩
 | 5,_=>exact⟨_,rfl⟩
 | 6,_=>exact⟨_,rfl⟩
 | 7,_=>exact⟨_,rfl⟩
 | 8,_=>exact⟨_,rfl⟩
 | 9,_=>exact⟨_,rfl⟩
 | 10,_=>exact⟨_,rfl⟩
 | 11,_=>exact⟨_,rfl⟩
 | 12,_=>exact⟨_,rfl⟩
 | n+13,h=>omega
theorem VS(F:Nat):f163 F (Dm ((13:Nat):Int))=some 4:=rfl
def Is(xs:List PT)(d:Array PT)(ys:List PT):Prop:=ys.toArray=d∧KO ys∧ys.length=xs.length
theorem PH{F a b:Nat}{l:Int}{xs:List PT}(K:2000<F)(O:a≤b)(ag:b≤a+12)(hb:b≤xs.length)(ah:xs.length<900)(U:KO xs):
  A5 (Iu F xs (a:Int) (b:Int) l) (Is xs (insertionSort AQ xs.toArray a b)):=by
 unfold Iu;refine AI (S:=fun r=>∃ys,r=Sum.inl ys∧Is xs (insertionSort AQ xs.toArray a b) ys) ?_ ?_
 ·obtain⟨V,rfl⟩:∃k,F=k+1:=⟨F - 1,by omega⟩;obtain⟨ys,W,Z,aa,ab⟩:=Re K hb (by omega) U O;have ae:Mf (V+1) xs (a:Int) (b:Int) l ()=some (.done (Sum.inl ys)):=by
   refine A5.LI ?_;unfold Mf;refine AX ((b - a:Nat):Int) (by omega) (by omega) (by omega) (BI (by omega) ?_);exact AP W (Al rfl)
  unfold iter;rw [ae];exact⟨_,rfl,ys,rfl,Z,aa,ab⟩
 ·rintro r ⟨ys,rfl,h⟩;exact Al h
theorem NS{F a b:Nat}{l:Int}{wb wp:Bool}{xs:List PT}(K:2000<F)(O:a≤b)(ab:b≤a+12)(hb:b≤xs.length)(ae:xs.length<900)(U:KO xs):
  A5 (Hm F l ((a:Int),(b:Int),wb,wp,xs)) (fun st=>∃ys,st= .done (Sum.inl ys)∧Is xs (insertionSort AQ xs.toArray a b) ys):=by
 obtain⟨ys,V,W,Z,aa⟩:=Re K hb (by omega) U O;unfold Hm;refine AI (S:=fun r=>r=Sum.inl ys) ?_ ?_
 ·refine AX ((b - a:Nat):Int) (by dsimp only;omega) (by omega) (by omega) (BI (by omega) ?_);exact AP V (Al rfl)
 ·rintro r rfl;exact Al ⟨ys,rfl,W,Z,aa⟩
theorem TR{F n:Nat}{l:Int}{xs:List PT}(O:2000<F)(aa:n=xs.length)(ab:n≤12)(U:KO xs):
  A5 (f162 F xs 0 (n:Int) l) (Is xs (insertionSort AQ xs.toArray 0 n)):=by
 unfold f162;refine AI (S:=fun r=>∃ys,r=Sum.inl ys∧Is xs (insertionSort AQ xs.toArray 0 n) ys) ?_ ?_
 ·obtain⟨K,rfl⟩:∃k,F=k+1:=⟨F - 1,by omega⟩;obtain⟨st,V,ys,rfl,W⟩:=NS (F:=K+1) (a:=0) (b:=n) (l:=l) (wb:=true) (wp:=true) (xs:=xs) O (by omega) (by omega) (by omega) (by omega) U;have Z:Hm (K+1) l (0,(n:Int),true,true,xs)=some (.done (Sum.inl ys)):=V;unfold iter;rw [Z];exact⟨_,rfl,ys,rfl,W⟩
 ·rintro r ⟨ys,rfl,h⟩;exact Al h
theorem Vl{S A:Type}{body:S→Option (Bn S A)}{F:Nat}{s s':S}(h:body s=some (.more s')){Q:A→Prop}(k:A5 (iter body F s') Q):A5 (iter body (F+1) s) Q:=by
 unfold iter;rw [h];exact k
theorem Vp{S A:Type}{body:S→Option (Bn S A)}{F:Nat}{s:S}{Q:A→Prop}(h:A5 (body s) (fun st=>∃a,st= .done a∧Q a)):A5 (iter body (F+1) s) Q:=by
 obtain⟨st,K,a,rfl,O⟩:=h;unfold iter;rw [K];exact⟨a,rfl,O⟩
set_option maxHeartbeats 1000000 in
theorem V7{F:Nat}{xs:List PT}(ba:3000<F)(aH:xs.length=13)(an:KO xs):
  A5 (f162 F xs 0 ((13:Nat):Int) 4) (Is xs (pdq AQ xs.toArray 0 13 4 true true)):=by
 have aI:xs.toArray.size=13:=by simpa using aH
 obtain⟨s1,B1,bb,s2,bc,ao,bd,be⟩:=rd_facts (lt:=AQ) (d:=xs.toArray) (a:=0) (b:=13) (limit:=4) (wb:=true) (wp:=true) MA partialInsertionSort_holds reverseRange_holds (by omega) (by rw [aI];omega) (.inl rfl);have ap:¬(13 - 0≤12):=by omega
 have aA:=Xk (F:=F) (a:=0) (b:=13) (xs:=xs) (by omega) (by omega) (by omega) (by omega) an;have aJ:choosePivot AQ xs.toArray 0 13=(rd AQ xs.toArray 0 13 4 true true).c:=rfl;rw [aJ] at aA;generalize K:rd AQ xs.toArray 0 13 4 true true=R at*;have aK:R.lim=4:=by rw [← K];rfl
 have aL:R.c.2= .decreasing→R.d2=reverseRange xs.toArray 0 13∧R.pivot=(13 - 1) - (R.c.1 - 0)∧R.hint= .increasing:=by
  intro h;rw [← K] at h ⊢;exact rd_dec h
 have aM:R.c.2≠ .decreasing→R.d2=xs.toArray∧R.pivot=R.c.1∧R.hint=R.c.2:=by
  intro h;rw [← K] at h ⊢;exact rd_not h
 have aN:R.hint= .increasing→R.pi=partialInsertionSort AQ R.d2 0 13:=by
  intro h;rw [← K] at h ⊢;exact rd_pi_yes (by simp [h])
 have aO:R.hint≠ .increasing→R.pi=(R.d2,false):=by
  intro h;rw [← K] at h ⊢;exact rd_pi_no (by simp [h])
 have aP:A5 (if Ix R.c.2=2 then(f182 F xs 0 ((13:Nat):Int)).bind fun aQ=>(Av (((13:Nat):Int) - 1)).bind fun aR=>(Av (((R.c.1:Nat):Int) - 0)).bind fun aS=>(Av (aR - aS)).bind fun aT=>some (aT,(1:Int),aQ) else some (((R.c.1:Nat):Int),Ix R.c.2,xs))
   (fun q=>q.1=((R.pivot:Nat):Int)∧q.2.1=Ix R.hint∧Is xs R.d2 q.2.2):=by
  by_cases hd:R.c.2= .decreasing
  ·obtain⟨ae,e2,W⟩:=aL hd;refine BI (by rw [hd];rfl) (AI (Xc (F:=F) (a:=0) (b:=13) (xs:=xs) (by omega) (by omega) (by omega) (by omega) an) ?_);rintro ys ⟨k1,U,V⟩;refine AX 12 (by omega) (by omega) (by omega) (AX ((R.c.1:Nat):Int) (by omega) (by omega) (by omega) ?_);refine AX ((12 - R.c.1:Nat):Int) (by omega) (by omega) (by omega) (Al ⟨?_,?_,?_,U,V⟩)
   ·rw [e2];rfl
   ·rw [W];rfl
   ·rw [ae];exact k1
  ·obtain⟨ae,e2,W⟩:=aM hd;refine Bf (by intro h;cases aq:R.c.2 <;> rw [aq] at h hd <;> first | (exact hd rfl) | (cases h)) ?_
   refine Al ⟨?_,?_,?_,an,rfl⟩
   ·rw [e2]
   ·rw [W]
   ·rw [ae]
 unfold f162;refine AI (S:=fun r=>∃ys,r=Sum.inl ys∧Is xs (pdq AQ xs.toArray 0 13 4 true true) ys) ?_ (by rintro r ⟨ys,rfl,h⟩;exact Al h);have aU:∀(Z:List PT),Is xs R.pi.1 Z→R.pi.2=false→
   A5 ((f185 F Z 0 ((13:Nat):Int) ((R.pivot:Nat):Int)).bind fun O=>(Av (O.1 - 0)).bind fun aB=>(Av (((13:Nat):Int) - O.1)).bind fun aC=>(HA (13:Int) (8)).bind fun aD=>
     Option.bind (
      if aB<aC then(
       (Iu F O.2.2 0 O.1 4).bind fun aV=>
       (Av (O.1+1)).bind fun aW=>
       some (aW,((13:Nat):Int),decide (aD≤aB),aV)
      ) else(
       (Av (O.1+1)).bind fun aX=>
       (Iu F O.2.2 aX ((13:Nat):Int) 4).bind fun aY=>
       some ((0:Int),O.1,decide (aD≤aC),aY)
      )
     ) fun al=>
     some (al.1,al.2.1,al.2.2.1,O.2.1,al.2.2.2))
    (fun st=>A5 (Hm F 4 st) (fun q=>∃a,q= .done a∧∃ys,a=Sum.inl ys∧Is xs (pdq AQ xs.toArray 0 13 4 true true) ys)):=by
  intro Z aZ aE;obtain⟨z1,a0,bf⟩:=aZ;have bg:Z.length=13:=by omega
  refine AI (Wg (F:=F) (a:=0) (b:=13) (pv:=R.pivot) (xs:=Z) (by omega) (by omega) ao.2 (by omega) (by omega) a0) ?_;rw [z1];have aa:=partition_holds AQ MA R.pi.1 0 13 R.pivot ao.1 ao.2 (by omega);have ai:=fun ar=>pdq_left (lt:=AQ) (d:=xs.toArray) (a:=0) (b:=13) (limit:=4) (wb:=true) (wp:=true) ap (by omega) (by rw [K];exact aE) (by simp) (by rw [K];exact⟨aa.1,aa.2.1⟩) ar;have aj:=fun ar=>pdq_right (lt:=AQ) (d:=xs.toArray) (a:=0) (b:=13) (limit:=4) (wb:=true) (wp:=true) ap (by omega) (by rw [K];exact aE) (by simp) (by rw [K];exact⟨aa.1,aa.2.1⟩) ar;rw [K] at ai aj;rw [aK] at ai aj;generalize partition AQ R.pi.1 0 13 R.pivot=PA at aa ai aj ⊢;obtain⟨m,bh,d4⟩:=PA;rintro⟨bi,a1,ab⟩ ⟨k1,U,V,au,a2⟩;simp only at k1 U V au a2 aa ai aj ⊢;subst k1 U;have hm:m<13:=aa.2.1;have bj:ab.length=13:=by omega
  refine AX (m:Int) (by omega) (by omega) (by omega) (AX ((13 - m:Nat):Int) (by omega) (by omega) (by omega) ?_);refine AP (b:=1) rfl ?_;by_cases aF:m - 0<13 - m
  ·refine AI (S:=fun q=>∃us,q=(((m+1:Nat):Int),((13:Nat):Int),decide ((1:Int)≤(m:Int)),us)∧Is ab (insertionSort AQ ab.toArray 0 m) us) ?_ ?_
   ·refine BI (by omega) (AI (PH (F:=F) (a:=0) (b:=m) (l:=4) (xs:=ab) (by omega) (by omega) (by omega) (by omega) (by omega) au) ?_);intro us av;exact AX ((m+1:Nat):Int) (by simp) (by omega) (by omega) (Al ⟨us,rfl,av⟩)
   ·rintro q ⟨us,rfl,u1,u2,a3⟩;refine Al ?_;refine(NS (F:=F) (a:=m+1) (b:=13) (l:=4) (xs:=us) (by omega) (by omega) (by omega) (by omega) (by omega) u2).Ai ?_;rintro st ⟨ys,rfl,v1,v2,a4⟩;refine⟨_,rfl,ys,rfl,?_,v2,by omega⟩;rw [v1,u1,V,ai aF,pdq_small (by omega),pdq_small (by omega)]
  ·refine AI (S:=fun q=>∃us,q=((0:Int),(m:Int),decide ((1:Int)≤((13 - m:Nat):Int)),us)∧Is ab (insertionSort AQ ab.toArray (m+1) 13) us) ?_ ?_
   ·refine Bf (by omega) (AX ((m+1:Nat):Int) (by simp) (by omega) (by omega) ?_);refine AI (PH (F:=F) (a:=m+1) (b:=13) (l:=4) (xs:=ab) (by omega) (by omega) (by omega) (by omega) (by omega) au) ?_;intro us av;exact Al ⟨us,rfl,av⟩
   ·rintro q ⟨us,rfl,u1,u2,a3⟩;refine Al ?_;have:=NS (F:=F) (a:=0) (b:=m) (l:=4) (wb:=decide ((1:Int)≤((13 - m:Nat):Int))) (wp:=a1) (xs:=us) (by omega) (by omega) (by omega) (by omega) (by omega) u2;refine A5.Ai this ?_;rintro st ⟨ys,rfl,v1,v2,a4⟩;refine⟨_,rfl,ys,rfl,?_,v2,by omega⟩;rw [v1,u1,V,aj aF,pdq_small (by omega),pdq_small (by omega)]
 have a5:A5 (Hm F 4 (0,((13:Nat):Int),true,true,xs)) (fun st=>(∃a,st= .done a∧∃ys,a=Sum.inl ys∧Is xs (pdq AQ xs.toArray 0 13 4 true true) ys)∨
   ∃s',st= .more s'∧A5 (Hm F 4 s') (fun q=>∃a,q= .done a∧∃ys,a=Sum.inl ys∧Is xs (pdq AQ xs.toArray 0 13 4 true true) ys)):=by
  unfold Hm;refine AI (S:=fun r=>(∃ys,r=Sum.inl ys∧Is xs (pdq AQ xs.toArray 0 13 4 true true) ys)∨∃s',r=Sum.inr s'∧A5 (Hm F 4 s') (fun q=>∃a,q= .done a∧∃ys,a=Sum.inl ys∧Is xs (pdq AQ xs.toArray 0 13 4 true true) ys)) ?_ ?_
  ·refine AX 13 (by dsimp only;omega) (by omega) (by omega) (Bf (by omega) ?_);refine Bf (by omega) (AI (S:=fun _=>True) (Bf (by simp) (Al trivial)) fun _ _=>?_);refine AP aA (AI aP ?_);rintro⟨q1,q2,ag⟩ ⟨ae,e2,W⟩;simp only at ae e2 W ⊢;subst ae e2;refine AP (b:=true) (by simp) (AP (b:=decide (Ix R.hint=1)) (by simp) ?_);have a6:A5 (if(decide (Ix R.hint=1))=true then(f183 F ag 0 ((13:Nat):Int)).bind fun aw=>if aw.1=true then some (Sum.inl aw.2) else some (Sum.inr aw.2) else some (Sum.inr ag))
     (fun r=>(R.pi.2=true∧∃ys,r=Sum.inl ys∧Is xs R.pi.1 ys)∨(R.pi.2=false∧∃ys,r=Sum.inr ys∧Is xs R.pi.1 ys)):=by
    by_cases hh:R.hint= .increasing
    ·refine BI (by rw [hh];rfl) ?_;obtain⟨k1,U,V⟩:=W;obtain⟨ay,g2⟩:=Wx (F:=F) (a:=0) (b:=13) (xs:=ag) (by omega) (by omega) (by omega) (by omega) (by omega) U;rw [k1] at ay g2;rw [← aN hh] at ay g2;refine AP ay (By (fun h=>?_) (fun h=>?_))
     ·exact Al (.inl ⟨h,ag,rfl,by rw [g2];exact k1,U,V⟩)
     ·exact Al (.inr ⟨by simpa using h,ag,rfl,by rw [g2];exact k1,U,V⟩)
    ·refine Bf (by intro h;cases aq:R.hint <;> rw [aq] at h hh <;> first | (exact hh rfl) | (simp [Ix] at h)) ?_
     rw [aO hh];exact Al (.inr ⟨rfl,ag,rfl,W⟩)
   refine AI a6 ?_;rintro r (⟨p2,ys,rfl,az⟩ | ⟨p2,Z,rfl,a7⟩)
   ·refine Al (.inl ⟨ys,rfl,?_⟩);rw [pdq_done ap (by omega) (by rw [K];exact p2),K];exact az
   ·rw [Sum.elim_inr];refine AI (S:=fun c=>c=false) (Bf (by omega) (Al rfl)) ?_;rintro c rfl;refine Bf (by simp) ?_;obtain⟨s',ah,ak⟩:=aU Z a7 p2;have bl:∀{α β:Type} (o:Option α) (f:α→Option β) (g:β→(List PT)⊕(Int×Int×Bool×Bool×List PT)),True:=fun _ _ _=>trivial;refine A5.of_eq (a:=Sum.inr s') ?_ (.inr ⟨s',rfl,ak⟩);have key:∀(o:Option (Int×Int×Bool×Bool×List PT)),o=some s'→(o.bind fun x=>some (Sum.inr x:List PT⊕(Int×Int×Bool×Bool×List PT)))=some (Sum.inr s'):=fun o a8=>by rw [a8];rfl
    refine Eq.trans ?_ (key _ ah);simp only [Option.bind_assoc,Option.bind_some]
  ·rintro r (⟨ys,rfl,az⟩ | ⟨s',rfl,a9⟩)
   ·exact Al (.inl ⟨_,rfl,ys,rfl,az⟩)
   ·exact Al (.inr ⟨s',rfl,a9⟩)
 obtain⟨bm,aG⟩:∃k,F=k+2:=⟨F - 2,by omega⟩;obtain⟨st,ah,ak | ak⟩:=a5
 ·obtain⟨a,rfl,am⟩:=ak;rw [aG] at ah ⊢;unfold iter;rw [ah];exact⟨a,rfl,am⟩
 ·obtain⟨s',rfl,am⟩:=ak;rw [aG] at ah am ⊢;exact Vl ah (Vp am)
end Pal
namespace Pal
open Go Go.Conc Go.Proofs
open Go.Proofs.Tryz
variable {J:Judge Tryz.prog}{E:LH}
def Q0(fuel:Nat)(p1:Int)(K:Int)(U:Unit):Option (Bn Unit Unit):= Option.bind (if p1<K then(none) else(some false)) fun O=> if O=true then((Av (K - 1)).bind fun V=> (Av (K - 1)).bind fun W=> none) else(some (.done ()))
def Qv(fuel:Nat)(p1:Int)(p2:Int)(K:Int):Option (Bn Int Unit):= if K<p2 then(Option.bind (iter (Q0 fuel p1 K) fuel ()) fun U=> (Av (K+1)).bind fun O=> some (.more O)) else(some (.done ()))
def O4(fuel:Nat)(p1:Int)(p2:Int):Option Unit:= (Av (p1+1)).bind fun K=> Option.bind (iter (Qv fuel p1 p2) fuel K) fun O=> some ()
theorem WZ{p1:Int}{p2:Int}{fuel:Nat}{r:Unit}(V:O4 fuel p1 p2=some r):AU J 178 [nS,iV p1,iV p2,(fV 134)] E [] (fun w E' B'=>w= .tuple #[]∧B'= []):=by
 refine Bj func178 fun Q a0 cs H ak al=>?_;unfold O4 at V;obtain⟨a1,am,an⟩:=bs V;refine zg 3 rfl (A9 am rfl rfl rfl ?_);obtain⟨a2,ao,ap⟩:=bs an;refine zg 2 rfl (CM [] [] (fun a3 aq ar=>?_) (fun au=>?_))
 ·obtain rfl:=oi ap;exact JL.fin (v:= .tuple #[]) rfl rfl (B6.list func178 rfl (vs:= []) trivial) (al aq rfl ⟨rfl,rfl⟩ ar)
 ·refine JL.block (CO ao (fun K=> []) (fun K=> [(0,.slice none 0 0),(1,iV p1),(2,iV p2),(3,(fV 134)),(8,iV K)]) Aq ak ?_);rintro K a4 W Z av ⟨a5,O⟩ aw;have aa:=O;unfold Qv at aa;refine zg 7 rfl (AM aa (fun ay az=>?_) (fun ay aA=>?_))
  ·obtain⟨a6,aB,aC⟩:=bs az;refine zg 8 rfl (CM [] [(0,.slice none 0 0),(1,iV p1),(2,iV p2),(3,(fV 134)),(8,iV K)] (fun a7 aD aE=>?_) (fun aF=>?_))
   ·obtain⟨aG,aH,aI⟩:=bs aC;refine zg 3 rfl (A9 aH rfl rfl rfl ?_);refine zg 2 rfl ?_;obtain rfl:=oi aI;exact aw aG (W.Ab aD) aE rfl O
   ·refine JL.block (CO aB (fun ab=> []) (fun ab=> [(0,.slice none 0 0),(1,iV p1),(2,iV p2),(3,(fV 134)),(8,iV K),(9,iV K)]) Aq Z ?_);rintro ab ae aJ aK aL ⟨a8,ag⟩ a9;have ah:=ag;unfold Q0 at ah;refine zg 2 rfl (DC 17 fun ht=>?_);refine Bh ht rfl [0,1,2,3] rfl ?_;obtain⟨aM,ai,aN⟩:=bs ah;refine FR 0 #[true,true,true,true,true,true,true,true,true,true,true,true,true,true,true,true,true] (fun L s=>∃(aj:LH),Jm ae H aj [] [(0,.slice none 0 0),(1,iV p1),(2,iV p2),(3,(fV 134)),(8,iV K),(9,iV K),(34,.bool aM)] L s) ?_ ?_
    ·rintro _ _ ⟨aj,rfl,rfl,aO,aP⟩;refine AV.fin (by decide+kernel) (BK aN (fun aQ aR=>?_) (fun aQ aS=>?_))
     ·refine zg 3 rfl (DC 16 fun ht=>?_);refine Bh ht rfl [0,1,2,3] rfl ?_;obtain⟨ba,aT,aU⟩:=bs aR;refine Bw 4 ht rfl rfl (fun ρ h s' hs=>Dc (h _ _ rfl) (h _ _ rfl) aT) (Bh ht rfl [5,6] rfl ?_);obtain⟨bb,aV,aW⟩:=bs aU;refine Bw 7 ht rfl rfl (fun ρ h s' hs=>Dc (h _ _ rfl) (h _ _ rfl) aV) ?_;cases aW
     ·refine JL.exit rfl ?_;obtain rfl:=oi aS;obtain rfl:=aL _ ag;exact aF (aJ.Ab aO) aP rfl
    ·intro aX;refine FO (q:=p1<K) (i:=21) rfl (fun U=>?_) (fun U=>?_)
     ·have aY:=ip ai U;refine Bh ht rfl [4,5,6] rfl ?_;cases aY
     ·have aZ:=im ai U;refine Bh ht rfl [4,5,6,7,8,9,10,11,12,13,14,15,16] rfl ?_;obtain rfl:=oi aZ;refine Dg ?_ (aX _ _ ⟨ae,rfl,rfl,Aq,aK⟩);exact⟨rfl,rfl,rfl,rfl,rfl,rfl,rfl,trivial⟩
  ·refine JL.exit rfl ?_;obtain rfl:=oi aA;obtain rfl:=av _ O;exact au W Z rfl
def Q3(fuel:Nat)(p1:Int)(p2:Int)(p3:Int)(O:Unit):Option (Bn Unit ((Unit)⊕(Unit))):= (Av (p2 - p1)).bind fun K=> if K≤12 then((O4 fuel p1 p2).bind fun U=> some (.done (Sum.inl ()))) else(if p3=0 then(none) else(none))
def O3(fuel:Nat)(p1:Int)(p2:Int)(p3:Int):Option Unit:= Option.bind (iter (Q3 fuel p1 p2 p3) fuel ()) fun K=> Sum.elim (fun r=>some r) (fun O=> none) K
theorem We{p1:Int}{p2:Int}{p3:Int}{fuel:Nat}{r:Unit}(K:O3 fuel p1 p2 p3=some r):AU J 162 [nS,iV p1,iV p2,iV p3,(fV 134)] E [] (fun w E' B'=>w= .tuple #[]∧B'= []):=by
 refine Bj func162 fun Q az cs H W Z=>?_;unfold O3 at K;obtain⟨aA,aa,ab⟩:=bs K;refine zg 8 rfl (Bs (fun L s=>False) ?_ ?_)
 ·intro _ _ ae;exact ae.elim
 ·intro aB;refine JL.block (CO aa (fun O=> []) (fun O=> [(0,.slice none 0 0),(1,iV p1),(2,iV p2),(3,iV p3),(4,(fV 134)),(10,.bool true),(11,.bool true)]) Aq W ?_);rintro O aC ag ah ai ⟨aD,U⟩ aE;have V:=U;unfold Q3 at V;obtain⟨aF,aj,ak⟩:=bs V;refine zg 5 rfl (Cd aj rfl rfl rfl ?_);refine zg 8 rfl (AM ak (fun al am=>?_) (fun al an=>?_))
  ·obtain⟨aG,ao,ap⟩:=bs am;refine zg 6 rfl (BJ (WZ ao) rfl rfl NM ah fun aH aq ar=>?_);refine JL.done ?_;obtain rfl:=oi ap;obtain rfl:=ai _ U;have au:=elim_inl ab;obtain rfl:=oi au;exact AL func162 rfl rfl (Z (ag.Ab aq) rfl ⟨rfl,rfl⟩ ar)
  ·refine zg 7 rfl (AM an (fun av aw=>?_) (fun av ay=>?_))
   ·refine zg 6 rfl ?_;cases aw
   ·refine zg 5 rfl (Ay (v:= .bool false) rfl (fun ρ h=>Yl.not (c:=true) (h _ _ rfl)) ?_);refine zg 9 rfl ?_;cases ay
def SO(fuel:Nat):Option Unit:= (f163 fuel (Dm ((0:Nat):Int))).bind fun K=> (O3 fuel 0 ((0:Nat):Int) K).bind fun O=> some ()
theorem Wl{fuel:Nat}{r:Unit}(K:SO fuel=some r):AU J 133 [nS,(fV 134)] E [] (fun w E' B'=>w= .tuple #[]∧B'= []):=by
 refine Bj func133 fun Q ai cs H O U=>?_;unfold SO at K;refine zg 3 rfl (Bo underlying130 rfl rfl rfl ?_);refine zg 6 rfl (Ay (v:= .int .u64 ((Dm ((0:Nat):Int):Nat):Int)) rfl (fun ρ h=>Yl.Dm underlying3 underlying156 (h _ _ rfl)) ?_);obtain⟨aj,V,W⟩:=bs K;refine BJ (Sz V) rfl rfl (A3 func163 rfl) O fun ak Z aa=>?_;obtain⟨al,ab,ae⟩:=bs W;refine zg 1 rfl (BJ (We ab) rfl rfl LQ aa fun am ag ah=>?_);refine JL.done ?_;obtain rfl:=oi ae;exact JL.fin (v:= .tuple #[]) rfl rfl (B6.list func133 rfl (vs:= []) trivial) (U (Z.Ab ag) rfl ⟨rfl,rfl⟩ ah)
end Pal
namespace Pal
open Go Go.Conc Go.Proofs Go.Sort
theorem Uh:∀(ys K:List PT),K.Perm ys→ys.Pairwise (fun p q=>p.1<q.1)→K.Pairwise (fun p q=>p.1≤q.1)→K=ys:=by
 intro ys
 induction ys with
 | nil=>intro K h _ _;exact h.eq_nil
 | cons y ys Z=>
  intro K h O U;cases K with
  | nil=>exact absurd h.symm.eq_nil (by simp)
  | cons z K=>
   rw [List.pairwise_cons] at O U;have V:z∈y::ys:=h.mem_iff.1 (by simp);have W:y∈z::K:=h.mem_iff.2 (by simp);have e:z=y:=by
    rcases List.mem_cons.1 V with e | V
    ·exact e
    ·rcases List.mem_cons.1 W with e | W
     ·exact e.symm
     ·have:=O.1 z V;have:=U.1 y W;omega
   subst e;rw [Z K ((List.perm_cons z).1 h) O.2 U.2]
theorem WH{F:Nat}{xs ys:List PT}(ah:3000<F)(ao:xs.length≤13)(W:KO xs)(ai:ys.Perm xs)(hs:ys.Pairwise (fun p q=>p.1<q.1)):f133 F xs=some ys:=by
 have fin:∀(d:Array PT) (K:List PT),PermIn 0 xs.toArray.size xs.toArray d→SortedIn AQ 0 xs.toArray.size d→K.toArray=d→K=ys:=by
  rintro d K Z aj rfl;have aa:K.Perm xs:=by
   have ab:=Z.2.2;have O:=Z.1;simp only [List.size_toArray] at O ab;have e2:(K.toArray.extract 0 xs.length).toList=K:=by simp [← O]
   have ak:(xs.toArray.extract 0 xs.length).toList=xs:=by simp
   rwa [e2,ak] at ab
  refine Uh ys K (aa.trans ai.symm) hs ?_;rw [List.pairwise_iff_getElem];intro i j hi ae al;have h:=aj i j (Nat.zero_le _) al (by simpa using (aa.length_eq▸ae));rw [GC hi,GC ae] at h;simpa [AQ] using h
 have h:A5 (f133 F xs) (fun K=>K=ys):=by
  unfold f133;rcases Nat.lt_or_ge xs.length 13 with ag | ag
  ·obtain⟨l,O⟩:=W9 F xs.length ag;refine AP O (AI (TR (F:=F) (n:=xs.length) (l:=l) (by omega) rfl (by omega) W) ?_);rintro K ⟨k1,am,an⟩;obtain⟨V,g2⟩:=insertionSort_holds MA xs.toArray 0 xs.length (Nat.zero_le _) (by simp);exact Al (fin _ K (by simpa using V) (by simpa using g2) k1)
  ·have U:xs.length=13:=by omega
   refine AP (b:=4) (by rw [U];exact VS F) ?_;rw [U];refine AI (V7 (F:=F) (xs:=xs) ah U W) ?_;rintro K ⟨k1,am,an⟩;obtain⟨V,g2⟩:=pdq_sorts AQ MA xs.toArray 0 13 4 true true (Nat.zero_le _) (by simp [U]) (.inl rfl);have e:xs.toArray.size=13:=by simpa using U
   exact Al (fin _ K (by rw [e];exact V) (by rw [e];exact g2) k1)
 obtain⟨K,O,rfl⟩:=h;exact O
theorem XF{J:Judge Tryz.prog}{E:LH}{a:Option Addr}{c:Nat}{g:Seg}{xs ys:List PT}(U:xs.length≤13)(V:KO xs)(O:ys.Perm xs)(hs:ys.Pairwise (fun p q=>p.1<q.1))(W:OL 133 (rP rI (rP rI (rL (rP rI (rP (rL rI) (rN .u16)))))) E a c g xs):
  AU J 133 [.slice a xs.length c,.func (.func 134) #[] #[]] E g (fun w E' B'=>w= .tuple #[]∧OL 133 (rP rI (rP rI (rL (rP rI (rP (rL rI) (rN .u16)))))) E' a c B' ys):=by
 rcases W.cases with⟨rfl,rfl,rfl,rfl⟩ | ⟨bk,f,rfl,rfl,hW⟩
 ·obtain rfl:ys= []:=O.eq_nil;refine(Wl (fuel:=10) (r:=()) rfl).Ai ?_;rintro w E' B' hle ⟨K,rfl⟩;exact⟨K,OL.nil⟩
 ·refine(XV hW (fuel:=4000) (WH (by omega) U V O hs)).Ai ?_;rintro w E' B' hle ⟨aa,K,rfl,Z⟩;exact⟨K,Z.1⟩
end Pal
namespace Pal
open Go Go.Conc Go.Proofs
open Go.Proofs.Tryz
open Go.Conc.Lib Go.ConcR.Gen
def Dk(qs:Nat→Int×List (B9)):List (Bx):=((List.range 13).filter (fun j=>decide (0<(qs j).2.length))).map (partOf qs)
theorem Wi
  {E:LH} {k1 o2:Nat} {an ao ap:Ao} {aq ar au:Nat} {av:Lv_} {U:BV} {ab:A6} (ae:At E k1 o2 (([sV an U.1 aq,sV ao U.2.1 ar]:Lv_)++av)) (aB:Ap (rL rI) E an aq U.1) (aC:Ap (rL rI) E ao ar U.2.1) (aD:(rA 13 (rN .u16)).r E av U.2.2) (aE:Ap BM E ap au ab) {fuel:Nat} {qs:Nat→Int×List (B9)} (aF:∀j,j<13→GI fuel U ab ((j:Nat):Int)=some (qs j)):
  AU (DR Tryz.prog) 102 [pV k1 o2,.slice ap ab.length au] E [] (fun w E' B'=>∃a c,w= .slice a (Dk qs).length c∧B'= []∧Ap Cr E' a c (Dk qs)):=by
 refine OH func102 rfl rfl fun Q bf cs H aG aH=>zg 2 rfl (Cy aG fun aI bg aJ ag aK=>?_);refine Cy aK fun aL bh aw aM aN=>?_;refine DO (S':= []) (by simp) aN fun aO=>zg 4 rfl (JS.makeChan rfl rfl rfl underlying162 (Cu type133) aO fun ch aP=>?_);refine CN aP (DZ type162) fun rc aQ=>?_;refine JS.store (v:= .chan (some ch)) (off:=0) 1 rfl rfl rfl aQ rfl rfl (Br type162) (by simp [Value.cells,Cx]) rfl (Nat.le_of_ble_eq_true rfl) fun aR=>Dr 1 aR rfl fun V ah ai aS=>zg 3 rfl (CN aS (DZ type171) fun wg aT=>?_);refine DO (S':= [[(ch,.chan 0 #[] false 0 0 false)],[(wg,.cells #[.int .u64 0,.int .u32 0] 171 (0,0))]]) (by simp [Value.cells]) aT fun aa=>zg 7 rfl (Jl ?_);refine Iv [(2,pV aI 0),(3,pV aL 0),(5,pV rc 0),(6,pV wg 0),(11,iV ((0:Nat):Int))] rfl ?_;have aU:=aJ.Ab aw;have W:=aU.Ab ah;have aj:=Nd.iff.1 aa;intro T aV;let F:Fam:=⟨wg,ch,171,13,fun j=>decide (0<(qs j).2.length),fun kk v E=>kk<13∧∃a c,v= .agg #[iV ((kk:Nat):Int),iV (qs kk).1,.slice a (qs kk).2.length c]∧Ap DD E a c (qs kk).2,fun g s=>(DR Tryz.prog).ok Q g s⟩;refine Xf F (Nat.le_of_ble_eq_true rfl) (show 13<2147483647 by omega) ?_ ?_ (Nz (j:=1) aa rfl) (Nz (j:=0) aa rfl) ?_ (fun g s h=>h)
 ·rintro kk v bi bj ak ⟨Z,a,c,aW,ae⟩;exact⟨Z,a,c,aW,ae.Ai ak⟩
 ·intro e;have:=aj.1;simp at this;exact this e.symm
 have aX:=TP aa;show Way Tryz.prog true (Stop Tryz.prog F (.FE 0)) _ (⟨(Ak V H [[(ch,.chan 0 #[] false 0 0 false)],[(wg,.cells #[.int .u64 0,.int .u32 0] 171 (0,0))]]).E,Io (Ak V H [[(ch,.chan 0 #[] false 0 0 false)],[(wg,.cells #[.int .u64 0,.int .u32 0] 171 (0,0))]]).H wg ch,false⟩:St);rw [show(Ak V H [[(ch,.chan 0 #[] false 0 0 false)],[(wg,.cells #[.int .u64 0,.int .u32 0] 171 (0,0))]]).E=V from rfl,aX];have aY:Au V H []:=trivial;refine Uj (F:=F) rfl (ae.Ai W) (aB.Ai W) (aC.Ai W) (Rp.Ai _ W aD) (aE.Ai W) (ag.Ai (aw.Ab ah)) (aM.Ai ah) ai aF (fun j _=>rfl) (fun j aZ E' a c a0=>⟨aZ,a,c,rfl,a0⟩) (fun ay al bl=>?_) 13 0 rfl (by decide) V Aq aY T aV;refine zg 9 rfl ?_;refine Ay (v:= .func (.func 131) #[] ([.pointer (some F.sA),pV rc 0]:Lv_).toArray) rfl (fun ρ h=>IQ (by simp) (by simp [h (.tmp 6) _ rfl,h (.tmp 5) _ rfl])) ?_;have az:=VZ (F:=F) (show 13<2147483648 by omega) (ai.Ai al);refine JL.GO (fi:= #[]) rfl rfl rfl rfl rfl rfl rfl (by first | exact az | (simp only [List.append_toArray,List.nil_append,Array.append_empty,Array.empty_append];exact az)) ?_
 refine zg 8 rfl (Ay (v:= .chan (some ch)) rfl (fun ρ h=>Yl.load LM (h _ _ rfl) (At.Ll (j:=0) (ai.Ai al) rfl)) ?_);refine zg 2 rfl (Jl ?_);refine Iv [(8,.slice none 0 0),(18,.chan (some ch))] rfl ?_;have a1:Au ay H [[]]:=trivial;refine UW (F:=F) (Q:=Q) rfl (fun g s h=>h) (qs:=qs) (fun kk v E' h=>h.2) (fun K bm a c g a2 aj aA a3 a4 a5=>?_) 13 [] [] ay none 0 [] rfl List.nodup_nil (by simp) (by decide) Aq OL.nil a1;have am:(Dk qs).Perm (K.map (partOf qs)):=by
  unfold Dk;refine List.Perm.map _ ?_;refine(List.perm_ext_iff_of_nodup (List.nodup_range.filter _) aj).2 fun x=>?_;constructor
  ·intro O;simp at O;exact a3 x O.1 (by simpa [F] using O.2)
  ·intro O;have Z:=aA x O;simp;exact⟨Z.1,by simpa [F] using Z.2⟩
 have a6:(Dk qs).Pairwise (fun p q=>p.1<q.1):=by
  unfold Dk;rw [List.pairwise_map];refine List.Pairwise.filter _ (List.Pairwise.imp ?_ List.pairwise_lt_range);intro a b ak;exact Int.ofNat_lt.2 ak
 have hlen:(K.map (partOf qs)).length≤13:=by
  rw [← am.length_eq];unfold Dk;rw [List.length_map];exact Nat.le_trans (List.length_filter_le _ _) (by simp)
 have a7:KO (K.map (partOf qs)):=by
  intro x O;obtain⟨j,ag,rfl⟩:=List.mem_map.1 O;have Z:=(aA j ag).1;simp only [partOf];omega
 have a8:(K.map (partOf qs)).length=(Dk qs).length:=am.length_eq.symm;refine zg 3 rfl ?_;refine Oi (vs:= [.slice a (K.map (partOf qs)).length c,.func (.func 134) #[] #[]]) 0 (XF hlen a7 am a6 a4) rfl rfl rfl (A3 func133 rfl) rfl a5 rfl ?_;rintro _ bn g' a9 ⟨rfl,ba⟩ bb;refine zg 6 rfl ?_;refine Cc 0 ba bb rfl fun bo bc bd be=>?_;refine JL.ret (v:= .slice a (K.map (partOf qs)).length c) rfl rfl (B6.list func102 rfl (vs:= [.slice a (K.map (partOf qs)).length c]) ⟨rfl,trivial⟩) ?_;exact aH _ _ _ [] ((((W.Ab al).Ab a2).Ab a9).Ab bc) (by simp) ⟨a,c,by rw [a8],rfl,bd⟩ be
end Pal
namespace Pal
open Go Go.Conc Go.Proofs
open Go.Proofs.Tryz
open Go.Conc.Lib Go.ConcR.Gen
def JR(fuel:Nat)(K:BV)(O:A6):Option (List (Bx)):=
 if(List.range 13).all (fun j=>(GI fuel K O ((j:Nat):Int)).isSome)=true then some (Dk fun j=>(GI fuel K O ((j:Nat):Int)).getD (0,[])) else none
theorem Qx
  {E:LH} {k1 o2:Nat} {V W Z:Ao} {aa ab ae:Nat} {ag:Lv_} {K:BV} {O:A6} (ak:At E k1 o2 (([sV V K.1 aa,sV W K.2.1 ab]:Lv_)++ag)) (al:Ap (rL rI) E V aa K.1) (am:Ap (rL rI) E W ab K.2.1) (an:(rA 13 (rN .u16)).r E ag K.2.2) (ao:Ap BM E Z ae O) {fuel:Nat} {r:List (Bx)} (U:JR fuel K O=some r):
  AU (DR Tryz.prog) 102 [pV k1 o2,.slice Z O.length ae] E [] (fun w E' B'=>∃(ah:Ao) (ai:Nat),w= .slice ah r.length ai∧B'= []∧Ap Cr E' ah ai r):=by
 unfold JR at U;split at U
 ·rename_i aj;cases U;refine(Wi ak al am an ao (fuel:=fuel) (qs:=fun j=>(GI fuel K O ((j:Nat):Int)).getD (0,[])) fun j ap=>?_).Ai ?_
  ·rw [List.all_eq_true] at aj;obtain⟨q,aq⟩:=Option.isSome_iff_exists.1 (aj j (List.mem_range.2 ap));rw [aq];rfl
  ·rintro w E' B' _ ⟨a,c,ar,au,av⟩;exact⟨a,c,ar,au,av⟩
 ·cases U
end Pal
namespace Pal
open Go Go.Conc Go.Proofs
open Go.Proofs.Tryz
def K7(fuel:Nat)(O:Bx)(K:Int×(List B9)×Int):Option (Bn (Int×(List B9)×Int) (Int×(List B9))):= if K.2.2<(O.2.2.length:Int) then((ix O.2.2 K.2.2).bind fun V=> (ID fuel K.1 K.2.1 V O.2.1).bind fun U=> (Av (K.2.2+1)).bind fun W=> some (.more (U.1,U.2,W))) else(some (.done (K.1,K.2.1)))
def M1(fuel:Nat)(O:(List Bx))(K:Int×(List B9)×Int):Option (Bn (Int×(List B9)×Int) (Int×(List B9))):= if K.2.2<(O.length:Int) then((ix O K.2.2).bind fun V=> Option.bind (iter (K7 fuel V) fuel (K.1,K.2.1,0)) fun U=> (Av (K.2.2+1)).bind fun W=> some (.more (U.1,U.2,W))) else(some (.done (K.1,K.2.1)))
def f93(fuel:Nat)(p0:BV)(p1:A6):Option ((Int×(List B9))):= (JR fuel p0 p1).bind fun K=> Option.bind (iter (M1 fuel K) fuel (0,[],0)) fun O=> some O
theorem Nh{E:LH}{k1:Nat}{o2:Nat}{aH:Ao}{aI:Nat}{aJ:Ao}{aK:Nat}{aL:Lv_}{aM:Ao}{aN:Nat}{p0:BV}{p1:A6}(a2:At E k1 o2 (([sV aH p0.1 aI,sV aJ p0.2.1 aK]:Lv_)++aL))(a3:Ap (rL rI) E aH aI p0.1)(a4:Ap (rL rI) E aJ aK p0.2.1)(a5:(rA 13 (rN .u16)).r E aL p0.2.2)(a6:Ap BM E aM aN p1){fuel:Nat}{r:(Int×(List B9))}(aO:f93 fuel p0 p1=some r):AU (DR Tryz.prog) 93 [pV k1 o2,sV aM p1 aN] E [] (fun w E' B'=>∃(aP:Ao) (aQ:Nat),w= .agg #[iV r.1,sV aP r.2 aQ]∧B'= []∧Ap DD E' aP aQ r.2):=by
 refine Bj func93 fun Q co cs H a7 a8=>?_;unfold f93 at aO;refine zg 2 rfl (CN a7 FM fun O a9=>?_);refine zg 3 rfl (CN a9 FM fun U ba=>?_);obtain⟨aa,bb,bc⟩:=bs aO;refine zg 6 rfl (BR (Qx a2 a3 a4 a5 a6 bb) rfl rfl (A3 func102 rfl) ba ?_);rintro _ aw _ bd ⟨ay,az,rfl,rfl,be⟩ bf;refine Bo underlying130 rfl rfl rfl ?_;obtain⟨K,bg,bh⟩:=bs bc;refine zg 2 rfl (Bs (fun L s=>∃(aA:LH) (V:Ao) (W:Nat) (aB:Seg),Jn aw H aA [bX O #[iV 0,nS] 97,bX U #[iV K.1,sV V K.2 W] 97,aB] [(4,pV O 0),(5,pV U 0)] L s (OL 104 DD aA V W aB K.2)) ?_ ?_)
 ·rintro _ _ ⟨aA,V,W,aB,rfl,rfl,bi,aR,bj⟩;refine zg 2 rfl (Ay rfl (fun ρ h=>FQ (vs:= [iV K.1,sV V K.2 W]) H7 Dq (h _ _ rfl) (FN (off:=0) 1 aR rfl rfl)) ?_);refine BT 0 aR Dq fun bl=>?_;refine JL.done (Cc 2 bj bl rfl fun cp bm bn bo=>?_);refine JS.drop 1 bo rfl fun aS=>?_;obtain rfl:=oi bh;refine JL.ret (v:= .agg #[iV K.1,sV V K.2 W]) rfl rfl (B6.list func93 rfl (vs:= [.agg #[iV K.1,sV V K.2 W]]) ⟨⟨_,rfl,Ld.many (vs:= [iV K.1,sV V K.2 W]) H7 Dq (FN (off:=0) 0 aS rfl rfl)⟩,trivial⟩) (HR 0 aS rfl fun bp=>?_);exact a8 ((bd.Ab bi).Ab bm) rfl ⟨V,W,rfl,rfl,bn⟩ bp
 ·intro bq;refine JL.block (CE bg (fun L s Z=>∃(aj:LH) (ab:Ao) (ae:Nat) (ag:Seg),Jn aw H aj [bX O #[iV 0,nS] 97,bX U #[iV Z.1,sV ab Z.2.1 ae] 97,ag] [(4,pV O 0),(5,pV U 0),(12,sV ay aa az),(13,iV (aa.length:Int)),(14,iV Z.2.2)] L s (OL 104 DD aj ab ae ag Z.2.1)) ⟨aw,none,0,[],rfl,rfl,Aq,bf,OL.nil⟩ ?_);rintro _ _ Z ⟨aj,ab,ae,ag,rfl,rfl,aC,aT,aU⟩ br ⟨cq,aD⟩ bu;have aV:=aD;unfold M1 at aV;refine zg 5 rfl (AM aV (fun bv bw=>?_) (fun bv bx=>?_))
  ·obtain⟨aW,bz,bA⟩:=bs bw;refine zg 5 rfl (B5 (be.Ai aC) bz underlying130 AS ?_);rintro cr ct _ ⟨_,_,rfl,rfl,⟨_,_,rfl,rfl,⟨bB,bC,rfl,bD⟩⟩⟩ bE;refine Cf bE Cn AS rfl rfl (CN aT H8 fun bF bG=>?_);refine BT 3 bG AS fun bH=>?_;refine Dr 3 bH rfl fun aE aF aX bI=>zg 3 rfl (BL underlying133 Dq rfl rfl rfl ?_);refine JL.fl 2 aX underlying97 DF EJ ?_;refine Bo underlying95 rfl rfl rfl ?_;obtain⟨ah,bJ,bK⟩:=bs bA;refine zg 2 rfl (Bs (fun L s=>∃(ak:LH) (al:Ao) (am:Nat) (an:Seg),Jn aE H ak [bX O #[iV 0,nS] 97,bX U #[iV ah.1,sV al ah.2 am] 97,an] [(4,pV O 0),(5,pV U 0),(12,sV ay aa az),(13,iV (aa.length:Int)),(14,iV Z.2.2)] L s (OL 104 DD ak al am an ah.2)) ?_ ?_)
   ·rintro _ _ ⟨ak,al,am,an,rfl,rfl,bL,bM,bN⟩;obtain⟨bO,bP,bQ⟩:=bs bK;refine zg 2 rfl (A9 bP rfl rfl rfl ?_);refine zg 2 rfl ?_;obtain rfl:=oi bQ;exact Aw (bu _ _ (ah.1,ah.2,bO) ⟨ak,al,am,an,rfl,rfl,((aC.Ab aF).Ab bL),bM,bN⟩ aD) rfl
   ·intro bR;refine JL.block (CE bJ (fun L s ai=>∃(ao:LH) (ap:Ao) (aq:Nat) (ar:Seg),Jn aE H ao [bX O #[iV 0,nS] 97,bX U #[iV ai.1,sV ap ai.2.1 aq] 97,ar] [(4,pV O 0),(5,pV U 0),(7,pV bF 0),(12,sV ay aa az),(13,iV (aa.length:Int)),(14,iV Z.2.2),(20,sV bB aW.2.2 bC),(21,iV (aW.2.2.length:Int)),(22,iV ai.2.2)] L s (OL 104 DD ao ap aq ar ai.2.1)) ⟨aE,ab,ae,ag,rfl,rfl,Aq,bI,(aU.Ai aF)⟩ ?_);rintro _ _ ai ⟨ao,ap,aq,ar,rfl,rfl,au,aY,aZ⟩ bS ⟨cu,aG⟩ bT;have a0:=aG;unfold K7 at a0;refine zg 5 rfl (AM a0 (fun bU bV=>?_) (fun bU bW=>?_))
    ·obtain⟨bY,bZ,b0⟩:=bs bV;refine zg 5 rfl (B5 (bD.Ai (aF.Ab au)) bZ underlying95 Co ?_);rintro cv cw _ ⟨_,_,rfl,rfl,⟨_,_,rfl,⟨cy,cz,rfl,b1⟩,rfl⟩⟩ b2;refine Cf b2 F3 Co rfl rfl (CN aY GY fun cA b3=>?_);refine BT 3 b3 Co fun b4=>?_;refine Dr 3 b4 rfl fun cB av b5 b6=>zg 2 rfl (Cf b5 F3 Co rfl rfl ?_);refine BL underlying133 Dq rfl rfl rfl (JL.fl 1 (aX.Ai (au.Ab av)) underlying97 AN Bq ?_);obtain⟨a1,b7,b8⟩:=bs b0;refine Kz 1 2 rfl rfl b6 fun b9=>B8 1 (YG (age:=0) (aZ.Ai av) (tr:=bY) (b1.Ai av) b7) rfl rfl (A3 func122 rfl) b9 rfl ?_;rintro _ ca _ cb ⟨cc,cd,ce,rfl,rfl,cf⟩ cg;refine FA 1 rfl cg fun ci=>?_;obtain⟨ck,cm,cn⟩:=bs b8;refine zg 3 rfl (A9 cm rfl rfl rfl ?_);refine zg 2 rfl ?_;obtain rfl:=oi cn;exact Aw (bT _ _ (a1.1,a1.2,ck) ⟨ca,cc,cd,ce,rfl,rfl,((au.Ab av).Ab cb),ci,cf⟩ aG) rfl
    ·refine JL.exit rfl ?_;obtain rfl:=oi bW;obtain rfl:=bS _ aG;exact Aw (bR _ _ ⟨ao,ap,aq,ar,rfl,rfl,au,aY,aZ⟩) rfl
  ·refine JL.exit rfl ?_;obtain rfl:=oi bx;obtain rfl:=br _ aD;exact Aw (bq _ _ ⟨aj,ab,ae,ag,rfl,rfl,aC,aT,aU⟩) rfl
def f78(fuel:Nat)(p0:Bz)(p1:A6)(p2:Int)(p3:Bool):Option ((Option BV)×(Int×(List B9))×Int):= (f69 fuel p0 p1).bind fun O=> if O≠0 then(some (none,(0,[]),O)) else((Av ((p1.length:Int) - 1)).bind fun V=> (f101 fuel p2 (-1) V).bind fun W=> if W=true then(some (none,(0,[]),3)) else((f92 fuel p0).bind fun Z=> (Z).bind fun U=> (f93 fuel U p1).bind fun K=> Option.bind (if(K.2.length:Int)=0 then(some (!p3)) else(some false)) fun aa=> if aa=true then(some (none,K,11)) else(some (some U,K,0))))
theorem JZ{E:LH}{an:Ao}{c2:Nat}{ao:Ao}{ap:Nat}{aq:Ao}{ar:Nat}{p0:Bz}{p1:A6}{p2:Int}{p3:Bool}(au:Ap (rL rI) E an c2 p0.1)(av:Ap (rL rI) E ao ap p0.2)(aw:Ap BM E aq ar p1){fuel:Nat}{r:(Option BV)×(Int×(List B9))×Int}(ay:f78 fuel p0 p1 p2 p3=some r):AU (DR Tryz.prog) 78 [.agg #[sV an p0.1 c2,sV ao p0.2 ap],sV aq p1 ar,iV p2,.bool p3] E [] (fun w E' B'=>∃(az:Value) (aA:Ao) (aB:Nat),w= .tuple #[az,.agg #[iV r.2.1.1,sV aA r.2.1.2 aB],iV r.2.2]∧B'= []∧Kc (rP (rL (rL rI)) (rP (rL (rL rI)) (rA 13 (rN .u16)))) E' az r.1∧Ap DD E' aA aB r.2.1.2):=by
 refine Bj func78 fun Q bI cs H aY ag=>?_;unfold f78 at ay;refine zg 2 rfl (Cy aY fun bJ bK O aC aZ=>?_);refine zg 1 rfl (CN aZ FM fun aD a0=>?_);refine zg 5 rfl (Cf aC Cs B4 rfl rfl ?_);obtain⟨aE,a1,a2⟩:=bs ay;refine zg 1 rfl (BJ (Ln (au.Ai O) (av.Ai O) (aw.Ai O) a1) rfl rfl Kg a0 fun bL V aF=>?_);refine zg 7 rfl (AM a2 (fun a3 a4=>?_) (fun a3 a5=>?_))
 ·refine zg 2 rfl (Ay (v:= .agg #[iV 0,nS]) rfl (fun ρ h=>De [(0,1),(1,1)] h FM underlying97 ⟨rfl,Br type3,rfl,Br type95,trivial⟩ rfl rfl) ?_);refine zg 2 rfl (BT 2 aF Dq fun aG=>?_);refine zg 2 rfl ?_;obtain rfl:=oi a4;refine JL.ret (v:= .tuple #[.pointer none,.agg #[iV 0,nS],iV aE]) rfl rfl (B6.list func78 rfl (vs:= [.pointer none,.agg #[iV 0,nS],iV aE]) ⟨rfl,⟨_,rfl,Ld.many (vs:= [iV 0,nS]) H7 Dq (FN (off:=0) 2 aG rfl rfl)⟩,rfl,trivial⟩) (HR 2 aG rfl fun a6=>?_);exact ag (O.Ab V) rfl ⟨.pointer none,none,0,rfl,rfl,rfl,Ap.nil⟩ a6
 ·refine zg 6 rfl (Bo underlying25 rfl rfl rfl ?_);obtain⟨bM,a7,a8⟩:=bs a5;refine Cd a7 rfl rfl rfl ?_;obtain⟨bN,a9,ba⟩:=bs a8;refine BJ (I2 a9) rfl rfl IL aF fun bO ab aH=>JL.done (BK ba (fun bb bc=>?_) (fun bb bd=>?_))
  ·refine zg 2 rfl (Ay (v:= .agg #[iV 0,nS]) rfl (fun ρ h=>De [(0,1),(1,1)] h FM underlying97 ⟨rfl,Br type3,rfl,Br type95,trivial⟩ rfl rfl) ?_);refine zg 1 rfl (BT 2 aH Dq fun aI=>?_);refine zg 2 rfl ?_;obtain rfl:=oi bc;refine JL.ret (v:= .tuple #[.pointer none,.agg #[iV 0,nS],iV 3]) rfl rfl (B6.list func78 rfl (vs:= [.pointer none,.agg #[iV 0,nS],iV 3]) ⟨rfl,⟨_,rfl,Ld.many (vs:= [iV 0,nS]) H7 Dq (FN (off:=0) 2 aI rfl rfl)⟩,rfl,trivial⟩) (HR 2 aI rfl fun be=>?_);exact ag ((O.Ab V).Ab ab) rfl ⟨.pointer none,none,0,rfl,rfl,rfl,Ap.nil⟩ be
  ·refine zg 3 rfl (Cf (aC.Ai (V.Ab ab)) Cs B4 rfl rfl ?_);obtain⟨bP,bf,bg⟩:=bs bd;refine BR (Nl (au.Ai ((O.Ab V).Ab ab)) (av.Ai ((O.Ab V).Ab ab)) bf) rfl rfl LV aH ?_;rintro bQ bR _ aj ⟨_,rfl,rfl,bh⟩ bi;obtain⟨ak,bj,bl⟩:=bs bg;have aJ:=bh;refine zg 6 rfl ?_;rw [bj] at aJ;obtain⟨ah,ai,_,rfl,aK,⟨_,_,rfl,⟨bm,bn,rfl,aL⟩,⟨_,aM,rfl,⟨aN,aO,rfl,aP⟩,aQ⟩⟩⟩:=aJ;obtain⟨K,bo,bp⟩:=bs bl;refine BR (Nh aK aL aP aQ (aw.Ai (((O.Ab V).Ab ab).Ab aj)) bo) rfl rfl LU bi ?_;rintro _ bS _ ae ⟨W,Z,rfl,rfl,aR⟩ bq;refine CN bq FM fun br bu=>?_;refine BT 7 bu Dq fun bv=>?_;refine Dr 7 bv rfl fun al aa am aS=>zg 4 rfl (JL.fl 1 am underlying97 DF EJ ?_);refine Bo underlying95 rfl rfl rfl ?_;obtain⟨bw,bx,bz⟩:=bs bp;refine zg 2 rfl (FP [] (fun L s=>∃(aT:LH),Jm al H aT [bX aD #[iV 0,nS] 97] [(9,pV aD 0),(12,pV ah ai),(13,pV br 0),(39,.bool bw)] L s) ?_ ?_)
   ·rintro _ _ ⟨aT,rfl,rfl,U,aU⟩;refine JL.done (BK bz (fun bA bB=>?_) (fun bA bC=>?_))
    ·refine JL.seq (DC 2 fun ht=>?_);refine HU 0 ht (am.Ai U) H7 Dq rfl rfl rfl (Cz 1 ht rfl rfl ?_);refine Cg [2,3] (BT 0 aU Dq fun aV=>?_);refine zg 2 rfl ?_;obtain rfl:=oi bB;refine JL.ret (v:= .tuple #[.pointer none,.agg #[iV K.1,sV W K.2 Z],iV 11]) rfl rfl (B6.list func78 rfl (vs:= [.pointer none,.agg #[iV K.1,sV W K.2 Z],iV 11]) ⟨rfl,⟨_,rfl,Ld.many (vs:= [iV K.1,sV W K.2 Z]) H7 Dq (FN (off:=0) 0 aV rfl rfl)⟩,rfl,trivial⟩) (HR 0 aV rfl fun bD=>?_);exact ag ((((((O.Ab V).Ab ab).Ab aj).Ab ae).Ab aa).Ab U) rfl ⟨.pointer none,W,Z,rfl,rfl,rfl,(aR.Ai (aa.Ab U))⟩ bD
    ·refine zg 2 rfl (DC 3 fun ht=>?_);refine Cz 0 ht rfl rfl (HU 1 ht (am.Ai U) H7 Dq rfl rfl rfl ?_);refine Cz 2 ht rfl rfl (Cg [3,4] ?_);refine BT 0 aU Dq fun aW=>?_;refine zg 2 rfl ?_;obtain rfl:=oi bC;refine JL.ret (v:= .tuple #[pV ah ai,.agg #[iV K.1,sV W K.2 Z],iV 0]) rfl rfl (B6.list func78 rfl (vs:= [pV ah ai,.agg #[iV K.1,sV W K.2 Z],iV 0]) ⟨rfl,⟨_,rfl,Ld.many (vs:= [iV K.1,sV W K.2 Z]) H7 Dq (FN (off:=0) 0 aW rfl rfl)⟩,rfl,trivial⟩) (HR 0 aW rfl fun bE=>?_);exact ag ((((((O.Ab V).Ab ab).Ab aj).Ab ae).Ab aa).Ab U) rfl ⟨pV ah ai,W,Z,rfl,rfl,⟨_,_,_,rfl,(aK.Ai ((ae.Ab aa).Ab U)),⟨[sV bm ak.1 bn],(([sV aN ak.2.1 aO]:Lv_)++aM),rfl,⟨_,_,rfl,(aL.Ai ((ae.Ab aa).Ab U))⟩,⟨[sV aN ak.2.1 aO],aM,rfl,⟨_,_,rfl,(aP.Ai ((ae.Ab aa).Ab U))⟩,(Rp.Ai _ ((ae.Ab aa).Ab U) aQ)⟩⟩⟩,(aR.Ai (aa.Ab U))⟩ bE
   ·intro aX;refine EE 36 bx (fun bF bG=>?_) (fun bF bH=>?_)
    ·refine zg 1 rfl (Ay (v:= .bool (!p3)) rfl (fun ρ h=>Yl.not (h _ _ rfl)) ?_);refine zg 1 rfl ?_;obtain rfl:=oi bG;exact Aw (aX _ _ ⟨al,rfl,rfl,Aq,aS⟩) rfl
    ·refine zg 3 rfl ?_;obtain rfl:=oi bH;exact Aw (aX _ _ ⟨al,rfl,rfl,Aq,aS⟩) rfl
def f47(fuel:Nat)(p0:Bz)(p1:A6):Option (Int×Int):= (f78 fuel p0 p1 (-1) false).bind fun K=> some (K.2.1.1,K.2.2)
theorem Y6{E:LH}{O:Ao}{c2:Nat}{U:Ao}{V:Nat}{W:Ao}{Z:Nat}{p0:Bz}{p1:A6}(ab:Ap (rL rI) E O c2 p0.1)(ae:Ap (rL rI) E U V p0.2)(ag:Ap BM E W Z p1){fuel:Nat}{r:Int×Int}(aa:f47 fuel p0 p1=some r):AU (DR Tryz.prog) 47 [.agg #[sV O p0.1 c2,sV U p0.2 V],sV W p1 Z] E [] (fun w E' B'=>w= .tuple #[iV r.1,iV r.2]∧B'= []):=by
 refine Bj func47 fun Q aw cs H ah ai=>?_;unfold f47 at aa;refine zg 2 rfl (Cy ah fun ay az K aj ak=>?_);refine zg 5 rfl (Cf aj Cs B4 rfl rfl ?_);obtain⟨aA,al,am⟩:=bs aa;refine zg 1 rfl (BR (JZ (ab.Ai K) (ae.Ai K) (ag.Ai K) al) rfl rfl Je ak ?_);rintro _ aB _ an ⟨aC,aD,aE,rfl,rfl,aF,aG⟩ ao;refine zg 4 rfl (CN ao FM fun aH ap=>?_);refine zg 1 rfl (BT 3 ap Dq fun aq=>?_);refine Dr 3 aq rfl fun aI ar au av=>zg 4 rfl (JL.fl 0 au underlying97 AN Bq ?_);refine zg 4 rfl ?_;obtain rfl:=oi am;exact AL func47 rfl rfl (ai ((K.Ab an).Ab ar) rfl ⟨rfl,rfl⟩ av)
def f61(fuel:Nat)(p0:Bz)(p1:A6):Option ((Int×Int)×Int):= (f78 fuel p0 p1 (-1) false).bind fun K=> if K.2.2≠0 then(some ((0,0),K.2.2)) else((f87 fuel K.2.1.2).bind fun U=> (f89 fuel U).bind fun O=> (ix O (0)).bind fun V=> (Av ((O.length:Int) - 1)).bind fun W=> (ix O W).bind fun Z=> some ((V,Z),0))
theorem YY{E:LH}{W:Ao}{c2:Nat}{Z:Ao}{aa:Nat}{ab:Ao}{ae:Nat}{p0:Bz}{p1:A6}(ao:Ap (rL rI) E W c2 p0.1)(ap:Ap (rL rI) E Z aa p0.2)(aq:Ap BM E ab ae p1){fuel:Nat}{r:(Int×Int)×Int}(ag:f61 fuel p0 p1=some r):AU (DR Tryz.prog) 61 [.agg #[sV W p0.1 c2,sV Z p0.2 aa],sV ab p1 ae] E [] (fun w E' B'=>w= .tuple #[.agg #[iV r.1.1,iV r.1.2],iV r.2]∧B'= []):=by
 refine Bj func61 fun Q a0 cs H ar ah=>?_;unfold f61 at ag;refine zg 2 rfl (Cy ar fun a1 a2 K au av=>?_);refine CN av Kj fun a3 aw=>?_;refine zg 4 rfl (Cf au Cs B4 rfl rfl ?_);obtain⟨ai,ay,az⟩:=bs ag;refine zg 1 rfl (BR (JZ (ao.Ai K) (ap.Ai K) (aq.Ai K) ay) rfl rfl Je aw ?_);rintro _ a4 _ aj ⟨a5,a6,a7,rfl,rfl,a8,aA⟩ aB;refine zg 4 rfl (CN aB FM fun a9 aC=>?_);refine zg 1 rfl (BT 4 aC Dq fun aD=>?_);refine Dr 4 aD rfl fun ba V aE ak=>zg 8 rfl (AM az (fun aF aG=>?_) (fun aF aH=>?_))
 ·refine zg 2 rfl (Ay (v:= .agg #[iV 0,iV 0]) rfl (fun ρ h=>De [(0,1),(1,1)] h Kj underlying81 ⟨rfl,Br type3,rfl,Br type3,trivial⟩ rfl rfl) ?_);refine zg 1 rfl (BT 2 ak Jf fun al=>?_);refine zg 2 rfl ?_;obtain rfl:=oi aG;refine JL.ret (v:= .tuple #[.agg #[iV 0,iV 0],iV ai.2.2]) rfl rfl (B6.list func61 rfl (vs:= [.agg #[iV 0,iV 0],iV ai.2.2]) ⟨⟨_,rfl,Ld.many (vs:= [iV 0,iV 0]) NH Jf (FN (off:=0) 2 al rfl rfl)⟩,rfl,trivial⟩) (HR 2 al rfl fun aI=>?_);exact ah ((K.Ab aj).Ab V) rfl ⟨rfl,rfl⟩ aI
 ·refine zg 3 rfl (JL.fl 1 aE underlying97 DF EJ ?_);obtain⟨bb,aJ,aK⟩:=bs aH;refine BJ (SV (aA.Ai V) aJ) rfl rfl (A3 func87 rfl) ak fun bc aL aM=>?_;obtain⟨bd,aN,aO⟩:=bs aK;refine BR (Iy aN) rfl rfl H9 aM ?_;rintro _ be _ aP ⟨bf,bg,rfl,rfl,am⟩ aQ;refine zg 3 rfl (DC 9 fun ht=>?_);refine Cz 0 ht rfl rfl ?_;obtain⟨O,aR,aS⟩:=bs aO;refine Ds 1 am aR ht underlying28 AN ?_;rintro bh bi _ rfl aT;refine CH 2 ht 0 aT Bq rfl rfl rfl rfl (Bh ht rfl [3,4] rfl ?_);refine Bw 5 ht rfl rfl (fun ρ h s' hs=>Yl.len rfl underlying28 (h _ _ rfl)) ?_;obtain⟨bj,aU,aV⟩:=bs aS;refine Bw 6 ht rfl rfl (fun ρ h s' hs=>Dc (h _ _ rfl) (h _ _ rfl) aU) ?_;obtain⟨U,aW,aX⟩:=bs aV;refine Ds 7 am aW ht underlying28 AN ?_;rintro bl bm _ rfl aY;refine CH 8 ht 0 aY Bq rfl rfl rfl rfl (Cg [9,10,11] ?_);refine Ay (v:= .agg #[iV O,iV U]) rfl (fun ρ h=>De [(0,1),(1,1)] h Kj underlying81 ⟨rfl,Br type3,rfl,Br type3,trivial⟩ rfl rfl) (BT 2 aQ Jf fun an=>?_);refine zg 2 rfl ?_;obtain rfl:=oi aX;refine JL.ret (v:= .tuple #[.agg #[iV O,iV U],iV 0]) rfl rfl (B6.list func61 rfl (vs:= [.agg #[iV O,iV U],iV 0]) ⟨⟨_,rfl,Ld.many (vs:= [iV O,iV U]) NH Jf (FN (off:=0) 2 an rfl rfl)⟩,rfl,trivial⟩) (HR 2 an rfl fun aZ=>?_);exact ah ((((K.Ab aj).Ab V).Ab aL).Ab aP) rfl ⟨rfl,rfl⟩ aZ
def f28(fuel:Nat)(p0:Bz)(p1:A6):Option (Int×Int):= (f78 fuel p0 p1 (-1) true).bind fun K=> some ((K.2.1.2.length:Int),K.2.2)
theorem SY{E:LH}{O:Ao}{c2:Nat}{U:Ao}{V:Nat}{W:Ao}{Z:Nat}{p0:Bz}{p1:A6}(ab:Ap (rL rI) E O c2 p0.1)(ae:Ap (rL rI) E U V p0.2)(ag:Ap BM E W Z p1){fuel:Nat}{r:Int×Int}(aa:f28 fuel p0 p1=some r):AU (DR Tryz.prog) 28 [.agg #[sV O p0.1 c2,sV U p0.2 V],sV W p1 Z] E [] (fun w E' B'=>w= .tuple #[iV r.1,iV r.2]∧B'= []):=by
 refine Bj func28 fun Q aw cs H ah ai=>?_;unfold f28 at aa;refine zg 2 rfl (Cy ah fun ay az K aj ak=>?_);refine zg 5 rfl (Cf aj Cs B4 rfl rfl ?_);obtain⟨aA,al,am⟩:=bs aa;refine zg 1 rfl (BR (JZ (ab.Ai K) (ae.Ai K) (ag.Ai K) al) rfl rfl Je ak ?_);rintro _ aB _ an ⟨aC,aD,aE,rfl,rfl,aF,aG⟩ ao;refine zg 4 rfl (CN ao FM fun aH ap=>?_);refine zg 1 rfl (BT 3 ap Dq fun aq=>?_);refine Dr 3 aq rfl fun aI ar au av=>zg 4 rfl (JL.fl 1 au underlying97 DF EJ ?_);refine Bo underlying95 rfl rfl rfl (zg 4 rfl ?_);obtain rfl:=oi am;exact AL func28 rfl rfl (ai ((K.Ab an).Ab ar) rfl ⟨rfl,rfl⟩ av)
def f30(fuel:Nat)(p0:Bz)(p1:A6):Option (Int×(List Int)×Int):= (f78 fuel p0 p1 (-1) false).bind fun K=> if K.2.2≠0 then(some (0,[],K.2.2)) else((ix K.2.1.2 (0)).bind fun O=> (ix K.2.1.2 (0)).bind fun U=> some (O.1,U.2.1,0))
theorem SN{E:LH}{U:Ao}{c2:Nat}{V:Ao}{W:Nat}{Z:Ao}{aa:Nat}{p0:Bz}{p1:A6}(am:Ap (rL rI) E U c2 p0.1)(an:Ap (rL rI) E V W p0.2)(ao:Ap BM E Z aa p1){fuel:Nat}{r:Int×(List Int)×Int}(ab:f30 fuel p0 p1=some r):AU (DR Tryz.prog) 30 [.agg #[sV U p0.1 c2,sV V p0.2 W],sV Z p1 aa] E [] (fun w E' B'=>∃(ae:Ao) (ag:Nat),w= .tuple #[iV r.1,sV ae r.2.1 ag,iV r.2.2]∧B'= []∧Ap rI E' ae ag r.2.1):=by
 refine Bj func30 fun Q aM cs H ap ah=>?_;unfold f30 at ab;refine zg 2 rfl (Cy ap fun aN aO K aq ar=>?_);refine zg 6 rfl (Cf aq Cs B4 rfl rfl ?_);obtain⟨aP,au,av⟩:=bs ab;refine zg 1 rfl (BR (JZ (am.Ai K) (an.Ai K) (ao.Ai K) au) rfl rfl Je ar ?_);rintro _ aQ _ ai ⟨aR,aS,aT,rfl,rfl,aU,aj⟩ aw;refine zg 4 rfl (CN aw FM fun aV ay=>?_);refine zg 1 rfl (BT 3 ay Dq fun az=>?_);refine Dr 3 az rfl fun aW O ak al=>zg 8 rfl (AM av (fun aA aB=>?_) (fun aA aC=>?_))
 ·refine zg 7 rfl ?_;obtain rfl:=oi aB;exact AL func30 rfl rfl (ah ((K.Ab ai).Ab O) rfl ⟨none,0,rfl,rfl,Ap.nil⟩ al)
 ·refine zg 2 rfl (DC 11 fun ht=>?_);refine Ch 0 ht underlying97 DF rfl rfl rfl rfl (CH 1 ht 1 ak EJ rfl rfl rfl rfl ?_);obtain⟨aX,aD,aE⟩:=bs aC;refine Ds 2 (aj.Ai O) aD ht underlying95 Co ?_;rintro aY aZ _ ⟨_,_,rfl,rfl,⟨_,_,rfl,⟨a0,a1,rfl,a2⟩,rfl⟩⟩ aF;refine Ch 3 ht underlying104 AN rfl rfl rfl rfl (CH 4 ht 0 aF Bq rfl rfl rfl rfl ?_);refine Ch 5 ht underlying97 DF rfl rfl rfl rfl (CH 6 ht 1 ak EJ rfl rfl rfl rfl ?_);obtain⟨a3,aG,aH⟩:=bs aE;refine Ds 7 (aj.Ai O) aG ht underlying95 Co ?_;rintro a4 a5 _ ⟨_,_,rfl,rfl,⟨_,_,rfl,⟨aI,aJ,rfl,aK⟩,rfl⟩⟩ aL;refine Ch 8 ht underlying104 BS rfl rfl rfl rfl (CH 9 ht 1 aL C4 rfl rfl rfl rfl ?_);refine Cz 10 ht rfl rfl (Cg [11,12] ?_);refine zg 3 rfl ?_;obtain rfl:=oi aH;exact AL func30 rfl rfl (ah ((K.Ab ai).Ab O) rfl ⟨aI,aJ,rfl,rfl,aK⟩ al)
def Nf(fuel:Nat)(p2:Int)(O:(List Bx))(K:(List Int)×Int):Option (Bn ((List Int)×Int) ((List Int))):= if K.2<(O.length:Int) then((ix O K.2).bind fun U=> Option.bind (if U.2.1≤p2 then((room K.1 U.1).bind fun V=> some V) else(some K.1)) fun W=> (Av (K.2+1)).bind fun Z=> some (.more (W,Z))) else(some (.done K.1))
def f43(fuel:Nat)(p0:Bz)(p1:A6)(p2:Int):Option ((List Int)×Int):= (f69 fuel p0 p1).bind fun K=> if K≠0 then(some ([],K)) else((f101 fuel p2 0 4).bind fun U=> if U=true then(some ([],1)) else((f92 fuel p0).bind fun V=> (V).bind fun W=> (JR fuel W p1).bind fun Z=> Option.bind (iter (Nf fuel p2 Z) fuel ([],0)) fun O=> if(O.length:Int)=0 then(some ([],11)) else(some (O,0))))
theorem S4{E:LH}{aA:Ao}{c2:Nat}{aB:Ao}{aC:Nat}{aD:Ao}{aE:Nat}{p0:Bz}{p1:A6}{p2:Int}(aF:Ap (rL rI) E aA c2 p0.1)(aG:Ap (rL rI) E aB aC p0.2)(aH:Ap BM E aD aE p1){fuel:Nat}{r:(List Int)×Int}(aI:f43 fuel p0 p1 p2=some r):AU (DR Tryz.prog) 43 [.agg #[sV aA p0.1 c2,sV aB p0.2 aC],sV aD p1 aE,iV p2] E [] (fun w E' B'=>∃(aJ:Ao) (aK:Nat),w= .tuple #[sV aJ r.1 aK,iV r.2]∧B'= []∧Ap rI E' aJ aK r.1):=by
 refine Bj func43 fun Q b9 cs H a0 ab=>?_;unfold f43 at aI;refine zg 2 rfl (Cy a0 fun ca cb K aL a1=>?_);refine zg 6 rfl (Cf aL Cs B4 rfl rfl ?_);obtain⟨cc,a2,a3⟩:=bs aI;refine zg 1 rfl (BJ (Ln (aF.Ai K) (aG.Ai K) (aH.Ai K) a2) rfl rfl Kg a1 fun cd O aM=>?_);refine zg 7 rfl (AM a3 (fun a4 a5=>?_) (fun a4 a6=>?_))
 ·refine zg 6 rfl ?_;obtain rfl:=oi a5;exact AL func43 rfl rfl (ab (K.Ab O) rfl ⟨none,0,rfl,rfl,Ap.nil⟩ aM)
 ·obtain⟨ce,a7,a8⟩:=bs a6;refine zg 5 rfl (BJ (I2 a7) rfl rfl IL aM fun cf U aN=>?_);refine JL.done (BK a8 (fun a9 ba=>?_) (fun a9 bb=>?_))
  ·refine zg 5 rfl ?_;obtain rfl:=oi ba;exact AL func43 rfl rfl (ab ((K.Ab O).Ab U) rfl ⟨none,0,rfl,rfl,Ap.nil⟩ aN)
  ·refine zg 8 rfl (Cf (aL.Ai (O.Ab U)) Cs B4 rfl rfl ?_);obtain⟨cg,bc,bd⟩:=bs bb;refine BR (Nl (aF.Ai ((K.Ab O).Ab U)) (aG.Ai ((K.Ab O).Ab U)) bc) rfl rfl LV aN ?_;rintro ci ck _ an ⟨_,rfl,rfl,be⟩ bf;obtain⟨cm,bg,bh⟩:=bs bd;have aO:=be;refine zg 1 rfl ?_;rw [bg] at aO;obtain⟨cn,co,_,rfl,bi,⟨_,_,rfl,⟨cp,cq,rfl,bj⟩,⟨_,cr,rfl,⟨ct,cu,rfl,bl⟩,bm⟩⟩⟩:=aO;obtain⟨ae,bn,bo⟩:=bs bh;refine BR (Qx bi bj bl bm (aH.Ai (((K.Ab O).Ab U).Ab an)) bn) rfl rfl (A3 func102 rfl) bf ?_;rintro _ ao _ aP ⟨aQ,aR,rfl,rfl,bp⟩ bq;refine Bo underlying130 rfl rfl rfl ?_;obtain⟨aS,br,bu⟩:=bs bo;refine zg 2 rfl (Bs (fun L s=>∃(ap:LH) (ag:Ao) (ah:Nat) (aq:Seg),Jn ao H ap [aq] [(9,sV ag aS ah)] L s (OL 3 rI ap ag ah aq aS)) ?_ ?_)
   ·rintro _ _ ⟨ap,ag,ah,aq,rfl,rfl,aT,aU,bv⟩;refine zg 4 rfl (Bo underlying28 rfl rfl rfl ?_);refine zg 2 rfl (AM bu (fun bw bx=>?_) (fun bw bz=>?_))
    ·refine zg 5 rfl (JS.drop 0 aU rfl fun bA=>?_);obtain rfl:=oi bx;exact AL func43 rfl rfl (ab (((((K.Ab O).Ab U).Ab an).Ab aP).Ab aT) rfl ⟨none,0,rfl,rfl,Ap.nil⟩ bA)
    ·refine zg 7 rfl (Cc 0 bv aU rfl fun cv bB bC bD=>?_);obtain rfl:=oi bz;exact AL func43 rfl rfl (ab ((((((K.Ab O).Ab U).Ab an).Ab aP).Ab aT).Ab bB) rfl ⟨ag,ah,rfl,rfl,bC⟩ bD)
   ·intro bE;refine JL.block (CE br (fun L s Z=>∃(ai:LH) (V:Ao) (W:Nat) (aa:Seg),Jn ao H ai [aa] [(2,iV p2),(9,sV V Z.1 W),(23,sV aQ ae aR),(24,iV (ae.length:Int)),(25,iV Z.2)] L s (OL 3 rI ai V W aa Z.1)) ⟨ao,none,0,[],rfl,rfl,Aq,bq,OL.nil⟩ ?_);rintro _ _ Z ⟨ai,V,W,aa,rfl,rfl,ar,aV,au⟩ bF ⟨cw,av⟩ bG;have aW:=av;unfold Nf at aW;refine zg 5 rfl (AM aW (fun bH bI=>?_) (fun bH bJ=>?_))
    ·obtain⟨bK,bL,bM⟩:=bs bI;refine zg 5 rfl (B5 (bp.Ai ar) bL underlying130 AS ?_);rintro cy cz _ ⟨_,_,rfl,rfl,⟨_,_,rfl,rfl,⟨cA,cB,rfl,cC⟩⟩⟩ bN;refine Cf bN Cn AS rfl rfl (CN aV H8 fun cD bO=>?_);refine BT 1 bO AS fun bP=>?_;refine Dr 1 bP rfl fun aw ay aX aY=>zg 3 rfl (BL underlying133 Dq rfl rfl rfl ?_);refine JL.fl 1 aX underlying97 AN Bq ?_;obtain⟨az,bQ,bR⟩:=bs bM;refine zg 3 rfl (Bs (fun L s=>∃(aj:LH) (ak:Ao) (al:Nat) (am:Seg),Jn aw H aj [am] [(2,iV p2),(9,sV ak az al),(23,sV aQ ae aR),(24,iV (ae.length:Int)),(25,iV Z.2)] L s (OL 3 rI aj ak al am az)) ?_ ?_)
     ·rintro _ _ ⟨aj,ak,al,am,rfl,rfl,bS,bT,bU⟩;obtain⟨bV,bW,bY⟩:=bs bR;refine zg 2 rfl (A9 bW rfl rfl rfl ?_);refine zg 2 rfl ?_;obtain rfl:=oi bY;exact Aw (bG _ _ (az,bV) ⟨aj,ak,al,am,rfl,rfl,((ar.Ab ay).Ab bS),bT,bU⟩ av) rfl
     ·intro aZ;refine AM bQ (fun bZ b0=>?_) (fun bZ b1=>?_)
      ·refine zg 2 rfl (JL.fl 0 aX underlying133 AN Bq ?_);obtain⟨cE,b2,b3⟩:=bs b0;refine JS.app (pp:=rI) (v:=iV bK.1) (a:=V) (c:=W) 0 b2 rfl rfl rfl rfl (fun _=>rfl) rfl (fun _=>rfl) rfl rfl rfl underlying28 underlying28 underlying28 AN (Cu type3) Cp rfl (by decide) (by decide) (by decide) (by decide) (au.Ai ay) rfl aY rfl fun cF b4 b5 b6 b7 b8=>zg 2 rfl ?_;obtain rfl:=oi b3;exact Aw (aZ _ _ ⟨aw,b4,b5,b6,rfl,rfl,Aq,b8,b7⟩) rfl
      ·refine JL.skip ?_;obtain rfl:=oi b1;exact Aw (aZ _ _ ⟨aw,V,W,aa,rfl,rfl,Aq,aY,(au.Ai ay)⟩) rfl
    ·refine JL.exit rfl ?_;obtain rfl:=oi bJ;obtain rfl:=bF _ av;exact Aw (bE _ _ ⟨ai,V,W,aa,rfl,rfl,ar,aV,au⟩) rfl
end Pal
namespace Pal
open Go Go.Conc Go.Proofs
open Go.Proofs.Tryz
variable {J:Judge Tryz.prog}{E:LH}
def Ng(fuel:Nat)(p0:A6):Option ((A6)):= (Dy ([]:A6) p0).bind fun K=> some K
theorem Wc{ad:Addr}{c2:Nat}{p0:A6}(V:Ap BM E (some ad) c2 p0){fuel:Nat}{r:(A6)}(K:Ng fuel p0=some r):AU J 123 [.slice (some ad) p0.length c2] E [] (fun w E' B'=>∃(O:Ao) (U:Nat) (g0:Seg),w= sV O r U∧B'=g0∧OL 27 BM E' O U g0 r):=by
 refine Bj func123 fun Q am cs H W Z=>?_;unfold Ng at K;refine zg 8 rfl (Ay (v:= .bool false) rfl (fun ρ h=>Mb (a:=(some ad)) underlying25 (h _ _ rfl) (h _ _ rfl)) ?_);refine zg 5 rfl (Ox (pp:=BM) rfl rfl rfl underlying25 C5 W fun an g2 aa ab=>?_);obtain⟨ao,ae,ag⟩:=bs K;refine zg 1 rfl (KN (pp:=BM) 1 ae rfl rfl rfl rfl rfl rfl rfl underlying25 underlying25 C5 (Cu type27) Gk rfl (by decide) (by decide) aa V ab rfl fun ah ai aj ak al=>?_);refine zg 2 rfl ?_;obtain rfl:=oi ag;exact AL func123 rfl rfl (Z Aq rfl ⟨ah,ai,aj,rfl,(by first | rfl | simp | (simp [Value.cells])),ak⟩ al)
def S3(fuel:Nat)(p0:A6):Option ((A6)):= some ([])
theorem Ws{c2:Nat}{p0:A6}(Z:Ap BM E none c2 p0){fuel:Nat}{r:(A6)}(K:S3 fuel p0=some r):AU J 123 [sV none p0 c2] E [] (fun w E' B'=>∃(O:Ao) (U:Nat) (g0:Seg),w= sV O r U∧B'=g0∧OL 27 BM E' O U g0 r):=by
 refine Bj func123 fun Q aa cs H V W=>?_;unfold S3 at K;refine zg 8 rfl (Ay (v:= .bool true) rfl (fun ρ h=>Mb (a:=none) underlying25 (h _ _ rfl) (h _ _ rfl)) ?_);refine zg 6 rfl ?_;obtain rfl:=oi K;exact AL func123 rfl rfl (W Aq rfl ⟨none,0,[],rfl,rfl,OL.nil⟩ V)
def f123(fuel:Nat)(p0:A6):Option A6:=Ng fuel p0
theorem Xq{O:Ao}{c2:Nat}{p0:A6}(U:Ap BM E O c2 p0){fuel:Nat}{r:A6}(K:f123 fuel p0=some r):AU J 123 [.slice O p0.length c2] E [] (fun w E' B'=>∃(V:Ao) (W:Nat) (g0:Seg),w= .slice V r.length W∧B'=g0∧OL 27 BM E' V W g0 r):=by
 cases O with
 | some ad=>exact Wc U K
 | none=>
  have Z:p0= []:=by
   rcases U.2 with h | ⟨_,_,h,_⟩
   ·exact h.1
   ·cases h
  subst Z;have aa:r= []:=by
   have ab:Ng fuel []=some []:=rfl;unfold f123 at K;rw [ab] at K;exact(Option.some.inj K).symm
  subst aa;exact Ws (fuel:=fuel) U rfl
end Pal
namespace Pal
open Go Go.Conc Go.Proofs
open Go.Proofs.Tryz
variable {J:Judge Tryz.prog}{E:LH}
def f125(fuel:Nat)(p0:Int×Int)(p1:Int×Int):Option Int:= (Av (p0.1 - p1.1)).bind fun K=> some K
theorem XN{p0:Int×Int}{p1:Int×Int}{fuel:Nat}{r:Int}(K:f125 fuel p0 p1=some r):AU J 125 [.agg #[iV p0.1,iV p0.2],.agg #[iV p1.1,iV p1.2]] E [] (fun w E' B'=>w=iV r∧B'= []):=by
 refine Bj func125 fun Q ai cs H U V=>?_;unfold f125 at K;refine zg 2 rfl (Cy U fun aj ak W Z aa=>?_);refine Cy aa fun al am O ab ae=>?_;refine zg 4 rfl (JL.fl 0 (Z.Ai O) underlying27 AN Bq ?_);refine JL.fl 0 ab underlying27 AN Bq ?_;obtain⟨an,ag,ah⟩:=bs K;refine Cd ag rfl rfl rfl (zg 2 rfl ?_);obtain rfl:=oi ah;exact AL func125 rfl rfl (V (W.Ab O) rfl ⟨rfl,rfl⟩ ae)
def RH(fuel:Nat)(p1:Int)(K:Int×(A6)):Option (Bn (Int×(A6)) ((A6))):= Option.bind (if p1<K.1 then((ix K.2 K.1).bind fun V=> (Av (K.1 - 1)).bind fun W=> (ix K.2 W).bind fun Z=> (f125 fuel V Z).bind fun aa=> some (decide (aa<0))) else(some false)) fun ab=> if ab=true then((Av (K.1 - 1)).bind fun O=> (Av (K.1 - 1)).bind fun ae=> (ix K.2 ae).bind fun U=> (ix K.2 K.1).bind fun ag=> (ix (K.2.set (Int.toNat K.1) U) O).bind fun ai=> (Av (K.1 - 1)).bind fun ah=> some (.more (ah,((K.2.set (Int.toNat K.1) U).set (Int.toNat O) ag)))) else(some (.done K.2))
def Q7(fuel:Nat)(p1:Int)(p2:Int)(K:Int×(A6)):Option (Bn (Int×(A6)) ((A6))):= if K.1<p2 then(Option.bind (iter (RH fuel p1) fuel K) fun O=> (Av (K.1+1)).bind fun U=> some (.more (U,O))) else(some (.done K.2))
def f168(fuel:Nat)(p0:A6)(p1:Int)(p2:Int):Option ((A6)):= (Av (p1+1)).bind fun K=> Option.bind (iter (Q7 fuel p1 p2) fuel (K,p0)) fun O=> some O
theorem Sj{K:Nat}{U:Nat}{V:Nat}{aq:AA}{p0:A6}{p1:Int}{p2:Int}(hW:WL 27 BM E K U V aq p0){fuel:Nat}{r:(A6)}(az:f168 fuel p0 p1 p2=some r):AU J 168 [.slice (A2 K) V U,iV p1,iV p2,(fV 125)] E [(K,.cells aq 27 (0,0))] (fun w E' B'=>∃(aA:AA),w= .tuple #[]∧B'= [(K,.cells aA 27 (0,0))]∧WL 27 BM E' K U V aA r):=by
 refine Bj func168 fun Q bQ cs H aP aQ=>?_;unfold f168 at az;obtain⟨bR,aR,aS⟩:=bs az;refine zg 3 rfl (A9 aR rfl rfl rfl ?_);obtain⟨aT,aU,aV⟩:=bs aS;refine zg 2 rfl (Bs (fun L s=>∃(ar:LH) (f17:AA),Jn E H ar [bX K f17 27] [] L s (WL 27 BM ar K U V f17 aT)) ?_ ?_)
 ·rintro _ _ ⟨ar,f17,rfl,rfl,aW,aX,aY⟩;obtain rfl:=oi aV;exact JL.fin (v:= .tuple #[]) rfl rfl (B6.list func168 rfl (vs:= []) trivial) (aQ aW rfl ⟨f17,rfl,(by first | rfl | simp | (simp [Value.cells])),aY⟩ aX)
 ·intro aZ;refine JL.block (CE aU (fun L s ae=>∃(ab:LH) (f25:AA),Jn E H ab [bX K f25 27] [(0,.slice (A2 K) V U),(1,iV p1),(2,iV p2),(3,(fV 125)),(8,iV ae.1)] L s (WL 27 BM ab K U V f25 ae.2)) ⟨E,aq,rfl,rfl,Aq,aP,hW⟩ ?_);rintro _ _ ae ⟨ab,f25,rfl,rfl,aB,aC,aD⟩ a0 ⟨bS,au⟩ a1;have aE:=au;unfold Q7 at aE;refine zg 7 rfl (AM aE (fun a2 a3=>?_) (fun a2 a4=>?_))
  ·obtain⟨aF,a5,a6⟩:=bs a3;refine zg 8 rfl (Bs (fun L s=>∃(ak:LH) (f48:AA),Jn ab H ak [bX K f48 27] [(0,.slice (A2 K) V U),(1,iV p1),(2,iV p2),(3,(fV 125)),(8,iV ae.1)] L s (WL 27 BM ak K U V f48 aF)) ?_ ?_)
   ·rintro _ _ ⟨ak,f48,rfl,rfl,a7,a8,a9⟩;obtain⟨ba,bb,bc⟩:=bs a6;refine zg 3 rfl (A9 bb rfl rfl rfl ?_);refine zg 2 rfl ?_;obtain rfl:=oi bc;exact Aw (a1 _ _ (ba,aF) ⟨ak,f48,rfl,rfl,(aB.Ab a7),a8,a9⟩ au) rfl
   ·intro bd;refine JL.block (CE a5 (fun L s W=>∃(ah:LH) (f58:AA),Jn ab H ah [bX K f58 27] [(0,.slice (A2 K) V U),(1,iV p1),(2,iV p2),(3,(fV 125)),(8,iV ae.1),(9,iV W.1)] L s (WL 27 BM ah K U V f58 W.2)) ⟨ab,f25,rfl,rfl,Aq,aC,aD⟩ ?_);rintro _ _ W ⟨ah,f58,rfl,rfl,aG,ai,O⟩ be ⟨bT,av⟩ bf;have aH:=av;unfold RH at aH;refine zg 2 rfl (DI 17 [K] ⟨⟨0,_,rfl⟩,trivial⟩ ai fun ht=>?_);refine Bh ht rfl [0,1,2,3] rfl ?_;obtain⟨bg,aI,bh⟩:=bs aH;refine FR 0 #[true,true,true,true,true,true,true,true,true,true,true,true,true,true,true,true,true] (fun L s=>∃(al:LH),Jm ah H al [bX K f58 27] [(0,.slice (A2 K) V U),(1,iV p1),(2,iV p2),(3,(fV 125)),(8,iV ae.1),(9,iV W.1),(34,.bool bg)] L s) ?_ ?_
    ·rintro _ _ ⟨al,rfl,rfl,ag,am⟩;refine AV.fin (by decide+kernel) (BK bh (fun bi bj=>?_) (fun bi bl=>?_))
     ·refine zg 3 rfl (G3 [15,17] [K] mixed rfl ?_);refine Bt 0 rfl rfl (Bt 1 rfl rfl ?_);refine Bt 2 rfl rfl (Bt 3 rfl rfl ?_);obtain⟨aJ,bm,bn⟩:=bs bj;refine GM 4 true rfl rfl (fun ρ h s' hs=>Dc (h _ _ rfl) (h _ _ rfl) bm) (Bt 5 rfl rfl ?_);refine Bt 6 rfl rfl ?_;obtain⟨bU,bo,bp⟩:=bs bn;refine GM 7 true rfl rfl (fun ρ h s' hs=>Dc (h _ _ rfl) (h _ _ rfl) bo) ?_;obtain⟨Z,aK,bq⟩:=bs bp;obtain⟨_,⟨_,_,rfl,rfl,rfl⟩,br⟩:=WL.at (O.Ai ag) aK;refine Cw 8 O.2 aK underlying25 C5 ?_;refine En 9 [iV Z.1,iV Z.2] 0 am br IK C5 ?_;refine Bt 10 rfl rfl (Bt 11 rfl rfl ?_);obtain⟨aa,an,bu⟩:=bs bq;obtain⟨_,⟨_,_,rfl,rfl,rfl⟩,bv⟩:=WL.at (O.Ai ag) an;refine Cw 12 O.2 an underlying25 C5 ?_;refine En 13 [iV aa.1,iV aa.2] 0 am bv IK C5 ?_;refine Cw 14 O.2 an underlying25 C5 ?_;have aj:=WL.put (x':=Z) (ws':= [iV Z.1,iV Z.2]) (O.Ai ag) O.2 an ⟨_,_,rfl,rfl,rfl⟩;refine Em 15 0 am C5 aj.2 fun bw=>?_;obtain⟨bV,aw,bx⟩:=bs bu;obtain⟨_,⟨_,_,rfl,rfl,rfl⟩,bW⟩:=WL.at aj.1 aw;refine Cw 16 (aj.1).2 aw underlying25 C5 ?_;have aL:=WL.put (x':=aa) (ws':= [iV aa.1,iV aa.2]) aj.1 (aj.1).2 aw ⟨_,_,rfl,rfl,rfl⟩;refine Em 17 0 bw C5 aL.2 fun bz=>?_;refine JB.fin (by decide+kernel) ?_;obtain⟨bA,bB,bC⟩:=bs bx;refine zg 3 rfl (Cd bB rfl rfl rfl ?_);refine zg 2 rfl ?_;obtain rfl:=oi bC;exact Aw (bf _ _ (bA,((W.2.set (Int.toNat W.1) Z).set (Int.toNat aJ) aa)) ⟨al,(A4 (A4 f58 (Int.toNat (W.1)*2) [iV Z.1,iV Z.2]) (Int.toNat (aJ)*2) [iV aa.1,iV aa.2]),rfl,rfl,(aG.Ab ag),bz,aL.1⟩ av) rfl
     ·refine JL.exit rfl ?_;obtain rfl:=oi bl;obtain rfl:=be _ av;exact Aw (bd _ _ ⟨al,f58,rfl,rfl,(aG.Ab ag),am,(O.Ai ag)⟩) rfl
    ·intro aM;refine FO (q:=p1<W.1) (i:=21) rfl (fun ay=>?_) (fun ay=>?_)
     ·have bD:=ip aI ay;refine Bh ht rfl [4,5,6] rfl ?_;obtain⟨ao,aN,bE⟩:=bs bD;obtain⟨_,⟨_,_,rfl,rfl,rfl⟩,bF⟩:=WL.at O aN;refine Gb 7 ht (O).2 aN underlying25 C5 ?_;refine Ed 8 ht [iV ao.1,iV ao.2] 0 ai bF IK C5 ?_;refine Bh ht rfl [9,10] rfl ?_;obtain⟨bY,bG,bH⟩:=bs bE;refine Bw 11 ht rfl rfl (fun ρ h s' hs=>Dc (h _ _ rfl) (h _ _ rfl) bG) ?_;obtain⟨ap,aO,bI⟩:=bs bH;obtain⟨_,⟨_,_,rfl,rfl,rfl⟩,bJ⟩:=WL.at O aO;refine Gb 12 ht (O).2 aO underlying25 C5 ?_;refine Ed 13 ht [iV ap.1,iV ap.2] 0 ai bJ IK C5 ?_;obtain⟨bZ,bK,bL⟩:=bs bI;refine HM (i:=14) ⟨⟨0,_,rfl⟩,trivial⟩ (vs:= [.agg #[iV ao.1,iV ao.2],.agg #[iV ap.1,iV ap.2]]) (XN bK) (by decide+kernel) rfl rfl rfl rfl (A3 func125 rfl) rfl ai ?_;rintro _ bM _ bN ⟨rfl,rfl⟩ bO;refine Bh ht rfl [15,16] rfl ?_;obtain rfl:=oi bL;refine Dg ?_ (aM _ _ ⟨bM,rfl,rfl,bN,bO⟩);exact⟨rfl,rfl,rfl,rfl,rfl,rfl,rfl,trivial⟩
     ·have bP:=im aI ay;refine Bh ht rfl [4,5,6,7,8,9,10,11,12,13,14,15,16] rfl ?_;obtain rfl:=oi bP;refine Dg ?_ (aM _ _ ⟨ah,rfl,rfl,Aq,ai⟩);exact⟨rfl,rfl,rfl,rfl,rfl,rfl,rfl,trivial⟩
  ·refine JL.exit rfl ?_;obtain rfl:=oi a4;obtain rfl:=a0 _ au;exact Aw (aZ _ _ ⟨ab,f25,rfl,rfl,aB,aC,aD⟩) rfl
def Ra(fuel:Nat)(p1:Int)(K:Int×Int×(A6)):Option (Bn (Int×Int×(A6)) (Int×(A6))):= if K.2.1≤p1 then((f168 fuel K.2.2 K.1 K.2.1).bind fun O=> (Av (K.2.1+20)).bind fun U=> some (.more (K.2.1,U,O))) else(some (.done (K.1,K.2.2)))
def Rs(fuel:Nat)(p1:Int)(K:Int)(O:Int)(U:Unit):Option (Bn Unit Unit):= if O≤p1 then((Av (0+K)).bind fun V=> none) else(some (.done ()))
def Rx(fuel:Nat)(p1:Int)(K:Int):Option (Bn Int Unit):= if K<p1 then((Av (2*K)).bind fun O=> Option.bind (iter (Rs fuel p1 K O) fuel ()) fun W=> (Av (0+K)).bind fun U=> Option.bind (if U<p1 then(none) else(some ())) fun Z=> (Av (K*2)).bind fun V=> some (.more V)) else(some (.done ()))
def f138(fuel:Nat)(p0:A6)(p1:Int):Option ((A6)):= Option.bind (iter (Ra fuel p1) fuel (0,20,p0)) fun K=> (f168 fuel K.2 K.1 p1).bind fun O=> Option.bind (iter (Rx fuel p1) fuel 20) fun U=> some O
theorem XR{K:Nat}{O:Nat}{U:Nat}{aa:AA}{p0:A6}{p1:Int}(hW:WL 27 BM E K O U aa p0){fuel:Nat}{r:(A6)}(ah:f138 fuel p0 p1=some r):AU J 138 [.slice (A2 K) U O,iV p1,(fV 125)] E [(K,.cells aa 27 (0,0))] (fun w E' B'=>∃(ai:AA),w= .tuple #[]∧B'= [(K,.cells ai 27 (0,0))]∧WL 27 BM E' K O U ai r):=by
 refine Bj func138 fun Q bG cs H ay az=>?_;unfold f138 at ah;obtain⟨aj,aA,aB⟩:=bs ah;refine zg 11 rfl (Bs (fun L s=>∃(ab:LH) (f15:AA),Jn E H ab [bX K f15 27] [(0,.slice (A2 K) U O),(1,iV p1),(2,(fV 125)),(6,iV 20),(7,iV aj.1)] L s (WL 27 BM ab K O U f15 aj.2)) ?_ ?_)
 ·rintro _ _ ⟨ab,f15,rfl,rfl,aC,aD,aE⟩;obtain⟨bH,aF,aG⟩:=bs aB;refine zg 6 rfl (B8 0 (Sj aE aF) rfl rfl LR aD rfl ?_);rintro _ bI _ aH ⟨f23,rfl,rfl,aI⟩ aJ;obtain⟨bJ,aK,aL⟩:=bs aG;refine JL.done (CM [bX K f23 27] [] (fun bK ak aM=>?_) (fun aN=>?_))
  ·obtain rfl:=oi aL;exact JL.fin (v:= .tuple #[]) rfl rfl (B6.list func138 rfl (vs:= []) trivial) (az ((aC.Ab aH).Ab ak) rfl ⟨f23,rfl,(by first | rfl | simp | (simp [Value.cells])),(aI.Ai ak)⟩ aM)
  ·refine JL.block (CO aK (fun V=> [bX K f23 27]) (fun V=> [(0,.slice (A2 K) U O),(1,iV p1),(2,(fV 125)),(6,iV V)]) Aq aJ ?_);rintro V bL al am aO ⟨bM,ae⟩ aP;have an:=ae;unfold Rx at an;refine zg 7 rfl (AM an (fun aQ aR=>?_) (fun aQ aS=>?_))
   ·obtain⟨aT,aU,aV⟩:=bs aR;refine zg 5 rfl (Ay rfl (fun ρ h=>IW (h _ _ rfl) (h _ _ rfl) aU) ?_);obtain⟨bN,aW,aX⟩:=bs aV;refine zg 4 rfl (CM [bX K f23 27] [(0,.slice (A2 K) U O),(1,iV p1),(2,(fV 125)),(6,iV V),(7,iV 0)] (fun bO aY aZ=>?_) (fun a0=>?_))
    ·obtain⟨bP,a1,a2⟩:=bs aX;refine zg 5 rfl (A9 a1 rfl rfl rfl ?_);obtain⟨bQ,a3,a4⟩:=bs a2;refine zg 8 rfl (CM [bX K f23 27] [(0,.slice (A2 K) U O),(1,iV p1),(2,(fV 125)),(6,iV V)] (fun bR a5 a6=>?_) (fun a7=>?_))
     ·obtain⟨a8,a9,ba⟩:=bs a4;refine zg 2 rfl (Ay rfl (fun ρ h=>IW (h _ _ rfl) (h _ _ rfl) a9) ?_);refine zg 3 rfl ?_;obtain rfl:=oi ba;exact aP a8 ((al.Ab aY).Ab a5) a6 rfl ae
     ·refine AM a3 (fun bb bc=>?_) (fun bb bd=>?_)
      ·refine zg 6 rfl ?_;cases bc
      ·refine JL.skip ?_;obtain rfl:=oi bd;exact a7 Aq aZ rfl
    ·refine JL.block (CO aW (fun ao=> [bX K f23 27]) (fun ao=> [(0,.slice (A2 K) U O),(1,iV p1),(2,(fV 125)),(6,iV V),(7,iV 0),(8,iV aT)]) Aq am ?_);rintro ao bS be bf bg ⟨bT,ap⟩ bU;have aq:=ap;unfold Rs at aq;refine zg 7 rfl (AM aq (fun bh bi=>?_) (fun bh bj=>?_))
     ·obtain⟨bV,bl,bm⟩:=bs bi;refine zg 8 rfl (A9 bl rfl rfl rfl ?_);refine zg 2 rfl ?_;cases bm
     ·refine JL.exit rfl ?_;obtain rfl:=oi bj;obtain rfl:=bg _ ap;exact a0 be bf rfl
   ·refine JL.exit rfl ?_;obtain rfl:=oi aS;obtain rfl:=aO _ ae;exact aN al am rfl
 ·intro bn;refine JL.block (CE aA (fun L s W=>∃(Z:LH) (f104:AA),Jn E H Z [bX K f104 27] [(0,.slice (A2 K) U O),(1,iV p1),(2,(fV 125)),(6,iV 20),(7,iV W.1),(8,iV W.2.1)] L s (WL 27 BM Z K O U f104 W.2.2)) ⟨E,aa,rfl,rfl,Aq,ay,hW⟩ ?_);rintro _ _ W ⟨Z,f104,rfl,rfl,ar,au,av⟩ bo ⟨bW,ag⟩ bp;have aw:=ag;unfold Ra at aw;refine zg 7 rfl (AM aw (fun bq br=>?_) (fun bq bu=>?_))
  ·obtain⟨bv,bw,bx⟩:=bs br;refine zg 8 rfl (B8 0 (Sj av bw) rfl rfl LR au rfl ?_);rintro _ bz _ bA ⟨f119,rfl,rfl,bB⟩ bC;obtain⟨bD,bE,bF⟩:=bs bx;refine zg 9 rfl (A9 bE rfl rfl rfl ?_);refine zg 3 rfl ?_;obtain rfl:=oi bF;exact Aw (bp _ _ (W.2.1,bD,bv) ⟨bz,f119,rfl,rfl,(ar.Ab bA),bC,bB⟩ ag) rfl
  ·refine JL.exit rfl ?_;obtain rfl:=oi bu;obtain rfl:=bo _ ag;exact Aw (bn _ _ ⟨Z,f104,rfl,rfl,ar,au,av⟩) rfl
def f124(fuel:Nat)(p0:A6):Option ((A6)):= (f138 fuel p0 (p0.length:Int)).bind fun K=> some K
theorem Xu{K:Nat}{O:Nat}{U:Nat}{V:AA}{p0:A6}(hW:WL 27 BM E K O U V p0){fuel:Nat}{r:(A6)}(W:f124 fuel p0=some r):AU J 124 [.slice (A2 K) U O,(fV 125)] E [(K,.cells V 27 (0,0))] (fun w E' B'=>∃(Z:AA),w= .tuple #[]∧B'= [(K,.cells Z 27 (0,0))]∧WL 27 BM E' K O U Z r):=by
 refine Bj func124 fun Q ak cs H aa ab=>?_;unfold f124 at W;refine zg 3 rfl (Ay (v:=iV (p0.length:Int)) rfl (fun ρ h=>RA (hW).2 rfl underlying25 (h _ _ rfl)) ?_);obtain⟨al,ae,ag⟩:=bs W;refine zg 1 rfl (B8 0 (XR hW ae) rfl rfl (A3 func138 rfl) aa rfl ?_);rintro _ am _ ah ⟨f7,rfl,rfl,ai⟩ aj;refine JL.done ?_;obtain rfl:=oi ag;exact JL.fin (v:= .tuple #[]) rfl rfl (B6.list func124 rfl (vs:= []) trivial) (ab ah rfl ⟨f7,rfl,(by first | rfl | simp | (simp [Value.cells])),ai⟩ aj)
def Q5(fuel:Nat)(p1:Int)(K:Int)(U:Unit):Option (Bn Unit Unit):= Option.bind (if p1<K then(none) else(some false)) fun O=> if O=true then((Av (K - 1)).bind fun V=> (Av (K - 1)).bind fun W=> none) else(some (.done ()))
def QO(fuel:Nat)(p1:Int)(p2:Int)(K:Int):Option (Bn Int Unit):= if K<p2 then(Option.bind (iter (Q5 fuel p1 K) fuel ()) fun U=> (Av (K+1)).bind fun O=> some (.more O)) else(some (.done ()))
def Nq(fuel:Nat)(p1:Int)(p2:Int):Option Unit:= (Av (p1+1)).bind fun K=> Option.bind (iter (QO fuel p1 p2) fuel K) fun O=> some ()
theorem RO{p1:Int}{p2:Int}{fuel:Nat}{r:Unit}(V:Nq fuel p1 p2=some r):AU J 168 [nS,iV p1,iV p2,(fV 125)] E [] (fun w E' B'=>w= .tuple #[]∧B'= []):=by
 refine Bj func168 fun Q a0 cs H ak al=>?_;unfold Nq at V;obtain⟨a1,am,an⟩:=bs V;refine zg 3 rfl (A9 am rfl rfl rfl ?_);obtain⟨a2,ao,ap⟩:=bs an;refine zg 2 rfl (CM [] [] (fun a3 aq ar=>?_) (fun au=>?_))
 ·obtain rfl:=oi ap;exact JL.fin (v:= .tuple #[]) rfl rfl (B6.list func168 rfl (vs:= []) trivial) (al aq rfl ⟨rfl,rfl⟩ ar)
 ·refine JL.block (CO ao (fun K=> []) (fun K=> [(0,.slice none 0 0),(1,iV p1),(2,iV p2),(3,(fV 125)),(8,iV K)]) Aq ak ?_);rintro K a4 W Z av ⟨a5,O⟩ aw;have aa:=O;unfold QO at aa;refine zg 7 rfl (AM aa (fun ay az=>?_) (fun ay aA=>?_))
  ·obtain⟨a6,aB,aC⟩:=bs az;refine zg 8 rfl (CM [] [(0,.slice none 0 0),(1,iV p1),(2,iV p2),(3,(fV 125)),(8,iV K)] (fun a7 aD aE=>?_) (fun aF=>?_))
   ·obtain⟨aG,aH,aI⟩:=bs aC;refine zg 3 rfl (A9 aH rfl rfl rfl ?_);refine zg 2 rfl ?_;obtain rfl:=oi aI;exact aw aG (W.Ab aD) aE rfl O
   ·refine JL.block (CO aB (fun ab=> []) (fun ab=> [(0,.slice none 0 0),(1,iV p1),(2,iV p2),(3,(fV 125)),(8,iV K),(9,iV K)]) Aq Z ?_);rintro ab ae aJ aK aL ⟨a8,ag⟩ a9;have ah:=ag;unfold Q5 at ah;refine zg 2 rfl (DC 17 fun ht=>?_);refine Bh ht rfl [0,1,2,3] rfl ?_;obtain⟨aM,ai,aN⟩:=bs ah;refine FR 0 #[true,true,true,true,true,true,true,true,true,true,true,true,true,true,true,true,true] (fun L s=>∃(aj:LH),Jm ae H aj [] [(0,.slice none 0 0),(1,iV p1),(2,iV p2),(3,(fV 125)),(8,iV K),(9,iV K),(34,.bool aM)] L s) ?_ ?_
    ·rintro _ _ ⟨aj,rfl,rfl,aO,aP⟩;refine AV.fin (by decide+kernel) (BK aN (fun aQ aR=>?_) (fun aQ aS=>?_))
     ·refine zg 3 rfl (DC 16 fun ht=>?_);refine Bh ht rfl [0,1,2,3] rfl ?_;obtain⟨ba,aT,aU⟩:=bs aR;refine Bw 4 ht rfl rfl (fun ρ h s' hs=>Dc (h _ _ rfl) (h _ _ rfl) aT) (Bh ht rfl [5,6] rfl ?_);obtain⟨bb,aV,aW⟩:=bs aU;refine Bw 7 ht rfl rfl (fun ρ h s' hs=>Dc (h _ _ rfl) (h _ _ rfl) aV) ?_;cases aW
     ·refine JL.exit rfl ?_;obtain rfl:=oi aS;obtain rfl:=aL _ ag;exact aF (aJ.Ab aO) aP rfl
    ·intro aX;refine FO (q:=p1<K) (i:=21) rfl (fun U=>?_) (fun U=>?_)
     ·have aY:=ip ai U;refine Bh ht rfl [4,5,6] rfl ?_;cases aY
     ·have aZ:=im ai U;refine Bh ht rfl [4,5,6,7,8,9,10,11,12,13,14,15,16] rfl ?_;obtain rfl:=oi aZ;refine Dg ?_ (aX _ _ ⟨ae,rfl,rfl,Aq,aK⟩);exact⟨rfl,rfl,rfl,rfl,rfl,rfl,rfl,trivial⟩
  ·refine JL.exit rfl ?_;obtain rfl:=oi aA;obtain rfl:=av _ O;exact au W Z rfl
def QW(fuel:Nat)(p1:Int)(K:Int×Int):Option (Bn (Int×Int) Int):= if K.2≤p1 then((Nq fuel K.1 K.2).bind fun U=> (Av (K.2+20)).bind fun O=> some (.more (K.2,O))) else(some (.done K.1))
def QD(fuel:Nat)(p1:Int)(K:Int)(O:Int)(U:Unit):Option (Bn Unit Unit):= if O≤p1 then((Av (0+K)).bind fun V=> none) else(some (.done ()))
def QK(fuel:Nat)(p1:Int)(K:Int):Option (Bn Int Unit):= if K<p1 then((Av (2*K)).bind fun O=> Option.bind (iter (QD fuel p1 K O) fuel ()) fun W=> (Av (0+K)).bind fun U=> Option.bind (if U<p1 then(none) else(some ())) fun Z=> (Av (K*2)).bind fun V=> some (.more V)) else(some (.done ()))
def O2(fuel:Nat)(p1:Int):Option Unit:= Option.bind (iter (QW fuel p1) fuel (0,20)) fun K=> (Nq fuel K p1).bind fun O=> Option.bind (iter (QK fuel p1) fuel 20) fun U=> some ()
theorem Wo{p1:Int}{fuel:Nat}{r:Unit}(W:O2 fuel p1=some r):AU J 138 [nS,iV p1,(fV 125)] E [] (fun w E' B'=>w= .tuple #[]∧B'= []):=by
 refine Bj func138 fun Q bq cs H al am=>?_;unfold O2 at W;obtain⟨an,ao,ap⟩:=bs W;refine zg 11 rfl (CM [] [(0,.slice none 0 0),(1,iV p1),(2,(fV 125)),(6,iV 20),(7,iV an)] (fun br aq ar=>?_) (fun au=>?_))
 ·obtain⟨bu,av,aw⟩:=bs ap;refine zg 6 rfl (BJ (RO av) rfl rfl LR ar fun bv ay az=>?_);obtain⟨bw,aA,aB⟩:=bs aw;refine JL.done (CM [] [] (fun bx aC aD=>?_) (fun aE=>?_))
  ·obtain rfl:=oi aB;exact JL.fin (v:= .tuple #[]) rfl rfl (B6.list func138 rfl (vs:= []) trivial) (am ((aq.Ab ay).Ab aC) rfl ⟨rfl,rfl⟩ aD)
  ·refine JL.block (CO aA (fun K=> []) (fun K=> [(0,.slice none 0 0),(1,iV p1),(2,(fV 125)),(6,iV K)]) Aq az ?_);rintro K bz Z aa aF ⟨bA,U⟩ aG;have ab:=U;unfold QK at ab;refine zg 7 rfl (AM ab (fun aH aI=>?_) (fun aH aJ=>?_))
   ·obtain⟨aK,aL,aM⟩:=bs aI;refine zg 5 rfl (Ay rfl (fun ρ h=>IW (h _ _ rfl) (h _ _ rfl) aL) ?_);obtain⟨bB,aN,aO⟩:=bs aM;refine zg 4 rfl (CM [] [(0,.slice none 0 0),(1,iV p1),(2,(fV 125)),(6,iV K),(7,iV 0)] (fun bC aP aQ=>?_) (fun aR=>?_))
    ·obtain⟨bD,aS,aT⟩:=bs aO;refine zg 5 rfl (A9 aS rfl rfl rfl ?_);obtain⟨bE,aU,aV⟩:=bs aT;refine zg 8 rfl (CM [] [(0,.slice none 0 0),(1,iV p1),(2,(fV 125)),(6,iV K)] (fun bF aW aX=>?_) (fun aY=>?_))
     ·obtain⟨aZ,a0,a1⟩:=bs aV;refine zg 2 rfl (Ay rfl (fun ρ h=>IW (h _ _ rfl) (h _ _ rfl) a0) ?_);refine zg 3 rfl ?_;obtain rfl:=oi a1;exact aG aZ ((Z.Ab aP).Ab aW) aX rfl U
     ·refine AM aU (fun a2 a3=>?_) (fun a2 a4=>?_)
      ·refine zg 6 rfl ?_;cases a3
      ·refine JL.skip ?_;obtain rfl:=oi a4;exact aY Aq aQ rfl
    ·refine JL.block (CO aN (fun ae=> []) (fun ae=> [(0,.slice none 0 0),(1,iV p1),(2,(fV 125)),(6,iV K),(7,iV 0),(8,iV aK)]) Aq aa ?_);rintro ae bG a5 a6 a7 ⟨bH,ag⟩ bI;have ah:=ag;unfold QD at ah;refine zg 7 rfl (AM ah (fun a8 a9=>?_) (fun a8 ba=>?_))
     ·obtain⟨bJ,bb,bc⟩:=bs a9;refine zg 8 rfl (A9 bb rfl rfl rfl ?_);refine zg 2 rfl ?_;cases bc
     ·refine JL.exit rfl ?_;obtain rfl:=oi ba;obtain rfl:=a7 _ ag;exact aR a5 a6 rfl
   ·refine JL.exit rfl ?_;obtain rfl:=oi aJ;obtain rfl:=aF _ U;exact aE Z aa rfl
 ·refine JL.block (CO ao (fun O=> []) (fun O=> [(0,.slice none 0 0),(1,iV p1),(2,(fV 125)),(6,iV 20),(7,iV O.1),(8,iV O.2)]) Aq al ?_);rintro O bK ai aj bd ⟨bL,V⟩ be;have ak:=V;unfold QW at ak;refine zg 7 rfl (AM ak (fun bf bg=>?_) (fun bf bh=>?_))
  ·obtain⟨bM,bi,bj⟩:=bs bg;refine zg 8 rfl (BJ (RO bi) rfl rfl LR aj fun bN bl bm=>?_);obtain⟨bn,bo,bp⟩:=bs bj;refine zg 9 rfl (A9 bo rfl rfl rfl ?_);refine zg 3 rfl ?_;obtain rfl:=oi bp;exact be (O.2,bn) (ai.Ab bl) bm rfl V
  ·refine JL.exit rfl ?_;obtain rfl:=oi bh;obtain rfl:=bd _ V;exact au ai aj rfl
def S1(fuel:Nat):Option Unit:= (O2 fuel ((0:Nat):Int)).bind fun K=> some ()
theorem Wd{fuel:Nat}{r:Unit}(K:S1 fuel=some r):AU J 124 [nS,(fV 125)] E [] (fun w E' B'=>w= .tuple #[]∧B'= []):=by
 refine Bj func124 fun Q ab cs H O U=>?_;unfold S1 at K;refine zg 3 rfl (Bo underlying25 rfl rfl rfl ?_);obtain⟨ae,V,W⟩:=bs K;refine zg 1 rfl (BJ (Wo V) rfl rfl (A3 func138 rfl) O fun ag Z aa=>?_);refine JL.done ?_;obtain rfl:=oi W;exact JL.fin (v:= .tuple #[]) rfl rfl (B6.list func124 rfl (vs:= []) trivial) (U Z rfl ⟨rfl,rfl⟩ aa)
theorem Wm{J:Judge Tryz.prog}{E:LH}{a:Ao}{c:Nat}{g:Seg}{p0:A6}(V:OL 27 BM E a c g p0){fuel:Nat}{r:A6}(K:f124 fuel p0=some r):
  AU J 124 [.slice a p0.length c,.func (.func 125) #[] #[]] E g (fun w E' B'=>w= .tuple #[]∧OL 27 BM E' a c B' r∧r.length=p0.length):=by
 rcases V.cases with⟨rfl,rfl,rfl,rfl⟩ | ⟨bk,f,rfl,rfl,hW⟩
 ·have W:r= []:=by
   cases fuel with
   | zero=>exact absurd K (by simp [f124,f138,iter])
   | succ fuel=>
    cases fuel with
    | zero=>exact(Option.some.inj (K.symm.trans (by rfl:f124 1 []=some []))).trans rfl
    | succ fuel=>exact(Option.some.inj (K.symm.trans (by rfl:f124 (fuel+2) []=some []))).trans rfl
  subst W;refine(Wd (fuel:=10) (r:=()) rfl).Ai ?_;rintro w E' B' hle ⟨O,rfl⟩;exact⟨O,OL.nil,rfl⟩
 ·refine(Xu hW K).Ai ?_;rintro w E' B' hle ⟨Z,O,rfl,U⟩;exact⟨O,U.1,U.2⟩
end Pal
namespace Pal
open Go Go.Conc Go.Proofs
open Go.Proofs.Tryz
def f94(fuel:Nat)(p0:A6)(p1:A6):Option ((A6)):= (Dy p0 p1).bind fun K=> (f123 fuel K).bind fun O=> (f124 fuel O).bind fun U=> some U
theorem YK{E:LH}{K:Ao}{c2:Nat}{O:Ao}{U:Nat}{p0:A6}{p1:A6}(Z:Ap BM E K c2 p0)(al:Ap BM E O U p1){fuel:Nat}{r:(A6)}(ae:f94 fuel p0 p1=some r):AU (DR Tryz.prog) 94 [sV K p0 c2,sV O p1 U] E [] (fun w E' B'=>∃(ag:Ao) (ah:Nat),w= sV ag r ah∧B'= []∧Ap BM E' ag ah r):=by
 refine Bj func94 fun Q aJ cs H am an=>?_;unfold f94 at ae;refine zg 8 rfl (Bo underlying25 rfl rfl rfl ?_);refine zg 1 rfl (Bo underlying25 rfl rfl rfl ?_);refine Ay (v:= .slice K p0.length p0.length) rfl (fun ρ h=>Uf (Ap.spot Z) (And.left Z) underlying25 C5 (h _ _ rfl) (h _ _ rfl) (h _ _ rfl)) ?_;obtain⟨ai,ao,ap⟩:=bs ae;refine zg 1 rfl (TV (pp:=BM) ao rfl rfl rfl rfl rfl rfl rfl underlying25 underlying25 C5 (Cu type27) Gk rfl (by decide) (by decide) Z al am fun aK aj ak aq ar au=>?_);obtain⟨aL,av,aw⟩:=bs ap;refine zg 5 rfl (BR (Xq ar av) rfl rfl (A3 func123 rfl) au ?_);rintro _ aM _ ay ⟨V,W,aN,rfl,rfl,az⟩ aA;obtain⟨aa,aB,aC⟩:=bs aw;refine zg 5 rfl (B8 2 (Wm az aB) rfl rfl (A3 func124 rfl) aA rfl ?_);rintro _ aO aP aD ⟨rfl,aE,ab⟩ aF;refine Fg (L':= [(17,.tuple #[]),(0,.slice K p0.length c2),(1,.slice O p1.length U),(4,.slice none 0 0),(6,.slice K p0.length c2),(7,.slice K p0.length c2),(8,iV (p0.length:Int)),(9,.slice K p0.length c2),(10,iV (p0.length:Int)),(11,.slice K p0.length p0.length),(12,.slice O p1.length U),(13,.slice aj ai.length ak),(5,.slice V aa.length W),(14,.slice aj ai.length ak),(15,.slice V aa.length W),(16,.slice V aa.length W)]) ⟨rfl,rfl,rfl,rfl,rfl,rfl,rfl,rfl,rfl,rfl,rfl,rfl,by rw [ab];rfl,rfl,by rw [ab];rfl,by rw [ab];rfl,trivial⟩ ?_;refine zg 6 rfl (Cc 2 aE aF rfl fun aQ aG aH aI=>?_);obtain rfl:=oi aC;exact AL func94 rfl rfl (an (((aq.Ab ay).Ab aD).Ab aG) rfl ⟨V,W,rfl,rfl,aH⟩ aI)
def f37(fuel:Nat)(p0:Bz)(p1:A6)(p2:A6):Option (Bool×Int):= (f69 fuel p0 p1).bind fun O=> if O≠0 then(some (false,O)) else((f69 fuel p0 p2).bind fun U=> if U≠0 then(some (false,U)) else((f92 fuel p0).bind fun aa=> (aa).bind fun K=> (f93 fuel K p1).bind fun V=> (f93 fuel K p2).bind fun W=> Option.bind (if(V.2.length:Int)=0 then(some true) else(some (decide ((W.2.length:Int)=0)))) fun ab=> if ab=true then(some (false,0)) else((f94 fuel p1 p2).bind fun ae=> (f93 fuel K ae).bind fun Z=> Option.bind (if 0<(Z.2.length:Int) then((Av (V.1+W.1)).bind fun ag=> some (decide (Z.1≤ag))) else(some false)) fun ah=> some (ah,0))))
theorem YQ{E:LH}{aB:Ao}{c2:Nat}{aC:Ao}{aD:Nat}{ai:Ao}{aj:Nat}{ak:Ao}{al:Nat}{p0:Bz}{p1:A6}{p2:A6}(am:Ap (rL rI) E aB c2 p0.1)(an:Ap (rL rI) E aC aD p0.2)(ao:Ap BM E ai aj p1)(ap:Ap BM E ak al p2){fuel:Nat}{r:Bool×Int}(aE:f37 fuel p0 p1 p2=some r):AU (DR Tryz.prog) 37 [.agg #[sV aB p0.1 c2,sV aC p0.2 aD],sV ai p1 aj,sV ak p2 al] E [] (fun w E' B'=>w= .tuple #[.bool r.1,iV r.2]∧B'= []):=by
 refine Bj func37 fun Q bZ cs H aS ah=>?_;unfold f37 at aE;refine zg 2 rfl (Cy aS fun b0 b1 K aq aT=>?_);refine zg 6 rfl (Cf aq Cs B4 rfl rfl ?_);obtain⟨b2,aU,aV⟩:=bs aE;refine zg 1 rfl (BJ (Ln (am.Ai K) (an.Ai K) (ao.Ai K) aU) rfl rfl Kg aT fun b3 O aF=>?_);refine zg 7 rfl (AM aV (fun aW aX=>?_) (fun aW aY=>?_))
 ·refine zg 6 rfl ?_;obtain rfl:=oi aX;exact AL func37 rfl rfl (ah (K.Ab O) rfl ⟨rfl,rfl⟩ aF)
 ·refine zg 4 rfl (Cf (aq.Ai O) Cs B4 rfl rfl ?_);obtain⟨b4,aZ,a0⟩:=bs aY;refine zg 1 rfl (BJ (Ln (am.Ai (K.Ab O)) (an.Ai (K.Ab O)) (ap.Ai (K.Ab O)) aZ) rfl rfl Kg aF fun b5 V a1=>?_);refine CG (S':= [[],[],[],[]]) rfl a1 fun aG=>zg 7 rfl (AM a0 (fun a2 a3=>?_) (fun a2 a4=>?_))
  ·refine zg 6 rfl ?_;obtain rfl:=oi a3;exact AL func37 rfl rfl (ah ((K.Ab O).Ab V) rfl ⟨rfl,rfl⟩ aG)
  ·refine zg 3 rfl (Cf (aq.Ai (O.Ab V)) Cs B4 rfl rfl ?_);obtain⟨b6,a5,a6⟩:=bs a4;refine BR (Nl (am.Ai ((K.Ab O).Ab V)) (an.Ai ((K.Ab O).Ab V)) a5) rfl rfl LV aG ?_;rintro b7 b8 _ ag ⟨_,rfl,rfl,a7⟩ a8;obtain⟨b9,a9,ba⟩:=bs a6;have aH:=a7;refine zg 6 rfl ?_;rw [a9] at aH;obtain⟨bb,bc,_,rfl,ar,⟨_,_,rfl,⟨ca,cb,rfl,au⟩,⟨_,cc,rfl,⟨cd,ce,rfl,av⟩,aw⟩⟩⟩:=aH;obtain⟨cf,bd,be⟩:=bs ba;refine BR (Nh ar au av aw (ao.Ai (((K.Ab O).Ab V).Ab ag)) bd) rfl rfl LU a8 ?_;rintro _ cg _ U ⟨ci,ck,rfl,rfl,cm⟩ bf;obtain⟨cn,bg,bh⟩:=bs be;refine zg 2 rfl (BR (Nh (ar.Ai U) (au.Ai U) (av.Ai U) (Rp.Ai _ U aw) (ap.Ai ((((K.Ab O).Ab V).Ab ag).Ab U)) bg) rfl rfl LU bf ?_);rintro _ co _ aa ⟨cp,cq,rfl,rfl,cr⟩ bi;refine CG (S':= [[],[],[],[],[],[],[]]) rfl bi fun bj=>CN bj FM fun bl bm=>?_;refine CN bm FM fun aI bn=>?_;refine BT 7 bn Dq fun bo=>?_;refine Dr 7 bo rfl fun ct ab aJ bp=>CG (S':= [[],[],[],[],[],[],[],[],[(aI,.cells #[iV 0,nS] 97 (0,0))]]) rfl bp fun bq=>BT 8 bq Dq fun br=>?_;refine Dr 8 br rfl fun ay W aK aL=>zg 4 rfl (JL.fl 1 (aJ.Ai W) underlying97 DF EJ ?_);refine Bo underlying95 rfl rfl rfl ?_;obtain⟨bu,bv,bw⟩:=bs bh;refine zg 2 rfl (FP [] (fun L s=>∃(aM:LH),Jm ay H aM [] [(1,sV ai p1 aj),(2,sV ak p2 al),(10,pV bb bc),(11,pV bl 0),(12,pV aI 0),(43,.bool bu)] L s) ?_ ?_)
   ·rintro _ _ ⟨aM,rfl,rfl,Z,aN⟩;refine JL.done (BK bw (fun bx bz=>?_) (fun bx bA=>?_))
    ·refine zg 5 rfl ?_;obtain rfl:=oi bz;exact AL func37 rfl rfl (ah ((((((((K.Ab O).Ab V).Ab ag).Ab U).Ab aa).Ab ab).Ab W).Ab Z) rfl ⟨rfl,rfl⟩ aN)
    ·obtain⟨cu,bB,bC⟩:=bs bA;refine zg 6 rfl (BR (YK (ao.Ai ((((((((K.Ab O).Ab V).Ab ag).Ab U).Ab aa).Ab ab).Ab W).Ab Z)) (ap.Ai ((((((((K.Ab O).Ab V).Ab ag).Ab U).Ab aa).Ab ab).Ab W).Ab Z)) bB) rfl rfl (A3 func94 rfl) aN ?_);rintro _ cv _ ae ⟨cw,cy,rfl,rfl,bD⟩ bE;obtain⟨cz,bF,bG⟩:=bs bC;refine BR (Nh (ar.Ai (((((U.Ab aa).Ab ab).Ab W).Ab Z).Ab ae)) (au.Ai (((((U.Ab aa).Ab ab).Ab W).Ab Z).Ab ae)) (av.Ai (((((U.Ab aa).Ab ab).Ab W).Ab Z).Ab ae)) (Rp.Ai _ (((((U.Ab aa).Ab ab).Ab W).Ab Z).Ab ae) aw) bD bF) rfl rfl LU bE ?_;rintro _ cA _ az ⟨cB,cC,rfl,rfl,cD⟩ bH;refine CG (S':= [[],[]]) rfl bH fun bI=>CN bI FM fun cE bJ=>?_;refine BT 2 bJ Dq fun bK=>?_;refine Dr 2 bK rfl fun cF aA aO aP=>zg 3 rfl (JL.fl 1 aO underlying97 DF EJ ?_);refine Bo underlying95 rfl rfl rfl ?_;obtain⟨bL,bM,bN⟩:=bs bG;refine zg 2 rfl (CS 14 2 [] [(62,.bool bL)] (fun cG bO bP=>?_) (fun aQ=>?_))
     ·refine zg 3 rfl ?_;obtain rfl:=oi bN;exact AL func37 rfl rfl (ah ((((((((((((K.Ab O).Ab V).Ab ag).Ab U).Ab aa).Ab ab).Ab W).Ab Z).Ab ae).Ab az).Ab aA).Ab bO) rfl ⟨rfl,rfl⟩ bP)
     ·refine EE 53 bM (fun bQ bR=>?_) (fun bQ bS=>?_)
      ·refine JL.fl 0 aO underlying97 AN Bq ?_;refine JL.fl 0 (aJ.Ai ((((W.Ab Z).Ab ae).Ab az).Ab aA)) underlying97 AN Bq ?_;refine JL.fl 0 (aK.Ai (((Z.Ab ae).Ab az).Ab aA)) underlying97 AN Bq ?_;obtain⟨cH,bT,bU⟩:=bs bR;refine A9 bT rfl rfl rfl (zg 2 rfl ?_);obtain rfl:=oi bU;exact aQ Aq aP rfl
      ·refine zg 9 rfl ?_;obtain rfl:=oi bS;exact aQ Aq aP rfl
   ·intro aR;refine EE 38 bv (fun bV bW=>?_) (fun bV bY=>?_)
    ·refine zg 5 rfl ?_;obtain rfl:=oi bW;exact Aw (aR _ _ ⟨ay,rfl,rfl,Aq,aL⟩) rfl
    ·refine JL.fl 1 aK underlying97 DF EJ ?_;refine Bo underlying95 rfl rfl rfl (zg 2 rfl ?_);obtain rfl:=oi bY;exact Aw (aR _ _ ⟨ay,rfl,rfl,Aq,aL⟩) rfl
end Pal
namespace Pal
open Go Go.Conc Go.Proofs
open Go.Proofs.Tryz
def Nt:List Nat:= [0,1,1,2,1,2,2,3,1,2,2,3,2,3,3,4,1,2,2,3,2,3,3,4,2,3,3,4,3,4,4,5,1,2,2,3,2,3,3,4,2,3,3,4,3,4,4,5,2,3,3,4,3,4,4,5,3,4,4,5,4,5,5,6,1,2,2,3,2,3,3,4,2,3,3,4,3,4,4,5,2,3,3,4,3,4,4,5,3,4,4,5,4,5,5,6,2,3,3,4,3,4,4,5,3,4,4,5,4,5,5,6,3,4,4,5,4,5,5,6,4,5,5,6,5,6,6,7,1,2,2,3,2,3,3,4,2,3,3,4,3,4,4,5,2,3,3,4,3,4,4,5,3,4,4,5,4,5,5,6,2,3,3,4,3,4,4,5,3,4,4,5,4,5,5,6,3,4,4,5,4,5,5,6,4,5,5,6,5,6,6,7,2,3,3,4,3,4,4,5,3,4,4,5,4,5,5,6,3,4,4,5,4,5,5,6,4,5,5,6,5,6,6,7,3,4,4,5,4,5,5,6,4,5,5,6,5,6,6,7,4,5,5,6,5,6,6,7,5,6,6,7,6,7,7,8]
def f86(fuel:Nat)(p0:Nat):Option Int:= (LA Nt ((((p0>>>8):Nat):Int))).bind fun K=> (J1 p0 (255)).bind fun O=> (LA Nt ((((O):Nat):Int))).bind fun U=> (Av ((((K+U) % 256):Nat):Int)).bind fun V=> some V
theorem YJ{E:LH}{p0:Nat}{fuel:Nat}{r:Int}(K:f86 fuel p0=some r):AU (DR Tryz.prog) 86 [uV p0] E [] (fun w E' B'=>w=iV r∧B'= []):=by
 refine Bj func86 fun Q am cs H V W=>?_;unfold f86 at K;refine zg 5 rfl (DC 6 fun ht=>?_);refine Cz 0 ht rfl rfl (Bw (v:= .int .u16 ((p0>>>8:Nat):Int)) 1 ht rfl rfl (fun ρ h s' hs=>VV 8 (h _ _ rfl) (h _ _ rfl) (by decide)) ?_);obtain⟨O,Z,aa⟩:=bs K;refine Bw (v:= .int .u8 ((O:Nat):Int)) 2 ht rfl rfl (fun ρ h s' hs=>N7 (l:=Nt) (by decide+kernel) underlying9 (h _ _ rfl) (h _ _ rfl) Z) (Cz 3 ht rfl rfl ?_);obtain⟨ab,ae,ag⟩:=bs aa;refine Bw (v:= uV ab) 4 ht rfl rfl (fun ρ h s' hs=>N6 (h _ _ rfl) (h _ _ rfl) ae) ?_;obtain⟨U,ah,ai⟩:=bs ag;refine Bw (v:= .int .u8 ((U:Nat):Int)) 5 ht rfl rfl (fun ρ h s' hs=>N7 (l:=Nt) (by decide+kernel) underlying9 (h _ _ rfl) (h _ _ rfl) ah) (Cg [6,7,8] ?_);refine Ay (v:= .int .u8 (((O+U) % 256:Nat):Int)) rfl (fun ρ h=>VC (h _ _ rfl) (h _ _ rfl)) ?_;obtain⟨aj,ak,al⟩:=bs ai;refine Ay (v:=iV aj) rfl (fun ρ h=>RZ underlying5 underlying3 (h _ _ rfl) ak) (zg 2 rfl ?_);obtain rfl:=oi al;exact AL func86 rfl rfl (W Aq rfl ⟨rfl,rfl⟩ V)
end Pal
namespace Pal
open Go Go.Conc Go.Proofs
open Go.Proofs.Tryz
def f85(fuel:Nat)(p0:Nat):Option Int:= (f86 fuel p0).bind fun K=> some K
theorem SU{E:LH}{p0:Nat}{fuel:Nat}{r:Int}(K:f85 fuel p0=some r):AU (DR Tryz.prog) 85 [uV p0] E [] (fun w E' B'=>w=iV r∧B'= []):=by
 refine Bj func85 fun Q ab cs H O U=>?_;unfold f85 at K;obtain⟨ae,V,W⟩:=bs K;refine zg 7 rfl (BJ (YJ V) rfl rfl (A3 func86 rfl) O fun ag Z aa=>?_);refine zg 2 rfl ?_;obtain rfl:=oi W;exact AL func85 rfl rfl (U Z rfl ⟨rfl,rfl⟩ aa)
end Pal
namespace Pal
open Go Go.Conc Go.Proofs
open Go.Proofs.Tryz
def R5(fuel:Nat)(V:B9)(U:(List Int))(K:(List Nat)×Int):Option (Bn ((List Nat)×Int) ((List Nat))):= if K.2<(U.length:Int) then((ix U K.2).bind fun O=> (ix K.1 O).bind fun W=> (f90 fuel W V.1).bind fun Z=> (ix K.1 O).bind fun ab=> (Av (K.2+1)).bind fun aa=> some (.more ((K.1.set (Int.toNat O) Z),aa))) else(some (.done K.1))
def So(fuel:Nat)(O:(Option BV)×(Int×(List B9))×Int)(V:BV)(W:Int×Int×Int)(K:(List Nat)×Int):Option (Bn ((List Nat)×Int) ((List Nat))):= if K.2<(O.2.1.2.length:Int) then((ix O.2.1.2 K.2).bind fun U=> (f88 fuel V U W.2.2).bind fun Z=> (f89 fuel Z).bind fun aa=> Option.bind (iter (R5 fuel U aa) fuel (K.1,0)) fun ab=> (Av (K.2+1)).bind fun ae=> some (.more (ab,ae))) else(some (.done K.1))
def Sg(fuel:Nat)(O:(List Nat))(K:Int×Int):Option (Bn (Int×Int) Int):= if K.2<8 then((ix O K.2).bind fun U=> (f85 fuel U).bind fun V=> (Av (K.2+1)).bind fun W=> some (.more (max K.1 V,W))) else(some (.done K.1))
def SI(fuel:Nat)(V:(Option BV)×(Int×(List B9))×Int)(W:BV)(K:Int×Int×Int):Option (Bn (Int×Int×Int) (Int×Int)):= if K.2.2<7 then(Option.bind (iter (So fuel V W K) fuel ((List.replicate 8 (0:Nat)),0)) fun Z=> Option.bind (iter (Sg fuel Z) fuel (0,0)) fun O=> Option.bind (if O<K.2.1 then(some (K.2.2,O)) else(some (K.1,K.2.1))) fun U=> (Av (K.2.2+1)).bind fun aa=> some (.more (U.1,U.2,aa))) else(some (.done (K.1,K.2.1)))
def f35(fuel:Nat)(p0:Bz)(p1:A6):Option (Int×Int×Int):= (f78 fuel p0 p1 (-1) false).bind fun K=> if K.2.2≠0 then(some (0,0,K.2.2)) else((f87 fuel K.2.1.2).bind fun U=> (f85 fuel U).bind fun V=> (K.1).bind fun W=> Option.bind (iter (SI fuel K W) fuel ((-1),V,0)) fun O=> if O.1<0 then(some (0,0,11)) else(some (O.1,O.2,0)))
theorem YP{E:LH}{aU:Ao}{c2:Nat}{aV:Ao}{aW:Nat}{aX:Ao}{aY:Nat}{p0:Bz}{p1:A6}(bv:Ap (rL rI) E aU c2 p0.1)(bw:Ap (rL rI) E aV aW p0.2)(bx:Ap BM E aX aY p1){fuel:Nat}{r:Int×Int×Int}(aZ:f35 fuel p0 p1=some r):AU (DR Tryz.prog) 35 [.agg #[sV aU p0.1 c2,sV aV p0.2 aW],sV aX p1 aY] E [] (fun w E' B'=>w= .tuple #[iV r.1,iV r.2.1,iV r.2.2]∧B'= []):=by
 refine Bj func35 fun Q dL cs H bz aG=>?_;unfold f35 at aZ;refine zg 2 rfl (Cy bz fun dM dN ag bA bB=>?_);refine zg 6 rfl (Cf bA Cs B4 rfl rfl ?_);obtain⟨ah,bC,bD⟩:=bs aZ;refine zg 1 rfl (BR (JZ (bv.Ai ag) (bw.Ai ag) (bx.Ai ag) bC) rfl rfl Je bB ?_);rintro _ dO _ aH ⟨dP,aI,aJ,rfl,rfl,bE,a0⟩ bF;refine zg 4 rfl (CN bF FM fun U bG=>?_);refine zg 1 rfl (BT 3 bG Dq fun bH=>?_);refine Dr 3 bH rfl fun dQ ai a1 a2=>zg 8 rfl (AM bD (fun bI bJ=>?_) (fun bI bK=>?_))
 ·refine zg 7 rfl ?_;obtain rfl:=oi bJ;exact AL func35 rfl rfl (aG ((ag.Ab aH).Ab ai) rfl ⟨rfl,rfl⟩ a2)
 ·refine zg 8 rfl (JL.fl 1 a1 underlying97 DF EJ ?_);obtain⟨bL,bM,bN⟩:=bs bK;refine BJ (SV (a0.Ai ai) bM) rfl rfl (A3 func87 rfl) a2 fun dR an bO=>?_;obtain⟨dS,bP,bQ⟩:=bs bN;refine Kx (vs:= [uV bL]) (SU bP) rfl rfl rfl rfl (A3 func85 rfl) rfl bO ?_;rintro _ dT _ ao ⟨rfl,rfl⟩ bR;obtain⟨dU,bS,bT⟩:=bs bQ;have a3:=(bE.Ai ((ai.Ab an).Ab ao));refine zg 11 rfl ?_;rw [bS] at a3;obtain⟨V,W,_,rfl,bU,⟨_,_,rfl,⟨dV,dW,rfl,bV⟩,⟨_,dX,rfl,⟨dY,dZ,rfl,bW⟩,bY⟩⟩⟩:=a3;obtain⟨a4,bZ,b0⟩:=bs bT;refine CM [] [(4,iV a4.1),(10,iV a4.2)] (fun ea a5 a6=>?_) (fun b1=>?_)
  ·refine zg 6 rfl (AM b0 (fun b2 b3=>?_) (fun b2 b4=>?_))
   ·refine zg 6 rfl ?_;obtain rfl:=oi b3;exact AL func35 rfl rfl (aG (((((ag.Ab aH).Ab ai).Ab an).Ab ao).Ab a5) rfl ⟨rfl,rfl⟩ a6)
   ·refine zg 9 rfl ?_;obtain rfl:=oi b4;exact AL func35 rfl rfl (aG (((((ag.Ab aH).Ab ai).Ab an).Ab ao).Ab a5) rfl ⟨rfl,rfl⟩ a6)
  ·refine JL.block (CO bZ (fun K=> []) (fun K=> [(4,iV K.1),(7,pV V W),(8,pV U 0),(9,(fV 85)),(10,iV K.2.1),(35,iV K.2.2)]) Aq bR ?_);rintro K aw Z a7 b5 ⟨eb,aK⟩ b6;have a8:=aK;unfold SI at a8;refine zg 5 rfl (AM a8 (fun b7 b8=>?_) (fun b7 b9=>?_))
   ·refine zg 10 rfl (CN a7 (DZ type114) fun O ca=>?_);refine zg 4 rfl (JL.fl 1 (a1.Ai ((an.Ab ao).Ab Z)) underlying97 DF EJ ?_);refine Bo underlying95 rfl rfl rfl ?_;obtain⟨cb,cc,cd⟩:=bs b8;refine zg 2 rfl (Bs (fun L s=>∃(aL:LH) (ap:Lv_),Jn aw H aL [bX O (([]:Lv_)++ap).toArray 114] [(4,iV K.1),(7,pV V W),(8,pV U 0),(9,(fV 85)),(10,iV K.2.1),(11,iV K.2.2),(12,pV O 0),(35,iV K.2.2)] L s ((rA 8 (rN .u16)).r aL ap cb)) ?_ ?_)
    ·rintro _ _ ⟨aL,ap,rfl,rfl,ce,a9,ba⟩;refine zg 7 rfl (Ay (v:= .agg ap.toArray) rfl (fun ρ h=>KE (kk:=8) (pp:=(rN .u16)) ba (D1 underlying114) (Br type114) (h _ _ rfl) (Mi (l:= []) 0 a9 rfl)) ?_);obtain⟨cf,cg,ci⟩:=bs cd;refine zg 2 rfl (CM [] [(4,iV K.1),(7,pV V W),(8,pV U 0),(9,(fV 85)),(10,iV K.2.1),(11,iV K.2.2),(17,iV cf),(35,iV K.2.2)] (fun ec ck bb=>?_) (fun cm=>?_))
     ·obtain⟨ay,cn,co⟩:=bs ci;refine zg 6 rfl (CM [] [(4,iV ay.1),(7,pV V W),(8,pV U 0),(9,(fV 85)),(10,iV ay.2),(35,iV K.2.2)] (fun ed cp cq=>?_) (fun bc=>?_))
      ·obtain⟨cr,ct,cu⟩:=bs co;refine zg 2 rfl (A9 ct rfl rfl rfl ?_);refine zg 2 rfl ?_;obtain rfl:=oi cu;exact b6 (ay.1,ay.2,cr) (((Z.Ab ce).Ab ck).Ab cp) cq rfl aK
      ·refine AM cn (fun cv cw=>?_) (fun cv cy=>?_)
       ·refine zg 6 rfl ?_;obtain rfl:=oi cw;exact bc Aq bb rfl
       ·refine JL.skip ?_;obtain rfl:=oi cy;exact bc Aq bb rfl
     ·refine JL.block (JS.drop 0 a9 rfl fun cz=>?_);refine CO cg (fun aj=> []) (fun aj=> [(4,iV K.1),(7,pV V W),(8,pV U 0),(9,(fV 85)),(10,iV K.2.1),(11,iV K.2.2),(17,iV aj.1),(35,iV K.2.2),(65,.agg ap.toArray),(66,iV aj.2)]) Aq cz ?_;rintro aj ee aM bd cA ⟨ef,aN⟩ cB;have be:=aN;unfold Sg at be;refine zg 5 rfl (AM be (fun cC cD=>?_) (fun cC cE=>?_))
      ·obtain⟨cF,cG,cH⟩:=bs cD;refine zg 5 rfl (YH (Rp.Ai _ aM ba) cG rfl rfl rfl rfl rfl underlying114 Ew GW ?_ (fun _=>rfl));rintro _ rfl;obtain⟨bf,cI,cJ⟩:=bs cH;refine zg 6 rfl (Kx (vs:= [uV cF]) (SU cI) rfl rfl rfl rfl (A3 func85 rfl) rfl bd ?_);rintro _ eg _ cK ⟨rfl,rfl⟩ cM;refine Ay (v:=iV (max aj.1 bf)) rfl (fun ρ h=>Yl.max2 (h _ _ rfl) (h _ _ rfl)) ?_;obtain⟨cN,cO,cP⟩:=bs cJ;refine zg 4 rfl (A9 cO rfl rfl rfl ?_);refine zg 2 rfl ?_;obtain rfl:=oi cP;exact cB (max aj.1 bf,cN) (aM.Ab cK) cM rfl aN
      ·refine JL.exit rfl ?_;obtain rfl:=oi cE;obtain rfl:=cA _ aN;exact cm aM bd rfl
    ·intro cQ;refine JL.block (CE cc (fun L s aq=>∃(az:LH) (ar:Lv_),Jn aw H az [bX O (([]:Lv_)++ar).toArray 114] [(4,iV K.1),(7,pV V W),(8,pV U 0),(9,(fV 85)),(10,iV K.2.1),(11,iV K.2.2),(12,pV O 0),(35,iV K.2.2),(39,sV aI ah.2.1.2 aJ),(40,iV (ah.2.1.2.length:Int)),(41,iV aq.2)] L s ((rA 8 (rN .u16)).r az ar aq.1)) ⟨aw,(List.replicate 8 (uV 0):Lv_),rfl,rfl,Aq,ca,(JM (E:=aw) (pp:=(rN .u16)) rfl)⟩ ?_);rintro _ _ aq ⟨az,ar,rfl,rfl,aa,bg,bh⟩ cR ⟨eh,aO⟩ cT;have bi:=aO;unfold So at bi;refine zg 5 rfl (AM bi (fun cV cW=>?_) (fun cV cX=>?_))
     ·obtain⟨cY,cZ,c0⟩:=bs cW;refine zg 5 rfl (B5 (a0.Ai ((((ai.Ab an).Ab ao).Ab Z).Ab aa)) cZ underlying95 Co ?_);rintro ei ej _ ⟨_,_,rfl,rfl,⟨_,_,rfl,⟨ek,el,rfl,c1⟩,rfl⟩⟩ c3;refine Cf c3 F3 Co rfl rfl (CN bg GY fun c4 c5=>?_);refine BT 1 c5 Co fun c6=>?_;refine Dr 1 c6 rfl fun em ab bj c7=>zg 4 rfl (Cf bj F3 Co rfl rfl ?_);obtain⟨en,c8,c9⟩:=bs c0;refine zg 1 rfl (BJ (Zi (bU.Ai ((Z.Ab aa).Ab ab)) (bV.Ai ((Z.Ab aa).Ab ab)) (bW.Ai ((Z.Ab aa).Ab ab)) (Rp.Ai _ ((Z.Ab aa).Ab ab) bY) (c1.Ai ab) c8) rfl rfl (A3 func88 rfl) c7 fun eo aP da=>?_);obtain⟨bl,db,dc⟩:=bs c9;refine BR (Iy db) rfl rfl H9 da ?_;rintro _ aQ _ aR ⟨dd,de,rfl,rfl,df⟩ dg;refine Bo underlying28 rfl rfl rfl ?_;obtain⟨bm,dh,di⟩:=bs dc;refine zg 2 rfl (Bs (fun L s=>∃(aA:LH) (aB:Lv_),Jn aQ H aA [bX O (([]:Lv_)++aB).toArray 114] [(4,iV K.1),(7,pV V W),(8,pV U 0),(9,(fV 85)),(10,iV K.2.1),(11,iV K.2.2),(12,pV O 0),(35,iV K.2.2),(39,sV aI ah.2.1.2 aJ),(40,iV (ah.2.1.2.length:Int)),(41,iV aq.2)] L s ((rA 8 (rN .u16)).r aA aB bm)) ?_ ?_)
      ·rintro _ _ ⟨aA,aB,rfl,rfl,dj,dk,dl⟩;obtain⟨dm,dn,dp⟩:=bs di;refine zg 2 rfl (A9 dn rfl rfl rfl ?_);refine zg 2 rfl ?_;obtain rfl:=oi dp;exact Aw (cT _ _ (bm,dm) ⟨aA,aB,rfl,rfl,((((aa.Ab ab).Ab aP).Ab aR).Ab dj),dk,dl⟩ aO) rfl
      ·intro dq;refine JL.block (CE dh (fun L s au=>∃(aC:LH) (ak:Lv_),Jn aQ H aC [bX O (([]:Lv_)++ak).toArray 114] [(4,iV K.1),(7,pV V W),(8,pV U 0),(9,(fV 85)),(10,iV K.2.1),(11,iV K.2.2),(12,pV O 0),(14,pV c4 0),(35,iV K.2.2),(39,sV aI ah.2.1.2 aJ),(40,iV (ah.2.1.2.length:Int)),(41,iV aq.2),(49,sV dd bl de),(50,iV (bl.length:Int)),(51,iV au.2)] L s ((rA 8 (rN .u16)).r aC ak au.1)) ⟨aQ,ar,rfl,rfl,Aq,dg,(Rp.Ai _ ((ab.Ab aP).Ab aR) bh)⟩ ?_);rintro _ _ au ⟨aC,ak,rfl,rfl,aD,av,al⟩ dr ⟨ep,aS⟩ dt;have bn:=aS;unfold R5 at bn;refine zg 5 rfl (AM bn (fun du dv=>?_) (fun du dw=>?_))
       ·obtain⟨am,dx,dy⟩:=bs dv;refine zg 5 rfl (B5 (df.Ai aD) dx underlying28 AN ?_);rintro eq er _ rfl dz;refine BY 0 dz Bq rfl rfl rfl (zg 2 rfl ?_);refine DI 7 [O] ⟨⟨0,_,rfl⟩,trivial⟩ av fun ht=>Bh ht rfl [0,1] rfl ?_;obtain⟨bo,bp,dA⟩:=bs dy;obtain⟨_,rfl,_,_,dB⟩:=Il (kk:=8) (pp:=(rN .u16)) al bp;refine Bw (v:= .pointer (some ⟨O,0+Int.toNat (am)*1,none⟩)) 2 ht rfl rfl (fun ρ h s' hs=>Jq (kk:=8) (pp:=(rN .u16)) al bp underlying114 Ew (h _ _ rfl) (h _ _ rfl)) (Bw (v:= uV bo) 3 ht rfl rfl (fun ρ h s' hs=>Yl.load GW (h _ _ rfl) (UA (l:= []) 0 av rfl (by simp [Bb]) hs (dB 0 _ rfl))) ?_);refine Ch 4 ht underlying104 AN rfl rfl rfl rfl (JG.lp 5 ht 0 (bj.Ai ((aP.Ab aR).Ab aD)) av ⟨⟨0,_,rfl⟩,trivial⟩ Bq ?_);obtain⟨ae,dC,dD⟩:=bs dA;refine QN (i:=6) ⟨⟨0,_,rfl⟩,trivial⟩ (vs:= [uV bo,iV cY.1]) (Nm dC) (by decide+kernel) rfl rfl rfl LW rfl av ?_;rintro _ bq _ aE ⟨rfl,rfl⟩ dE;refine Cg [7,8] ?_;obtain⟨et,aT,dF⟩:=bs dD;obtain⟨_,rfl,_,_,eu⟩:=Il (kk:=8) (pp:=(rN .u16)) (Rp.Ai _ aE al) aT;refine Ay (v:= .pointer (some ⟨O,0+Int.toNat (am)*1,none⟩)) rfl (fun ρ h=>Jq (kk:=8) (pp:=(rN .u16)) (Rp.Ai _ aE al) aT underlying114 Ew (h _ _ rfl) (h _ _ rfl)) ?_;have aF:=OW (us:= [uV ae]) (y:=ae) (Rp.Ai _ aE al) aT rfl;refine Kt (v:= uV ae) (l:= []) (ws:=ak) (us:= [uV ae]) (o:=Int.toNat (am)*1) 0 rfl rfl rfl dE rfl rfl rfl Ew (by simp [Value.cells,Cx]) rfl aF.2 fun br=>?_;replace aF:=aF.1;generalize dG:Hz ak (Int.toNat (am)*1) [uV ae]=bu at br ⊢;have dH:(rA 8 (rN .u16)).r bq bu (au.1.set (Int.toNat am) ae):=by rw [← dG];exact aF
        obtain⟨dI,dJ,dK⟩:=bs dF;refine zg 3 rfl (A9 dJ rfl rfl rfl ?_);refine zg 2 rfl ?_;obtain rfl:=oi dK;exact Aw (dt _ _ ((au.1.set (Int.toNat am) ae),dI) ⟨bq,bu,rfl,rfl,(aD.Ab aE),br,dH⟩ aS) rfl
       ·refine JL.exit rfl ?_;obtain rfl:=oi dw;obtain rfl:=dr _ aS;exact Aw (dq _ _ ⟨aC,ak,rfl,rfl,aD,av,al⟩) rfl
     ·refine JL.exit rfl ?_;obtain rfl:=oi cX;obtain rfl:=cR _ aO;exact Aw (cQ _ _ ⟨az,ar,rfl,rfl,aa,bg,bh⟩) rfl
   ·refine JL.exit rfl ?_;obtain rfl:=oi b9;obtain rfl:=b5 _ aK;exact b1 Z a7 rfl
end Pal
namespace Pal
open Go Go.Conc Go.Proofs
open Go.Proofs.Tryz
def Na(fuel:Nat)(p2:Int)(O:(Option BV)×(Int×(List B9))×Int)(K:Int×Int):Option (Bn (Int×Int) Int):= if K.2<(O.2.1.2.length:Int) then((ix O.2.1.2 K.2).bind fun U=> (f103 fuel U.2.2 p2).bind fun V=> Option.bind (if V=true then((Av (K.1+1)).bind fun W=> some W) else(some K.1)) fun Z=> (Av (K.2+1)).bind fun aa=> some (.more (Z,aa))) else(some (.done K.1))
def f49(fuel:Nat)(p0:Bz)(p1:A6)(p2:Int):Option (Int×Int):= (f69 fuel p0 p1).bind fun U=> if U≠0 then(some (0,U)) else((Av ((p1.length:Int) - 1)).bind fun V=> (f101 fuel p2 0 V).bind fun W=> if W=true then(some (0,3)) else((f78 fuel p0 p1 p2 false).bind fun K=> if K.2.2≠0 then(some (0,K.2.2)) else(Option.bind (iter (Na fuel p2 K) fuel (0,0)) fun O=> Option.bind (Option.bind (Option.bind (if 0<O then(some (decide (O<(K.2.1.2.length:Int)))) else(some false)) fun Z=> if Z=true then((Av (0+1)).bind fun aa=> (Av (aa+1)).bind fun ab=> some ab) else(if O=0 then((Av (0+1)).bind fun ae=> some ae) else(some 0))) fun ag=> (Av (ag+1)).bind fun ah=> some ah) fun ai=> some (ai,0))))
theorem SM{E:LH}{ak:Ao}{c2:Nat}{al:Ao}{am:Nat}{an:Ao}{ao:Nat}{p0:Bz}{p1:A6}{p2:Int}(ap:Ap (rL rI) E ak c2 p0.1)(aq:Ap (rL rI) E al am p0.2)(ar:Ap BM E an ao p1){fuel:Nat}{r:Int×Int}(au:f49 fuel p0 p1 p2=some r):AU (DR Tryz.prog) 49 [.agg #[sV ak p0.1 c2,sV al p0.2 am],sV an p1 ao,iV p2] E [] (fun w E' B'=>w= .tuple #[iV r.1,iV r.2]∧B'= []):=by
 refine Bj func49 fun Q cf cs H aN W=>?_;unfold f49 at au;refine zg 2 rfl (Cy aN fun cg ci K av aO=>?_);refine zg 6 rfl (Cf av Cs B4 rfl rfl ?_);obtain⟨ck,aP,aQ⟩:=bs au;refine zg 1 rfl (BJ (Ln (ap.Ai K) (aq.Ai K) (ar.Ai K) aP) rfl rfl Kg aO fun cm O aw=>?_);refine zg 7 rfl (AM aQ (fun aR aS=>?_) (fun aR aT=>?_))
 ·refine zg 6 rfl ?_;obtain rfl:=oi aS;exact AL func49 rfl rfl (W (K.Ab O) rfl ⟨rfl,rfl⟩ aw)
 ·refine zg 6 rfl (Bo underlying25 rfl rfl rfl ?_);obtain⟨cn,aU,aV⟩:=bs aT;refine Cd aU rfl rfl rfl ?_;obtain⟨co,aW,aX⟩:=bs aV;refine BJ (I2 aW) rfl rfl IL aw fun cp U ay=>JL.done (BK aX (fun aY aZ=>?_) (fun aY a0=>?_))
  ·refine zg 5 rfl ?_;obtain rfl:=oi aZ;exact AL func49 rfl rfl (W ((K.Ab O).Ab U) rfl ⟨rfl,rfl⟩ ay)
  ·refine zg 3 rfl (Cf (av.Ai (O.Ab U)) Cs B4 rfl rfl ?_);obtain⟨Z,a1,a2⟩:=bs a0;refine zg 2 rfl (BR (JZ (ap.Ai ((K.Ab O).Ab U)) (aq.Ai ((K.Ab O).Ab U)) (ar.Ai ((K.Ab O).Ab U)) a1) rfl rfl Je ay ?_);rintro _ cq _ az ⟨cr,aA,aB,rfl,rfl,ct,a3⟩ a4;refine zg 4 rfl (CN a4 FM fun aa a5=>?_);refine zg 1 rfl (BT 5 a5 Dq fun a6=>?_);refine Dr 5 a6 rfl fun cu ab aC aD=>zg 8 rfl (AM a2 (fun a7 a8=>?_) (fun a7 a9=>?_))
   ·refine zg 6 rfl ?_;obtain rfl:=oi a8;exact AL func49 rfl rfl (W ((((K.Ab O).Ab U).Ab az).Ab ab) rfl ⟨rfl,rfl⟩ aD)
   ·refine zg 8 rfl (JL.fl 1 aC underlying97 DF EJ ?_);refine Bo underlying95 rfl rfl rfl ?_;obtain⟨aE,ba,bb⟩:=bs a9;refine zg 2 rfl (CM [] [(10,pV aa 0),(12,iV aE)] (fun cv aF aG=>?_) (fun bc=>?_))
    ·obtain⟨bd,be,bf⟩:=bs bb;refine zg 5 rfl (CM [] [(15,iV bd)] (fun cw bg bh=>?_) (fun bi=>?_))
     ·refine zg 6 rfl ?_;obtain rfl:=oi bf;exact AL func49 rfl rfl (W ((((((K.Ab O).Ab U).Ab az).Ab ab).Ab aF).Ab bg) rfl ⟨rfl,rfl⟩ bh)
     ·obtain⟨bj,bl,bm⟩:=bs be;refine zg 2 rfl (CM [] [(15,iV bj)] (fun cy bn bo=>?_) (fun ae=>?_))
      ·obtain⟨cz,bp,bq⟩:=bs bm;refine zg 3 rfl (A9 bp rfl rfl rfl ?_);refine zg 3 rfl ?_;obtain rfl:=oi bq;exact bi bn bo rfl
      ·obtain⟨br,bu,bv⟩:=bs bl;refine zg 12 rfl (CS 9 1 [] [(12,iV aE),(15,iV 0),(61,.bool br)] (fun cA ag ah=>?_) (fun aH=>?_))
       ·refine zg 2 rfl (BK bv (fun bw bx=>?_) (fun bw bz=>?_))
        ·obtain⟨cB,bA,bB⟩:=bs bx;refine zg 3 rfl (A9 bA rfl rfl rfl ?_);obtain⟨cC,bC,bD⟩:=bs bB;refine zg 5 rfl (A9 bC rfl rfl rfl ?_);refine zg 3 rfl ?_;obtain rfl:=oi bD;exact ae ag ah rfl
        ·refine zg 7 rfl (AM bz (fun bE bF=>?_) (fun bE bG=>?_))
         ·obtain⟨cD,bH,bI⟩:=bs bF;refine zg 3 rfl (A9 bH rfl rfl rfl ?_);refine zg 3 rfl ?_;obtain rfl:=oi bI;exact ae ag ah rfl
         ·refine zg 2 rfl ?_;obtain rfl:=oi bG;exact ae ag ah rfl
       ·refine EE 55 bu (fun bJ bK=>?_) (fun bJ bL=>?_)
        ·refine zg 1 rfl (JL.fl 1 (aC.Ai aF) underlying97 DF EJ ?_);refine Bo underlying95 rfl rfl rfl (zg 2 rfl ?_);obtain rfl:=oi bK;exact aH Aq aG rfl
        ·refine zg 6 rfl ?_;obtain rfl:=oi bL;exact aH Aq aG rfl
    ·refine JL.block (CO ba (fun V=> []) (fun V=> [(2,iV p2),(10,pV aa 0),(12,iV V.1),(39,sV aA Z.2.1.2 aB),(40,iV (Z.2.1.2.length:Int)),(41,iV V.2)]) Aq aD ?_);rintro V cE ai aI bM ⟨cF,aj⟩ bN;have aJ:=aj;unfold Na at aJ;refine zg 5 rfl (AM aJ (fun bO bP=>?_) (fun bO bQ=>?_))
     ·obtain⟨cG,bR,bS⟩:=bs bP;refine zg 5 rfl (B5 (a3.Ai (ab.Ab ai)) bR underlying95 Co ?_);rintro cH cI _ ⟨_,_,rfl,rfl,⟨_,_,rfl,⟨cJ,cK,rfl,cM⟩,rfl⟩⟩ bT;refine Cf bT F3 Co rfl rfl (CN aI GY fun cN bU=>?_);refine BT 0 bU Co fun bV=>?_;refine Dr 0 bV rfl fun cO bW bY bZ=>zg 3 rfl (JL.fl 2 bY underlying104 Ew GW ?_);obtain⟨cP,b0,b1⟩:=bs bS;refine zg 1 rfl (BJ (OM b0) rfl rfl NJ bZ fun cQ b2 aK=>?_);obtain⟨aL,b3,b4⟩:=bs b1;refine JL.done (CM [] [(2,iV p2),(10,pV aa 0),(12,iV aL),(39,sV aA Z.2.1.2 aB),(40,iV (Z.2.1.2.length:Int)),(41,iV V.2)] (fun cR b5 b6=>?_) (fun aM=>?_))
      ·obtain⟨b7,b8,b9⟩:=bs b4;refine zg 2 rfl (A9 b8 rfl rfl rfl ?_);refine zg 2 rfl ?_;obtain rfl:=oi b9;exact bN (aL,b7) (((ai.Ab bW).Ab b2).Ab b5) b6 rfl aj
      ·refine BK b3 (fun ca cb=>?_) (fun ca cc=>?_)
       ·obtain⟨cT,cd,ce⟩:=bs cb;refine zg 2 rfl (A9 cd rfl rfl rfl ?_);refine zg 2 rfl ?_;obtain rfl:=oi ce;exact aM Aq aK rfl
       ·refine JL.skip ?_;obtain rfl:=oi cc;exact aM Aq aK rfl
     ·refine JL.exit rfl ?_;obtain rfl:=oi bQ;obtain rfl:=bM _ aj;exact bc ai aI rfl
end Pal
namespace Pal
open Go Go.Conc Go.Proofs
open Go.Proofs.Tryz
def f22(fuel:Nat):Option Bool:= (f71 fuel).bind fun ae=> (f51 fuel ae 4).bind fun U=> (f71 fuel).bind fun ag=> (f57 fuel ag 5).bind fun V=> (f71 fuel).bind fun ah=> (f72 fuel).bind fun ai=> (f43 fuel ah ai 2).bind fun W=> (f71 fuel).bind fun aj=> (f28 fuel aj ([])).bind fun Z=> (f71 fuel).bind fun ak=> (f73 fuel).bind fun al=> (f49 fuel ak al 1).bind fun aa=> (f71 fuel).bind fun am=> (f35 fuel am ([])).bind fun K=> (f71 fuel).bind fun an=> (f72 fuel).bind fun ao=> (f72 fuel).bind fun ap=> (f37 fuel an ao ap).bind fun ab=> (f71 fuel).bind fun aq=> (f73 fuel).bind fun ar=> (f30 fuel aq ar).bind fun O=> Option.bind (if U.2=0 then(some (decide (V.2=0))) else(some false)) fun au=> Option.bind (if au=true then(some (decide (W.2=0))) else(some false)) fun av=> Option.bind (if av=true then(some (decide (Z.2=0))) else(some false)) fun aw=> Option.bind (if aw=true then(some (decide (aa.2=0))) else(some false)) fun ay=> Option.bind (if ay=true then(some (decide (K.2.2=0))) else(some false)) fun az=> Option.bind (if az=true then(some (decide (ab.2=0))) else(some false)) fun aA=> Option.bind (if aA=true then(some (decide (O.2.2=0))) else(some false)) fun aB=> Option.bind (if aB=true then(some (decide (V.1=3))) else(some false)) fun aC=> Option.bind (if aC=true then(some (decide (Z.1=15))) else(some false)) fun aD=> Option.bind (if aD=true then(some (decide (aa.1=1))) else(some false)) fun aE=> Option.bind (if aE=true then(some (decide (K.1=0))) else(some false)) fun aF=> Option.bind (if aF=true then(some (decide (K.2.1=9))) else(some false)) fun aG=> Option.bind (if aG=true then(some ab.1) else(some false)) fun aH=> Option.bind (if aH=true then(some (decide (O.1=3))) else(some false)) fun aI=> Option.bind (if aI=true then((f32 fuel U.1 ([4,5]:List Int)).bind fun aJ=> some aJ) else(some false)) fun aK=> Option.bind (if aK=true then((f32 fuel W.1 ([2,3,4]:List Int)).bind fun aL=> some aL) else(some false)) fun aM=> Option.bind (if aM=true then((f32 fuel O.2.1 ([3,4]:List Int)).bind fun aN=> some aN) else(some false)) fun aO=> some aO
theorem SR{E:LH}{fuel:Nat}{r:Bool}(aS:f22 fuel=some r):AU (DR Tryz.prog) 22 [] E [] (fun w E' B'=>w= .bool r∧B'= []):=by
 refine Bj func22 fun Q fD cs H bD bE=>?_;unfold f22 at aS;obtain⟨fE,bF,bG⟩:=bs aS;refine zg 6 rfl (BR (Iw bF) rfl rfl Ia bD ?_);rintro _ fF _ bH ⟨fG,fH,fI,fJ,rfl,rfl,bI,bJ⟩ bK;obtain⟨ae,bL,bM⟩:=bs bG;refine BR (Y8 bI bJ bL) rfl rfl (A3 func51 rfl) bK ?_;rintro _ fK _ bN ⟨ag,ah,rfl,rfl,bO⟩ bP;obtain⟨fL,bQ,bR⟩:=bs bM;refine zg 8 rfl (BR (Iw bQ) rfl rfl Ia bP ?_);rintro _ fM _ aT ⟨fN,fO,fP,fQ,rfl,rfl,bS,bT⟩ bU;obtain⟨ak,bV,bW⟩:=bs bR;refine BJ (YS bS bT bV) rfl rfl (A3 func57 rfl) bU fun fR aU bY=>?_;obtain⟨fS,bZ,b0⟩:=bs bW;refine zg 8 rfl (BR (Iw bZ) rfl rfl Ia bY ?_);rintro _ fT _ aV ⟨fU,fW,fX,fY,rfl,rfl,b1,b2⟩ b3;obtain⟨fZ,b4,b5⟩:=bs b0;refine BR (Pd b4) rfl rfl NP b3 ?_;rintro _ ga _ ap ⟨gb,gc,rfl,rfl,b6⟩ b7;obtain⟨V,b8,b9⟩:=bs b5;refine BR (S4 (b1.Ai ap) (b2.Ai ap) b6 b8) rfl rfl (A3 func43 rfl) b7 ?_;rintro _ gd _ aW ⟨aa,ab,rfl,rfl,ca⟩ cb;obtain⟨ge,cc,cd⟩:=bs b9;refine zg 8 rfl (BR (Iw cc) rfl rfl Ia cb ?_);rintro _ gf _ aH ⟨gg,gh,gi,gj,rfl,rfl,ce,cf⟩ cg;obtain⟨aj,ci,ck⟩:=bs cd;refine BJ (SY ce cf Ap.nil ci) rfl rfl (A3 func28 rfl) cg fun gk aI cm=>?_;obtain⟨gl,cn,co⟩:=bs ck;refine zg 8 rfl (BR (Iw cn) rfl rfl Ia cm ?_);rintro _ gm _ aJ ⟨gn,gp,gq,gr,rfl,rfl,cp,cq⟩ cr;obtain⟨gt,ct,cu⟩:=bs co;refine BR (SJ ct) rfl rfl (A3 func73 rfl) cr ?_;rintro _ gu _ am ⟨gv,gw,rfl,rfl,cv⟩ cw;obtain⟨ai,cy,cz⟩:=bs cu;refine BJ (SM (cp.Ai am) (cq.Ai am) cv cy) rfl rfl (A3 func49 rfl) cw fun gx aK cA=>?_;obtain⟨gy,cB,cC⟩:=bs cz;refine zg 8 rfl (BR (Iw cB) rfl rfl Ia cA ?_);rintro _ gz _ aL ⟨gA,gB,gC,gD,rfl,rfl,cD,cE⟩ cF;obtain⟨O,cG,cH⟩:=bs cC;refine BJ (YP cD cE Ap.nil cG) rfl rfl (A3 func35 rfl) cF fun gE aM cI=>?_;obtain⟨gF,cJ,cK⟩:=bs cH;refine zg 10 rfl (BR (Iw cJ) rfl rfl Ia cI ?_);rintro _ gG _ aN ⟨gH,gI,gJ,gK,rfl,rfl,cM,cN⟩ cO;obtain⟨gL,cP,cQ⟩:=bs cK;refine BR (Pd cP) rfl rfl NP cO ?_;rintro _ gM _ an ⟨gN,gO,rfl,rfl,cR⟩ cT;obtain⟨gP,cV,cW⟩:=bs cQ;refine BR (Pd cV) rfl rfl NP cT ?_;rintro _ gQ _ al ⟨gR,gS,rfl,rfl,cX⟩ cY;obtain⟨U,cZ,c0⟩:=bs cW;refine BJ (YQ (cM.Ai (an.Ab al)) (cN.Ai (an.Ab al)) (cR.Ai al) cX cZ) rfl rfl (A3 func37 rfl) cY fun gT aO c1=>?_;obtain⟨gU,c2,c3⟩:=bs c0;refine zg 8 rfl (BR (Iw c2) rfl rfl Ia c1 ?_);rintro _ gV _ aP ⟨gW,gX,gY,gZ,rfl,rfl,c4,c5⟩ c6;obtain⟨g0,c7,c8⟩:=bs c3;refine BR (SJ c7) rfl rfl (A3 func73 rfl) c6 ?_;rintro _ g1 _ ao ⟨g3,g4,rfl,rfl,c9⟩ da;obtain⟨K,db,dc⟩:=bs c8;refine BR (SN (c4.Ai ao) (c5.Ai ao) c9 db) rfl rfl (A3 func30 rfl) da ?_;rintro _ g5 _ aQ ⟨W,Z,rfl,rfl,dd⟩ aX;obtain⟨de,df,dg⟩:=bs dc;refine zg 13 rfl (CS 6 67 [] [(1,sV ag ae.1 ah),(3,iV ak.1),(5,sV aa V.1 ab),(6,iV V.2),(7,iV aj.1),(8,iV aj.2),(9,iV ai.1),(10,iV ai.2),(11,iV O.1),(12,iV O.2.1),(13,iV O.2.2),(14,.bool U.1),(15,iV U.2),(16,iV K.1),(17,sV W K.2.1 Z),(18,iV K.2.2),(71,.bool de)] (fun g6 aq aY=>?_) (fun aZ=>?_))
 ·obtain⟨dh,di,dj⟩:=bs dg;refine zg 1 rfl (CS 10 63 [] [(1,sV ag ae.1 ah),(3,iV ak.1),(5,sV aa V.1 ab),(7,iV aj.1),(8,iV aj.2),(9,iV ai.1),(10,iV ai.2),(11,iV O.1),(12,iV O.2.1),(13,iV O.2.2),(14,.bool U.1),(15,iV U.2),(16,iV K.1),(17,sV W K.2.1 Z),(18,iV K.2.2),(75,.bool dh)] (fun g7 ar a0=>?_) (fun a1=>?_))
  ·obtain⟨dk,dl,dm⟩:=bs dj;refine zg 1 rfl (CS 14 59 [] [(1,sV ag ae.1 ah),(3,iV ak.1),(5,sV aa V.1 ab),(7,iV aj.1),(9,iV ai.1),(10,iV ai.2),(11,iV O.1),(12,iV O.2.1),(13,iV O.2.2),(14,.bool U.1),(15,iV U.2),(16,iV K.1),(17,sV W K.2.1 Z),(18,iV K.2.2),(79,.bool dk)] (fun g8 au a2=>?_) (fun a3=>?_))
   ·obtain⟨dn,dp,dq⟩:=bs dm;refine zg 1 rfl (CS 18 55 [] [(1,sV ag ae.1 ah),(3,iV ak.1),(5,sV aa V.1 ab),(7,iV aj.1),(9,iV ai.1),(11,iV O.1),(12,iV O.2.1),(13,iV O.2.2),(14,.bool U.1),(15,iV U.2),(16,iV K.1),(17,sV W K.2.1 Z),(18,iV K.2.2),(83,.bool dn)] (fun g9 av a4=>?_) (fun a5=>?_))
    ·obtain⟨dr,dt,du⟩:=bs dq;refine zg 1 rfl (CS 22 51 [] [(1,sV ag ae.1 ah),(3,iV ak.1),(5,sV aa V.1 ab),(7,iV aj.1),(9,iV ai.1),(11,iV O.1),(12,iV O.2.1),(14,.bool U.1),(15,iV U.2),(16,iV K.1),(17,sV W K.2.1 Z),(18,iV K.2.2),(87,.bool dr)] (fun ha aw a6=>?_) (fun a7=>?_))
     ·obtain⟨dv,dw,dx⟩:=bs du;refine zg 1 rfl (CS 26 47 [] [(1,sV ag ae.1 ah),(3,iV ak.1),(5,sV aa V.1 ab),(7,iV aj.1),(9,iV ai.1),(11,iV O.1),(12,iV O.2.1),(14,.bool U.1),(16,iV K.1),(17,sV W K.2.1 Z),(18,iV K.2.2),(91,.bool dv)] (fun hb ay a8=>?_) (fun a9=>?_))
      ·obtain⟨dy,dz,dA⟩:=bs dx;refine zg 1 rfl (CS 30 43 [] [(1,sV ag ae.1 ah),(3,iV ak.1),(5,sV aa V.1 ab),(7,iV aj.1),(9,iV ai.1),(11,iV O.1),(12,iV O.2.1),(14,.bool U.1),(16,iV K.1),(17,sV W K.2.1 Z),(95,.bool dy)] (fun hc az ba=>?_) (fun bb=>?_))
       ·obtain⟨dB,dC,dD⟩:=bs dA;refine zg 1 rfl (CS 34 39 [] [(1,sV ag ae.1 ah),(5,sV aa V.1 ab),(7,iV aj.1),(9,iV ai.1),(11,iV O.1),(12,iV O.2.1),(14,.bool U.1),(16,iV K.1),(17,sV W K.2.1 Z),(99,.bool dB)] (fun he aA bc=>?_) (fun bd=>?_))
        ·obtain⟨dE,dF,dG⟩:=bs dD;refine zg 1 rfl (CS 38 35 [] [(1,sV ag ae.1 ah),(5,sV aa V.1 ab),(9,iV ai.1),(11,iV O.1),(12,iV O.2.1),(14,.bool U.1),(16,iV K.1),(17,sV W K.2.1 Z),(103,.bool dE)] (fun hf aB be=>?_) (fun bf=>?_))
         ·obtain⟨dH,dI,dJ⟩:=bs dG;refine zg 1 rfl (CS 42 31 [] [(1,sV ag ae.1 ah),(5,sV aa V.1 ab),(11,iV O.1),(12,iV O.2.1),(14,.bool U.1),(16,iV K.1),(17,sV W K.2.1 Z),(107,.bool dH)] (fun hj aC bg=>?_) (fun bh=>?_))
          ·obtain⟨dK,dL,dM⟩:=bs dJ;refine zg 1 rfl (CS 46 27 [] [(1,sV ag ae.1 ah),(5,sV aa V.1 ab),(12,iV O.2.1),(14,.bool U.1),(16,iV K.1),(17,sV W K.2.1 Z),(111,.bool dK)] (fun hk aD bi=>?_) (fun bj=>?_))
           ·obtain⟨dN,dO,dP⟩:=bs dM;refine zg 1 rfl (CS 50 23 [] [(1,sV ag ae.1 ah),(5,sV aa V.1 ab),(14,.bool U.1),(16,iV K.1),(17,sV W K.2.1 Z),(115,.bool dN)] (fun hl aE bl=>?_) (fun bm=>?_))
            ·obtain⟨dQ,dR,dS⟩:=bs dP;refine zg 1 rfl (CS 53 20 [] [(1,sV ag ae.1 ah),(5,sV aa V.1 ab),(16,iV K.1),(17,sV W K.2.1 Z),(118,.bool dQ)] (fun hm aF bn=>?_) (fun bo=>?_))
             ·obtain⟨dT,dU,dV⟩:=bs dS;refine zg 1 rfl (CS 57 16 [] [(1,sV ag ae.1 ah),(5,sV aa V.1 ab),(17,sV W K.2.1 Z),(122,.bool dT)] (fun hn aG bp=>?_) (fun bq=>?_))
              ·obtain⟨dW,dX,dY⟩:=bs dV;refine zg 1 rfl (CS 62 11 [] [(5,sV aa V.1 ab),(17,sV W K.2.1 Z),(127,.bool dW)] (fun ho aR br=>?_) (fun bu=>?_))
               ·obtain⟨dZ,ea,eb⟩:=bs dY;refine zg 1 rfl (CS 67 6 [] [(17,sV W K.2.1 Z),(132,.bool dZ)] (fun hp bv bw=>?_) (fun bx=>?_))
                ·obtain⟨ec,ed,ee⟩:=bs eb;refine zg 1 rfl (CS 72 1 [] [(137,.bool ec)] (fun hq ef eg=>?_) (fun bz=>?_))
                 ·refine zg 2 rfl ?_;obtain rfl:=oi ee;exact AL func22 rfl rfl (bE (((((((((((((((((((((((((((((((((((((bH.Ab bN).Ab aT).Ab aU).Ab aV).Ab ap).Ab aW).Ab aH).Ab aI).Ab aJ).Ab am).Ab aK).Ab aL).Ab aM).Ab aN).Ab an).Ab al).Ab aO).Ab aP).Ab ao).Ab aQ).Ab aq).Ab ar).Ab au).Ab av).Ab aw).Ab ay).Ab az).Ab aA).Ab aB).Ab aC).Ab aD).Ab aE).Ab aF).Ab aG).Ab aR).Ab bv).Ab ef) rfl ⟨rfl,rfl⟩ eg)
                 ·refine C8 133 ed (fun eh ei=>?_) (fun eh ej=>?_)
                  ·refine zg 1 rfl (JS.lit (pp:=rI) [iV 3,iV 4] [3,4] rfl rfl rfl underlying28 AN Cp (by decide) rfl rfl rfl ⟨rfl,rfl,trivial⟩ bw fun hr hu ek el=>?_);refine Cc 0 ek el rfl fun hv bA em en=>?_;obtain⟨hw,eo,ep⟩:=bs ei;refine BJ (Lg (dd.Ai ((((((((((((((((aq.Ab ar).Ab au).Ab av).Ab aw).Ab ay).Ab az).Ab aA).Ab aB).Ab aC).Ab aD).Ab aE).Ab aF).Ab aG).Ab aR).Ab bv).Ab bA)) em eo) rfl rfl Kh en fun hx eq er=>zg 1 rfl ?_;obtain rfl:=oi ep;exact bz (bA.Ab eq) er rfl
                  ·refine zg 4 rfl ?_;obtain rfl:=oi ej;exact bz Aq bw rfl
                ·refine C8 128 ea (fun et eu=>?_) (fun et ew=>?_)
                 ·refine zg 1 rfl (JS.lit (pp:=rI) [iV 2,iV 3,iV 4] [2,3,4] rfl rfl rfl underlying28 AN Cp (by decide) rfl rfl rfl ⟨rfl,rfl,rfl,trivial⟩ br fun hy hz ex ey=>?_);refine Cc 0 ex ey rfl fun hA bB ez eA=>?_;obtain⟨hB,eB,eC⟩:=bs eu;refine BJ (Lg (ca.Ai (((((((((((((((((((((((((((((aH.Ab aI).Ab aJ).Ab am).Ab aK).Ab aL).Ab aM).Ab aN).Ab an).Ab al).Ab aO).Ab aP).Ab ao).Ab aQ).Ab aq).Ab ar).Ab au).Ab av).Ab aw).Ab ay).Ab az).Ab aA).Ab aB).Ab aC).Ab aD).Ab aE).Ab aF).Ab aG).Ab aR).Ab bB)) ez eB) rfl rfl Kh eA fun hC eD eE=>zg 1 rfl ?_;obtain rfl:=oi eC;exact bx (bB.Ab eD) eE rfl
                 ·refine zg 4 rfl ?_;obtain rfl:=oi ew;exact bx Aq br rfl
               ·refine C8 123 dX (fun eF eG=>?_) (fun eF eH=>?_)
                ·refine zg 1 rfl (JS.lit (pp:=rI) [iV 4,iV 5] [4,5] rfl rfl rfl underlying28 AN Cp (by decide) rfl rfl rfl ⟨rfl,rfl,trivial⟩ bp fun hD hE eI eJ=>?_);refine Cc 0 eI eJ rfl fun hF bC eK eL=>?_;obtain⟨hG,eM,eN⟩:=bs eG;refine BJ (Lg (bO.Ai (((((((((((((((((((((((((((((((((aT.Ab aU).Ab aV).Ab ap).Ab aW).Ab aH).Ab aI).Ab aJ).Ab am).Ab aK).Ab aL).Ab aM).Ab aN).Ab an).Ab al).Ab aO).Ab aP).Ab ao).Ab aQ).Ab aq).Ab ar).Ab au).Ab av).Ab aw).Ab ay).Ab az).Ab aA).Ab aB).Ab aC).Ab aD).Ab aE).Ab aF).Ab aG).Ab bC)) eK eM) rfl rfl Kh eL fun hH eO eP=>zg 1 rfl ?_;obtain rfl:=oi eN;exact bu (bC.Ab eO) eP rfl
                ·refine zg 4 rfl ?_;obtain rfl:=oi eH;exact bu Aq bp rfl
              ·refine C8 119 dU (fun eQ eR=>?_) (fun eQ eS=>?_)
               ·refine zg 3 rfl ?_;obtain rfl:=oi eR;exact bq Aq bn rfl
               ·refine zg 3 rfl ?_;obtain rfl:=oi eS;exact bq Aq bn rfl
             ·refine C8 116 dR (fun eT eU=>?_) (fun eT eV=>?_)
              ·refine zg 2 rfl ?_;obtain rfl:=oi eU;exact bo Aq bl rfl
              ·refine zg 2 rfl ?_;obtain rfl:=oi eV;exact bo Aq bl rfl
            ·refine C8 112 dO (fun eW eX=>?_) (fun eW eY=>?_)
             ·refine zg 3 rfl ?_;obtain rfl:=oi eX;exact bm Aq bi rfl
             ·refine zg 3 rfl ?_;obtain rfl:=oi eY;exact bm Aq bi rfl
           ·refine C8 108 dL (fun eZ e0=>?_) (fun eZ e1=>?_)
            ·refine zg 3 rfl ?_;obtain rfl:=oi e0;exact bj Aq bg rfl
            ·refine zg 3 rfl ?_;obtain rfl:=oi e1;exact bj Aq bg rfl
          ·refine C8 104 dI (fun e3 e4=>?_) (fun e3 e5=>?_)
           ·refine zg 3 rfl ?_;obtain rfl:=oi e4;exact bh Aq be rfl
           ·refine zg 3 rfl ?_;obtain rfl:=oi e5;exact bh Aq be rfl
         ·refine C8 100 dF (fun e6 e7=>?_) (fun e6 e8=>?_)
          ·refine zg 3 rfl ?_;obtain rfl:=oi e7;exact bf Aq bc rfl
          ·refine zg 3 rfl ?_;obtain rfl:=oi e8;exact bf Aq bc rfl
        ·refine C8 96 dC (fun e9 fa=>?_) (fun e9 fb=>?_)
         ·refine zg 3 rfl ?_;obtain rfl:=oi fa;exact bd Aq ba rfl
         ·refine zg 3 rfl ?_;obtain rfl:=oi fb;exact bd Aq ba rfl
       ·refine C8 92 dz (fun fc fd=>?_) (fun fc fe=>?_)
        ·refine zg 3 rfl ?_;obtain rfl:=oi fd;exact bb Aq a8 rfl
        ·refine zg 3 rfl ?_;obtain rfl:=oi fe;exact bb Aq a8 rfl
      ·refine C8 88 dw (fun ff fg=>?_) (fun ff fh=>?_)
       ·refine zg 3 rfl ?_;obtain rfl:=oi fg;exact a9 Aq a6 rfl
       ·refine zg 3 rfl ?_;obtain rfl:=oi fh;exact a9 Aq a6 rfl
     ·refine C8 84 dt (fun fj fk=>?_) (fun fj fm=>?_)
      ·refine zg 3 rfl ?_;obtain rfl:=oi fk;exact a7 Aq a4 rfl
      ·refine zg 3 rfl ?_;obtain rfl:=oi fm;exact a7 Aq a4 rfl
    ·refine C8 80 dp (fun fo fp=>?_) (fun fo fq=>?_)
     ·refine zg 3 rfl ?_;obtain rfl:=oi fp;exact a5 Aq a2 rfl
     ·refine zg 3 rfl ?_;obtain rfl:=oi fq;exact a5 Aq a2 rfl
   ·refine C8 76 dl (fun fu fv=>?_) (fun fu fw=>?_)
    ·refine zg 3 rfl ?_;obtain rfl:=oi fv;exact a3 Aq a0 rfl
    ·refine zg 3 rfl ?_;obtain rfl:=oi fw;exact a3 Aq a0 rfl
  ·refine C8 72 di (fun fx fy=>?_) (fun fx fz=>?_)
   ·refine zg 3 rfl ?_;obtain rfl:=oi fy;exact a1 Aq aY rfl
   ·refine zg 3 rfl ?_;obtain rfl:=oi fz;exact a1 Aq aY rfl
 ·refine EE 68 df (fun fA fB=>?_) (fun fA fC=>?_)
  ·refine zg 3 rfl ?_;obtain rfl:=oi fB;exact aZ Aq aX rfl
  ·refine zg 3 rfl ?_;obtain rfl:=oi fC;exact aZ Aq aX rfl
end Pal
namespace Pal
open Go Go.Conc Go.Proofs
open Go.Proofs.Tryz
variable {J:Judge Tryz.prog}{E:LH}
def M5(fuel:Nat)(V:Int×(BZ))(W:(List (List Int))×(List (List Int))×(List Int)×Int×Nat×Int)(K:(List Int)×Int×Nat×(List Int)×Int):Option (Bn ((List Int)×Int×Nat×(List Int)×Int) ((List Int)×BZ)):= Option.bind (if 0<K.2.2.2.2 then(some (decide (1<V.1))) else(some false)) fun aa=> if aa=true then((Av (W.2.2.2.2.2 - 1)).bind fun ab=> (f41 fuel (K.1,K.2.1,K.2.2.1) (max (0) ab)).bind fun Z=> (f97 fuel Z.2 6).bind fun O=> Option.bind (if O.1=true then((Av (V.1 - 1)).bind fun ae=> (f41 fuel O.2 ae).bind fun ag=> some ag) else(some (Z.1,O.2.1,O.2.2.1,O.2.2.2))) fun U=> Option.bind (if U.1≠W.2.2.2.2.2 then((f98 fuel K.2.2.2.1 U.1).bind fun ah=> some ah) else(some K.2.2.2.1)) fun ai=> (Av (K.2.2.2.2 - 1)).bind fun aj=> some (.more (U.2.1,U.2.2.1,U.2.2.2,ai,aj))) else(some (.done (K.2.2.2.1,K.1,K.2.1,K.2.2.1)))
def M0(fuel:Nat)(O:Int×(BZ))(K:(List (List Int))×(List (List Int))×(List Int)×Int×Nat×Int):Option (Bn ((List (List Int))×(List (List Int))×(List Int)×Int×Nat×Int) ((List Int)×Int×Nat×Bz)):= if K.2.2.2.2.2<O.1 then((Av (O.1 - 1)).bind fun ae=> (Av (K.2.2.2.2.2+1)).bind fun ag=> (f97 fuel (K.2.2.1,K.2.2.2.1,K.2.2.2.2.1) 3).bind fun U=> Option.bind (if U.1=true then((Av (O.1 - 1)).bind fun aj=> (f96 fuel U.2 K.2.2.2.2.2 aj).bind fun W=> (f98 fuel ([min ae ag]:List Int) W.1).bind fun ak=> some (ak,W.2.1,W.2.2.1,W.2.2.2)) else(some (([min ae ag]:List Int),U.2.1,U.2.2.1,U.2.2.2))) fun ah=> (f97 fuel ah.2 8).bind fun V=> Option.bind (if V.1=true then((Av (O.1 - 1)).bind fun al=> (f41 fuel V.2 al).bind fun Z=> some (([Z.1]:List Int),Z.2.1,Z.2.2.1,Z.2.2.2)) else(some (ah.1,V.2.1,V.2.2.1,V.2.2.2))) fun ai=> (f99 fuel ai.2 ([0,1,1,2]:List Int)).bind fun aa=> Option.bind (iter (M5 fuel O K) fuel (aa.2.1,aa.2.2.1,aa.2.2.2,[],aa.1)) fun ab=> (Dy K.1 ([ai.1]:List (List Int))).bind fun am=> (Dy K.2.1 ([ab.1]:List (List Int))).bind fun an=> (Av (K.2.2.2.2.2+1)).bind fun ao=> some (.more (am,an,ab.2.1,ab.2.2.1,ab.2.2.2,ao))) else(some (.done (K.2.2.1,K.2.2.2.1,K.2.2.2.2.1,K.1,K.2.1)))
def f39(fuel:Nat)(p0:BZ)(p1:Int):Option ((Bz)×(BZ)):= (f96 fuel p0 1 p1).bind fun K=> Option.bind (iter (M0 fuel K) fuel ([],[],K.2.1,K.2.2.1,K.2.2.2,0)) fun O=> some (O.2.2.2,(O.1,O.2.1,O.2.2.1))
theorem YT{bk:Nat}{bK:Ao}{c2:Nat}{p0:BZ}{p1:Int}(cT:Ap rI E bK c2 p0.1){fuel:Nat}{r:(Bz)×(BZ)}(bL:f39 fuel p0 p1=some r):AU J 39 [pV bk 0,iV p1] E [(bk,.cells #[sV bK p0.1 c2,iV p0.2.1,.int .u64 ((p0.2.2:Nat):Int)] 92 (0,0))] (fun w E' B'=>∃(bM:Ao) (bN:Nat) (bO:Ao) (bP:Nat) (bQ:Ao) (bR:Nat),w= .agg #[sV bM r.1.1 bN,sV bO r.1.2 bP]∧B'= [(bk,.cells #[sV bQ r.2.1 bR,iV r.2.2.1,.int .u64 ((r.2.2.2:Nat):Int)] 92 (0,0))]∧Ap (rL rI) E' bM bN r.1.1∧Ap (rL rI) E' bO bP r.1.2∧Ap rI E' bQ bR r.2.1):=by
 refine Bj func39 fun Q hf cs H cV cW=>?_;unfold f39 at bL;refine zg 2 rfl (CN cV Kk fun U cX=>?_);refine zg 3 rfl (CN cX Kk fun O cY=>?_);obtain⟨am,cZ,c0⟩:=bs bL;refine zg 5 rfl (B8 0 (Pb cT cZ) rfl rfl NO cY rfl ?_);rintro _ ba _ c1 ⟨bS,bT,rfl,rfl,c3⟩ c4;refine CG (S':= [[(bk,.cells #[sV bS am.2.1 bT,iV am.2.2.1,.int .u64 ((am.2.2.2:Nat):Int)] 92 (0,0))],[(U,.cells #[nS,nS] 24 (0,0))],[(O,.cells #[nS,nS] 24 (0,0))]]) rfl c4 fun c5=>?_;obtain⟨W,c6,c7⟩:=bs c0;refine zg 7 rfl (Bs (fun L s=>∃(aP:LH) (aQ:Ao) (aR:Nat) (aq:Ao) (ar:Nat) (bb:Seg) (au:Ao) (av:Nat) (bc:Seg),Jn ba H aP [bX bk #[sV aQ W.1 aR,iV W.2.1,.int .u64 ((W.2.2.1:Nat):Int)] 92,bX U #[nS,nS] 24,bX O #[sV aq W.2.2.2.1 ar,sV au W.2.2.2.2 av] 24,bb,bc] [(4,pV U 0),(5,pV O 0)] L s (Ap rI aP aQ aR W.1∧OL 28 (rL rI) aP aq ar bb W.2.2.2.1∧OL 28 (rL rI) aP au av bc W.2.2.2.2)) ?_ ?_)
 ·rintro _ _ ⟨aP,aQ,aR,aq,ar,bb,au,av,bc,rfl,rfl,c8,bU,c9,da,db⟩;refine zg 2 rfl (Ay rfl (fun ρ h=>FQ (vs:= [sV aq W.2.2.2.1 ar,sV au W.2.2.2.2 av]) Cs B4 (h _ _ rfl) (FN (off:=0) 2 bU rfl rfl)) ?_);refine BT 1 bU B4 fun dc=>?_;refine JL.done (Cc 3 da dc rfl fun hj bd dd de=>?_);refine Cc 4 (db.Ai bd) de rfl fun hk be df dg=>CG (S':= [[(bk,.cells #[sV aQ W.1 aR,iV W.2.1,.int .u64 ((W.2.2.1:Nat):Int)] 92 (0,0))],[(U,.cells #[sV aq W.2.2.2.1 ar,sV au W.2.2.2.2 av] 24 (0,0))],[(O,.cells #[sV aq W.2.2.2.1 ar,sV au W.2.2.2.2 av] 24 (0,0))],[],[]]) rfl dg fun dh=>JS.drop 2 dh rfl fun bV=>?_;obtain rfl:=oi c7;refine JL.ret (v:= .agg #[sV aq W.2.2.2.1 ar,sV au W.2.2.2.2 av]) rfl rfl (B6.list func39 rfl (vs:= [.agg #[sV aq W.2.2.2.1 ar,sV au W.2.2.2.2 av]]) ⟨⟨_,rfl,Ld.many (vs:= [sV aq W.2.2.2.1 ar,sV au W.2.2.2.2 av]) Cs B4 (FN (off:=0) 1 bV rfl rfl)⟩,trivial⟩) (HR 1 bV rfl fun di=>?_);exact cW (((c1.Ab c8).Ab bd).Ab be) rfl ⟨aq,ar,au,av,aQ,aR,rfl,rfl,(dd.Ai be),df,(c9.Ai (bd.Ab be))⟩ di
 ·intro dj;refine JL.block (CE c6 (fun L s K=>∃(aJ:LH) (Z:Ao) (aa:Nat) (ag:Seg) (ab:Ao) (ae:Nat) (ah:Seg) (aY:Ao) (aZ:Nat),Jn ba H aJ [bX bk #[sV aY K.2.2.1 aZ,iV K.2.2.2.1,.int .u64 ((K.2.2.2.2.1:Nat):Int)] 92,bX U #[nS,nS] 24,bX O #[sV Z K.1 aa,sV ab K.2.1 ae] 24,ag,ah] [(0,pV bk 0),(4,pV U 0),(5,pV O 0),(6,iV am.1),(7,iV K.2.2.2.2.2)] L s (OL 28 (rL rI) aJ Z aa ag K.1∧OL 28 (rL rI) aJ ab ae ah K.2.1∧Ap rI aJ aY aZ K.2.2.1)) ⟨ba,none,0,[],none,0,[],bS,bT,rfl,rfl,Aq,c5,OL.nil,OL.nil,c3⟩ ?_);rintro _ _ K ⟨aJ,Z,aa,ag,ab,ae,ah,aY,aZ,rfl,rfl,a0,bW,a1,a2,bY⟩ dk ⟨hl,aS⟩ bf;have bZ:=aS;unfold M0 at bZ;refine zg 7 rfl (AM bZ (fun dl dm=>?_) (fun dl dn=>?_))
  ·obtain⟨bg,dp,dq⟩:=bs dm;refine zg 6 rfl (Cd dp rfl rfl rfl ?_);obtain⟨bh,dr,dt⟩:=bs dq;refine zg 1 rfl (A9 dr rfl rfl rfl ?_);refine Ay (v:=iV (min bg bh)) rfl (fun ρ h=>Yl.min2 (h _ _ rfl) (h _ _ rfl)) (JS.lit (pp:=rI) [iV (min bg bh)] [min bg bh] rfl rfl rfl underlying28 AN Cp (by decide) rfl rfl rfl ⟨rfl,trivial⟩ bW fun du dv b0 dw=>?_);obtain⟨bi,dx,dy⟩:=bs dt;refine zg 6 rfl (B8 0 (Lj bY dx) rfl rfl Ki dw rfl ?_);rintro _ dz _ an ⟨b1,b2,rfl,rfl,b3⟩ b4;obtain⟨aK,dA,dB⟩:=bs dy;refine JL.done (Bs (fun L s=>∃(a3:LH) (a4:Ao) (a5:Nat) (bj:Ao) (bl:Nat),Jn dz H a3 [bX bk #[sV bj aK.2.1 bl,iV aK.2.2.1,.int .u64 ((aK.2.2.2:Nat):Int)] 92,bX U #[nS,nS] 24,bX O #[sV Z K.1 aa,sV ab K.2.1 ae] 24,ag,ah] [(0,pV bk 0),(4,pV U 0),(5,pV O 0),(6,iV am.1),(7,iV K.2.2.2.2.2),(8,sV a4 aK.1 a5)] L s (Ap rI a3 a4 a5 aK.1∧Ap rI a3 bj bl aK.2.1)) ?_ ?_)
   ·rintro _ _ ⟨a3,a4,a5,bj,bl,rfl,rfl,aA,dC,dD,dE⟩;obtain⟨bm,dF,dG⟩:=bs dB;refine zg 4 rfl (B8 0 (Lj dE dF) rfl rfl Ki dC rfl ?_);rintro _ b5 _ aw ⟨b6,b7,rfl,rfl,b8⟩ dH;refine CG (S':= [[(bk,.cells #[sV b6 bm.2.1 b7,iV bm.2.2.1,.int .u64 ((bm.2.2.2:Nat):Int)] 92 (0,0))],[(U,.cells #[nS,nS] 24 (0,0))],[(O,.cells #[sV Z K.1 aa,sV ab K.2.1 ae] 24 (0,0))],ag,ah]) rfl dH fun b9=>?_;obtain⟨aj,dI,dJ⟩:=bs dG;refine JL.done (Bs (fun L s=>∃(a6:LH) (ay:Ao) (az:Nat) (bn:Ao) (bo:Nat),Jn b5 H a6 [bX bk #[sV bn aj.2.1 bo,iV aj.2.2.1,.int .u64 ((aj.2.2.2:Nat):Int)] 92,bX U #[nS,nS] 24,bX O #[sV Z K.1 aa,sV ab K.2.1 ae] 24,ag,ah] [(0,pV bk 0),(4,pV U 0),(5,pV O 0),(6,iV am.1),(7,iV K.2.2.2.2.2),(8,sV ay aj.1 az)] L s (Ap rI a6 ay az aj.1∧Ap rI a6 bn bo aj.2.1)) ?_ ?_)
    ·rintro _ _ ⟨a6,ay,az,bn,bo,rfl,rfl,aB,dK,ca,dL⟩;refine zg 8 rfl (JS.lit (pp:=rI) [iV 0,iV 1,iV 1,iV 2] [0,1,1,2] rfl rfl rfl underlying28 AN Cp (by decide) rfl rfl rfl ⟨rfl,rfl,rfl,rfl,trivial⟩ dK fun hm hn dM dN=>?_);refine Cc 5 dM dN rfl fun ho al dO dP=>?_;obtain⟨bp,dQ,dR⟩:=bs dJ;refine B8 0 (No (dL.Ai al) dO dQ) rfl rfl LS dP rfl ?_;rintro _ bq _ ao ⟨cb,cc,rfl,rfl,dS⟩ dT;refine CG (S':= [[(bk,.cells #[sV cb bp.2.1 cc,iV bp.2.2.1,.int .u64 ((bp.2.2.2:Nat):Int)] 92 (0,0))],[(U,.cells #[nS,nS] 24 (0,0))],[(O,.cells #[sV Z K.1 aa,sV ab K.2.1 ae] 24 (0,0))],ag,ah,[]]) rfl dT fun dU=>?_;obtain⟨V,dV,dW⟩:=bs dR;refine zg 2 rfl (Bs (fun L s=>∃(aE:LH) (aL:Ao) (aM:Nat) (aC:Ao) (aD:Nat),Jn bq H aE [bX bk #[sV aC V.2.1 aD,iV V.2.2.1,.int .u64 ((V.2.2.2:Nat):Int)] 92,bX U #[nS,nS] 24,bX O #[sV Z K.1 aa,sV ab K.2.1 ae] 24,ag,ah] [(0,pV bk 0),(4,pV U 0),(5,pV O 0),(6,iV am.1),(7,iV K.2.2.2.2.2),(8,sV ay aj.1 az),(9,sV aL V.1 aM)] L s (Ap rI aE aL aM V.1∧Ap rI aE aC aD V.2.1)) ?_ ?_)
     ·rintro _ _ ⟨aE,aL,aM,aC,aD,rfl,rfl,ap,aT,br,bu⟩;refine DI 11 [O] ⟨⟨2,_,rfl⟩,trivial⟩ aT fun ht=>Ch 0 ht underlying24 Ct rfl rfl rfl rfl (Fi 1 ht 0 2 aT Da ?_);refine Cz 2 ht rfl rfl (Ch 5 ht underlying24 Ct rfl rfl rfl rfl ?_);refine Fi 6 ht 1 2 aT Da ?_;refine Cz 7 ht rfl rfl ?_;obtain⟨bv,bw,dX⟩:=bs dW;obtain⟨bx,bz,bA⟩:=bs dX;refine I1 (i:=3) (j:=8) rfl (by decide+kernel) ?_ ?_
      ·refine Take.lit (pp:=(rL rI)) (jp:=2) [sV ay aj.1 az] ([aj.1]:List (List Int)) aT rfl rfl rfl rfl underlying22 BS EK (by decide) rfl rfl rfl ⟨⟨_,_,rfl,(ca.Ai ((al.Ab ao).Ab ap))⟩,trivial⟩ fun hp cd ce cf=>I1 (i:=4) (j:=8) rfl (by decide+kernel) ?_ ?_
       ·refine Take.app (pp:=(rL rI)) (jp:=2) 3 5 cf rfl bw rfl rfl rfl rfl rfl rfl rfl underlying22 underlying22 BS (Cu type28) EK rfl (by decide) (by decide) (a1.Ai ((((((an.Ab aA).Ab aw).Ab aB).Ab al).Ab ao).Ab ap)) ce rfl rfl rfl rfl fun dY dZ hq cg ea eb=>Ch 10 ht underlying24 Ct rfl rfl rfl rfl (JG.one (i:=8) rfl (by decide+kernel) ?_);refine Take.lit (pp:=(rL rI)) (jp:=2) [sV aL V.1 aM] ([V.1]:List (List Int)) eb rfl rfl rfl rfl underlying22 BS EK (by decide) rfl rfl rfl ⟨⟨_,_,rfl,br⟩,trivial⟩ fun hr ec ed ee=>JG.one (i:=9) rfl (by decide+kernel) (Take.app (pp:=(rL rI)) (jp:=2) 4 6 ee rfl bz rfl rfl rfl rfl rfl rfl rfl underlying22 underlying22 BS (Cu type28) EK rfl (by decide) (by decide) (a2.Ai ((((((an.Ab aA).Ab aw).Ab aB).Ab al).Ab ao).Ab ap)) ed rfl rfl rfl rfl fun ef eg hu ci eh ei=>?_);refine Cg [11,12,13] (FA 3 rfl ei fun ej=>?_);refine JS.drop 3 ej rfl fun ek=>FA 4 rfl ek fun el=>JS.drop 4 el rfl fun em=>CG (S':= [[(bk,.cells #[sV aC V.2.1 aD,iV V.2.2.1,.int .u64 ((V.2.2.2:Nat):Int)] 92 (0,0))],[(U,.cells #[nS,nS] 24 (0,0))],[(O,.cells #[sV Z K.1 aa,sV ab K.2.1 ae] 24 (0,0))],[],[],cd,ec,cg,ci]) rfl em fun en=>BT 2 en Ct fun eo=>?_;refine BL underlying24 Ct rfl rfl rfl (BT 2 eo Ct fun ep=>?_);obtain⟨eq,er,et⟩:=bs bA;refine zg 4 rfl (A9 er rfl rfl rfl ?_);refine zg 2 rfl (JS.drop 5 ep rfl fun eu=>?_);refine JS.drop 6 eu rfl fun ew=>?_;obtain rfl:=oi et;exact Aw (bf _ _ (bv,bx,V.2.1,V.2.2.1,V.2.2.2,eq) ⟨aE,dY,dZ,cg,ef,eg,ci,aC,aD,rfl,rfl,(((((((a0.Ab an).Ab aA).Ab aw).Ab aB).Ab al).Ab ao).Ab ap),ew,ea,eh,bu⟩ aS) rfl
       ·refine Take.lit (pp:=(rL rI)) (jp:=2) [sV aL V.1 aM] ([V.1]:List (List Int)) cf rfl rfl rfl rfl underlying22 BS EK (by decide) rfl rfl rfl ⟨⟨_,_,rfl,br⟩,trivial⟩ fun hv ex ey ez=>JG.one (i:=4) rfl (by decide+kernel) (Take.app (pp:=(rL rI)) (jp:=2) 3 5 ez rfl bw rfl rfl rfl rfl rfl rfl rfl underlying22 underlying22 BS (Cu type28) EK rfl (by decide) (by decide) (a1.Ai ((((((an.Ab aA).Ab aw).Ab aB).Ab al).Ab ao).Ab ap)) ce rfl rfl rfl rfl fun eA eB hw ck eC eD=>?_);refine Ch 10 ht underlying24 Ct rfl rfl rfl rfl (JG.one (i:=9) rfl (by decide+kernel) ?_);refine Take.app (pp:=(rL rI)) (jp:=2) 4 6 eD rfl bz rfl rfl rfl rfl rfl rfl rfl underlying22 underlying22 BS (Cu type28) EK rfl (by decide) (by decide) (a2.Ai ((((((an.Ab aA).Ab aw).Ab aB).Ab al).Ab ao).Ab ap)) ey rfl rfl rfl rfl fun eE eF hx cm eG eH=>Cg [11,12,13] (FA 3 rfl eH fun eI=>?_);refine JS.drop 3 eI rfl fun eJ=>FA 4 rfl eJ fun eK=>JS.drop 4 eK rfl fun eL=>CG (S':= [[(bk,.cells #[sV aC V.2.1 aD,iV V.2.2.1,.int .u64 ((V.2.2.2:Nat):Int)] 92 (0,0))],[(U,.cells #[nS,nS] 24 (0,0))],[(O,.cells #[sV Z K.1 aa,sV ab K.2.1 ae] 24 (0,0))],[],[],cd,ex,ck,cm]) rfl eL fun eM=>BT 2 eM Ct fun eN=>?_;refine BL underlying24 Ct rfl rfl rfl (BT 2 eN Ct fun eO=>?_);obtain⟨eP,eQ,eR⟩:=bs bA;refine zg 4 rfl (A9 eQ rfl rfl rfl ?_);refine zg 2 rfl (JS.drop 5 eO rfl fun eS=>?_);refine JS.drop 6 eS rfl fun eT=>?_;obtain rfl:=oi eR;exact Aw (bf _ _ (bv,bx,V.2.1,V.2.2.1,V.2.2.2,eP) ⟨aE,eA,eB,ck,eE,eF,cm,aC,aD,rfl,rfl,(((((((a0.Ab an).Ab aA).Ab aw).Ab aB).Ab al).Ab ao).Ab ap),eT,eC,eG,bu⟩ aS) rfl
      ·refine Take.lit (pp:=(rL rI)) (jp:=2) [sV aL V.1 aM] ([V.1]:List (List Int)) aT rfl rfl rfl rfl underlying22 BS EK (by decide) rfl rfl rfl ⟨⟨_,_,rfl,br⟩,trivial⟩ fun hy eU eV eW=>JG.one (i:=3) rfl (by decide+kernel) (Take.lit (pp:=(rL rI)) (jp:=2) [sV ay aj.1 az] ([aj.1]:List (List Int)) eW rfl rfl rfl rfl underlying22 BS EK (by decide) rfl rfl rfl ⟨⟨_,_,rfl,(ca.Ai ((al.Ab ao).Ab ap))⟩,trivial⟩ fun hz eX eY eZ=>?_);refine JG.one (i:=4) rfl (by decide+kernel) (Take.app (pp:=(rL rI)) (jp:=2) 3 6 eZ rfl bw rfl rfl rfl rfl rfl rfl rfl underlying22 underlying22 BS (Cu type28) EK rfl (by decide) (by decide) (a1.Ai ((((((an.Ab aA).Ab aw).Ab aB).Ab al).Ab ao).Ab ap)) eY rfl rfl rfl rfl fun e0 e1 hA cn e3 e4=>?_);refine Ch 10 ht underlying24 Ct rfl rfl rfl rfl (JG.one (i:=9) rfl (by decide+kernel) ?_);refine Take.app (pp:=(rL rI)) (jp:=2) 4 5 e4 rfl bz rfl rfl rfl rfl rfl rfl rfl underlying22 underlying22 BS (Cu type28) EK rfl (by decide) (by decide) (a2.Ai ((((((an.Ab aA).Ab aw).Ab aB).Ab al).Ab ao).Ab ap)) eV rfl rfl rfl rfl fun e5 e6 hB co e7 e8=>Cg [11,12,13] (FA 3 rfl e8 fun e9=>?_);refine JS.drop 3 e9 rfl fun fa=>FA 4 rfl fa fun fb=>JS.drop 4 fb rfl fun fc=>CG (S':= [[(bk,.cells #[sV aC V.2.1 aD,iV V.2.2.1,.int .u64 ((V.2.2.2:Nat):Int)] 92 (0,0))],[(U,.cells #[nS,nS] 24 (0,0))],[(O,.cells #[sV Z K.1 aa,sV ab K.2.1 ae] 24 (0,0))],[],[],eU,eX,cn,co]) rfl fc fun fd=>BT 2 fd Ct fun fe=>?_;refine BL underlying24 Ct rfl rfl rfl (BT 2 fe Ct fun ff=>?_);obtain⟨fg,fh,fj⟩:=bs bA;refine zg 4 rfl (A9 fh rfl rfl rfl ?_);refine zg 2 rfl (JS.drop 5 ff rfl fun fk=>?_);refine JS.drop 6 fk rfl fun fm=>?_;obtain rfl:=oi fj;exact Aw (bf _ _ (bv,bx,V.2.1,V.2.2.1,V.2.2.2,fg) ⟨aE,e0,e1,cn,e5,e6,co,aC,aD,rfl,rfl,(((((((a0.Ab an).Ab aA).Ab aw).Ab aB).Ab al).Ab ao).Ab ap),fm,e3,e7,bu⟩ aS) rfl
     ·intro fo;refine JL.block (CE dV (fun L s ai=>∃(aF:LH) (aU:Ao) (aV:Nat) (aG:Ao) (aH:Nat),Jn bq H aF [bX bk #[sV aU ai.1 aV,iV ai.2.1,.int .u64 ((ai.2.2.1:Nat):Int)] 92,bX U #[nS,nS] 24,bX O #[sV Z K.1 aa,sV ab K.2.1 ae] 24,ag,ah] [(0,pV bk 0),(4,pV U 0),(5,pV O 0),(6,iV am.1),(7,iV K.2.2.2.2.2),(8,sV ay aj.1 az),(9,sV aG ai.2.2.2.1 aH),(10,iV ai.2.2.2.2)] L s (Ap rI aF aU aV ai.1∧Ap rI aF aG aH ai.2.2.2.1)) ⟨bq,cb,cc,none,0,rfl,rfl,Aq,dU,dS,Ap.nil⟩ ?_);rintro _ _ ai ⟨aF,aU,aV,aG,aH,rfl,rfl,cp,cq,cr,bB⟩ fp ⟨hC,bC⟩ fq;have ct:=bC;unfold M5 at ct;obtain⟨fu,fv,fw⟩:=bs ct;refine zg 6 rfl (FP [] (fun L s=>∃(bD:LH),Jm aF H bD [bX bk #[sV aU ai.1 aV,iV ai.2.1,.int .u64 ((ai.2.2.1:Nat):Int)] 92,bX U #[nS,nS] 24,bX O #[sV Z K.1 aa,sV ab K.2.1 ae] 24,ag,ah] [(0,pV bk 0),(4,pV U 0),(5,pV O 0),(6,iV am.1),(7,iV K.2.2.2.2.2),(8,sV ay aj.1 az),(9,sV aG ai.2.2.2.1 aH),(10,iV ai.2.2.2.2),(50,.bool fu)] L s) ?_ ?_)
      ·rintro _ _ ⟨bD,rfl,rfl,aI,cu⟩;refine JL.done (BK fw (fun fx fy=>?_) (fun fx fz=>?_))
       ·obtain⟨fA,fB,fC⟩:=bs fy;refine zg 7 rfl (Cd fB rfl rfl rfl ?_);refine Ay (v:=iV (max (0) fA)) rfl (fun ρ h=>Yl.max2 (h _ _ rfl) (h _ _ rfl)) ?_;obtain⟨hD,fD,fE⟩:=bs fC;refine B8 0 (HW (cr.Ai aI) fD) rfl rfl HF cu rfl ?_;rintro _ hE _ bE ⟨hF,hG,rfl,rfl,fF⟩ fG;obtain⟨hH,fH,fI⟩:=bs fE;refine zg 6 rfl (B8 0 (Lj fF fH) rfl rfl Ki fG rfl ?_);rintro _ cv _ bF ⟨fJ,fK,rfl,rfl,cw⟩ cy;obtain⟨ak,fL,fM⟩:=bs fI;refine JL.done (Bs (fun L s=>∃(aW:LH) (aN:Ao) (aO:Nat),Jn cv H aW [bX bk #[sV aN ak.2.1 aO,iV ak.2.2.1,.int .u64 ((ak.2.2.2:Nat):Int)] 92,bX U #[nS,nS] 24,bX O #[sV Z K.1 aa,sV ab K.2.1 ae] 24,ag,ah] [(0,pV bk 0),(4,pV U 0),(5,pV O 0),(6,iV am.1),(7,iV K.2.2.2.2.2),(8,sV ay aj.1 az),(9,sV aG ai.2.2.2.1 aH),(10,iV ai.2.2.2.2),(11,iV ak.1)] L s (Ap rI aW aN aO ak.2.1)) ?_ ?_)
        ·rintro _ _ ⟨aW,aN,aO,rfl,rfl,bG,cz,fN⟩;obtain⟨bH,fO,fP⟩:=bs fM;refine zg 6 rfl (Bs (fun L s=>∃(a7:LH) (a8:Ao) (a9:Nat),Jn aW H a7 [bX bk #[sV aN ak.2.1 aO,iV ak.2.2.1,.int .u64 ((ak.2.2.2:Nat):Int)] 92,bX U #[nS,nS] 24,bX O #[sV Z K.1 aa,sV ab K.2.1 ae] 24,ag,ah] [(0,pV bk 0),(4,pV U 0),(5,pV O 0),(6,iV am.1),(7,iV K.2.2.2.2.2),(8,sV ay aj.1 az),(9,sV a8 bH a9),(10,iV ai.2.2.2.2)] L s (Ap rI a7 a8 a9 bH)) ?_ ?_)
         ·rintro _ _ ⟨a7,a8,a9,rfl,rfl,cA,fQ,fR⟩;obtain⟨fS,fT,fU⟩:=bs fP;refine zg 3 rfl (Cd fT rfl rfl rfl ?_);refine zg 2 rfl ?_;obtain rfl:=oi fU;exact Aw (fq _ _ (ak.2.1,ak.2.2.1,ak.2.2.2,bH,fS) ⟨a7,aN,aO,a8,a9,rfl,rfl,(((((cp.Ab aI).Ab bE).Ab bF).Ab bG).Ab cA),fQ,(fN.Ai cA),fR⟩ bC) rfl
         ·intro cB;refine AM fO (fun fW fX=>?_) (fun fW fY=>?_)
          ·obtain⟨hI,fZ,ga⟩:=bs fX;refine zg 3 rfl (BR (SP (bB.Ai (((aI.Ab bE).Ab bF).Ab bG)) fZ) rfl rfl (A3 func98 rfl) cz ?_);rintro _ gb _ gc ⟨gd,ge,rfl,rfl,gf⟩ gg;refine CG (S':= [[(bk,.cells #[sV aN ak.2.1 aO,iV ak.2.2.1,.int .u64 ((ak.2.2.2:Nat):Int)] 92 (0,0))],[(U,.cells #[nS,nS] 24 (0,0))],[(O,.cells #[sV Z K.1 aa,sV ab K.2.1 ae] 24 (0,0))],ag,ah,[]]) rfl gg fun gh=>zg 2 rfl ?_;obtain rfl:=oi ga;exact Aw (cB _ _ ⟨gb,gd,ge,rfl,rfl,gc,gh,gf⟩) rfl
          ·refine JL.skip ?_;obtain rfl:=oi fY;exact Aw (cB _ _ ⟨aW,aG,aH,rfl,rfl,Aq,cz,(bB.Ai (((aI.Ab bE).Ab bF).Ab bG))⟩) rfl
        ·intro cC;refine BK fL (fun gi gj=>?_) (fun gi gk=>?_)
         ·obtain⟨hJ,gl,gm⟩:=bs gj;refine zg 3 rfl (Cd gl rfl rfl rfl ?_);obtain⟨bI,gn,gp⟩:=bs gm;refine B8 0 (HW cw gn) rfl rfl HF cy rfl ?_;rintro _ gq _ gr ⟨cD,cE,rfl,rfl,gt⟩ gu;refine CG (S':= [[(bk,.cells #[sV cD bI.2.1 cE,iV bI.2.2.1,.int .u64 ((bI.2.2.2:Nat):Int)] 92 (0,0))],[(U,.cells #[nS,nS] 24 (0,0))],[(O,.cells #[sV Z K.1 aa,sV ab K.2.1 ae] 24 (0,0))],ag,ah]) rfl gu fun gv=>zg 2 rfl ?_;obtain rfl:=oi gp;exact Aw (cC _ _ ⟨gq,cD,cE,rfl,rfl,gr,gv,gt⟩) rfl
         ·refine JL.skip ?_;obtain rfl:=oi gk;exact Aw (cC _ _ ⟨cv,fJ,fK,rfl,rfl,Aq,cy,cw⟩) rfl
       ·refine JL.exit rfl ?_;obtain rfl:=oi fz;obtain rfl:=fp _ bC;exact Aw (fo _ _ ⟨bD,aG,aH,aU,aV,rfl,rfl,(cp.Ab aI),cu,(bB.Ai aI),(cr.Ai aI)⟩) rfl
      ·intro cF;refine EE 47 fv (fun gw gx=>?_) (fun gw gy=>?_)
       ·refine zg 3 rfl ?_;obtain rfl:=oi gx;exact Aw (cF _ _ ⟨aF,rfl,rfl,Aq,cq⟩) rfl
       ·refine zg 3 rfl ?_;obtain rfl:=oi gy;exact Aw (cF _ _ ⟨aF,rfl,rfl,Aq,cq⟩) rfl
    ·intro cG;refine BK dI (fun gz gA=>?_) (fun gz gB=>?_)
     ·obtain⟨hK,gC,gD⟩:=bs gA;refine zg 3 rfl (Cd gC rfl rfl rfl ?_);obtain⟨aX,gE,gF⟩:=bs gD;refine B8 0 (HW b8 gE) rfl rfl HF b9 rfl ?_;rintro _ hL _ gG ⟨cH,cI,rfl,rfl,gH⟩ gI;refine JS.lit (pp:=rI) [iV aX.1] [aX.1] rfl rfl rfl underlying28 AN Cp (by decide) rfl rfl rfl ⟨rfl,trivial⟩ gI fun gJ hM gK gL=>zg 2 rfl (Cc 5 gK gL rfl fun gM cJ gN gO=>?_);refine CG (S':= [[(bk,.cells #[sV cH aX.2.1 cI,iV aX.2.2.1,.int .u64 ((aX.2.2.2:Nat):Int)] 92 (0,0))],[(U,.cells #[nS,nS] 24 (0,0))],[(O,.cells #[sV Z K.1 aa,sV ab K.2.1 ae] 24 (0,0))],ag,ah,[]]) rfl gO fun gP=>?_;obtain rfl:=oi gF;exact Aw (cG _ _ ⟨gM,(A2 gJ),1,cH,cI,rfl,rfl,(gG.Ab cJ),gP,gN,(gH.Ai cJ)⟩) rfl
     ·refine JL.skip ?_;obtain rfl:=oi gB;exact Aw (cG _ _ ⟨b5,a4,a5,b6,b7,rfl,rfl,Aq,b9,(dD.Ai aw),b8⟩) rfl
   ·intro cK;refine BK dA (fun gQ gR=>?_) (fun gQ gS=>?_)
    ·obtain⟨hN,gT,gU⟩:=bs gR;refine zg 5 rfl (Cd gT rfl rfl rfl ?_);obtain⟨bJ,gV,gW⟩:=bs gU;refine B8 0 (Pb b3 gV) rfl rfl NO b4 rfl ?_;rintro _ hO _ cM ⟨cN,cO,rfl,rfl,gX⟩ gY;refine CG (S':= [[(bk,.cells #[sV cN bJ.2.1 cO,iV bJ.2.2.1,.int .u64 ((bJ.2.2.2:Nat):Int)] 92 (0,0))],[(U,.cells #[nS,nS] 24 (0,0))],[(O,.cells #[sV Z K.1 aa,sV ab K.2.1 ae] 24 (0,0))],ag,ah,dv]) rfl gY fun gZ=>Cc 5 (b0.Ai (an.Ab cM)) gZ rfl fun hP cP g0 g1=>?_;obtain⟨hQ,g3,g4⟩:=bs gW;refine BR (SP g0 g3) rfl rfl (A3 func98 rfl) g1 ?_;rintro _ g5 _ cQ ⟨g6,g7,rfl,rfl,g8⟩ g9;refine zg 2 rfl ?_;obtain rfl:=oi g4;exact Aw (cK _ _ ⟨g5,g6,g7,cN,cO,rfl,rfl,((cM.Ab cP).Ab cQ),g9,g8,(gX.Ai (cP.Ab cQ))⟩) rfl
    ·refine JL.skip (Cc 5 (b0.Ai an) b4 rfl fun ha cR hb hc=>?_);refine CG (S':= [[(bk,.cells #[sV b1 bi.2.1 b2,iV bi.2.2.1,.int .u64 ((bi.2.2.2:Nat):Int)] 92 (0,0))],[(U,.cells #[nS,nS] 24 (0,0))],[(O,.cells #[sV Z K.1 aa,sV ab K.2.1 ae] 24 (0,0))],ag,ah,[]]) rfl hc fun he=>?_;obtain rfl:=oi gS;exact Aw (cK _ _ ⟨ha,(A2 du),1,b1,b2,rfl,rfl,cR,he,hb,(b3.Ai cR)⟩) rfl
  ·refine JL.exit rfl ?_;obtain rfl:=oi dn;obtain rfl:=dk _ aS;exact Aw (dj _ _ ⟨aJ,aY,aZ,Z,aa,ag,ab,ae,ah,rfl,rfl,a0,bW,bY,a1,a2⟩) rfl
def Nb(fuel:Nat)(p1:Bz)(U:Int×(BZ))(K:(List Int)×Int×Nat×Int×Int):Option (Bn ((List Int)×Int×Nat×Int×Int) (Int×BZ)):= if K.2.2.2.2<U.1 then((ix p1.1 K.2.2.2.1).bind fun V=> (f99 fuel (K.1,K.2.1,K.2.2.1) V).bind fun O=> (Av (K.2.2.2.2+1)).bind fun W=> some (.more (O.2.1,O.2.2.1,O.2.2.2,O.1,W))) else(some (.done (K.2.2.2.1,K.1,K.2.1,K.2.2.1)))
def MN(fuel:Nat)(p1:Bz)(p2:Int)(K:(List Int)×Int×Nat×Int×(List Int)×Int):Option (Bn ((List Int)×Int×Nat×Int×(List Int)×Int) ((List Int)×BZ)):= if K.2.2.2.2.2<p2 then((room K.2.2.2.2.1 K.2.2.2.1).bind fun U=> (ix p1.1 K.2.2.2.1).bind fun V=> (f99 fuel (K.1,K.2.1,K.2.2.1) V).bind fun O=> (Av (K.2.2.2.2.2+1)).bind fun W=> some (.more (O.2.1,O.2.2.1,O.2.2.2,O.1,U,W))) else(some (.done (K.2.2.2.2.1,K.1,K.2.1,K.2.2.1)))
def f45(fuel:Nat)(p0:BZ)(p1:Bz)(p2:Int):Option (Int×(List Int)×(BZ)):= (f41 fuel p0 6).bind fun K=> Option.bind (iter (Nb fuel p1 K) fuel (K.2.1,K.2.2.1,K.2.2.2,0,0)) fun O=> Option.bind (iter (MN fuel p1 p2) fuel (O.2.1,O.2.2.1,O.2.2.2,O.1,[],0)) fun U=> some (K.1,U.1,U.2)
theorem Y7{bk:Nat}{aI:Ao}{c2:Nat}{aJ:Ao}{aK:Nat}{aL:Ao}{aM:Nat}{p0:BZ}{p1:Bz}{p2:Int}(a3:Ap rI E aI c2 p0.1)(aN:Ap (rL rI) E aJ aK p1.1)(ci:Ap (rL rI) E aL aM p1.2){fuel:Nat}{r:Int×(List Int)×(BZ)}(aO:f45 fuel p0 p1 p2=some r):AU J 45 [pV bk 0,.agg #[sV aJ p1.1 aK,sV aL p1.2 aM],iV p2] E [(bk,.cells #[sV aI p0.1 c2,iV p0.2.1,.int .u64 ((p0.2.2:Nat):Int)] 92 (0,0))] (fun w E' B'=>∃(aP:Ao) (aQ:Nat) (aR:Ao) (aS:Nat),w= .tuple #[iV r.1,sV aP r.2.1 aQ]∧B'= [(bk,.cells #[sV aR r.2.2.1 aS,iV r.2.2.2.1,.int .u64 ((r.2.2.2.2:Nat):Int)] 92 (0,0))]∧Ap rI E' aP aQ r.2.1∧Ap rI E' aR aS r.2.2.1):=by
 refine Bj func45 fun Q ck cs H a4 a5=>?_;unfold f45 at aO;refine zg 2 rfl (Cy a4 fun aC cm ag aT a6=>?_);obtain⟨ah,a7,a8⟩:=bs aO;refine zg 6 rfl (B8 0 (HW (a3.Ai ag) a7) rfl rfl HF a6 rfl ?_);rintro _ aD _ W ⟨a9,ba,rfl,rfl,bb⟩ bc;obtain⟨Z,bd,be⟩:=bs a8;refine zg 8 rfl (Bs (fun L s=>∃(U:LH) (ai:Ao) (aj:Nat),Jn aD H U [bX bk #[sV ai Z.2.1 aj,iV Z.2.2.1,.int .u64 ((Z.2.2.2:Nat):Int)] 92] [(0,pV bk 0),(2,iV p2),(4,pV aC 0),(8,iV ah.1),(9,iV Z.1)] L s (Ap rI U ai aj Z.2.1)) ?_ ?_)
 ·rintro _ _ ⟨U,ai,aj,rfl,rfl,aE,bf,bg⟩;obtain⟨V,bh,bi⟩:=bs be;refine zg 9 rfl (Bs (fun L s=>∃(ak:LH) (al:Ao) (am:Nat) (aF:Seg) (an:Ao) (ao:Nat),Jn U H ak [bX bk #[sV an V.2.1 ao,iV V.2.2.1,.int .u64 ((V.2.2.2:Nat):Int)] 92,aF] [(8,iV ah.1),(11,sV al V.1 am)] L s (OL 3 rI ak al am aF V.1∧Ap rI ak an ao V.2.1)) ?_ ?_)
  ·rintro _ _ ⟨ak,al,am,aF,an,ao,rfl,rfl,bj,bl,bm,bn⟩;refine zg 7 rfl (Cc 1 bm bl rfl fun cn aU bo bp=>?_);obtain rfl:=oi bi;exact AL func45 rfl rfl (a5 ((((ag.Ab W).Ab aE).Ab bj).Ab aU) rfl ⟨al,am,an,ao,rfl,rfl,bo,(bn.Ai aU)⟩ bp)
  ·intro bq;refine JL.block (CE bh (fun L s K=>∃(aa:LH) (ap:Ao) (aq:Nat) (ab:Ao) (ae:Nat) (ar:Seg),Jn U H aa [bX bk #[sV ap K.1 aq,iV K.2.1,.int .u64 ((K.2.2.1:Nat):Int)] 92,ar] [(0,pV bk 0),(2,iV p2),(4,pV aC 0),(8,iV ah.1),(9,iV K.2.2.2.1),(11,sV ab K.2.2.2.2.1 ae),(12,iV K.2.2.2.2.2)] L s (Ap rI aa ap aq K.1∧OL 3 rI aa ab ae ar K.2.2.2.2.1)) ⟨U,ai,aj,none,0,[],rfl,rfl,Aq,bf,bg,OL.nil⟩ ?_);rintro _ _ K ⟨aa,ap,aq,ab,ae,ar,rfl,rfl,au,aV,aW,aX⟩ br ⟨co,aG⟩ bu;have aY:=aG;unfold MN at aY;refine zg 7 rfl (AM aY (fun bv bw=>?_) (fun bv bx=>?_))
   ·obtain⟨bz,bA,bB⟩:=bs bw;refine zg 7 rfl (JS.app (pp:=rI) (v:=iV K.2.2.2.1) (a:=ab) (c:=ae) 1 bA rfl rfl rfl rfl (fun _=>rfl) rfl (fun _=>rfl) rfl rfl rfl underlying28 underlying28 underlying28 AN (Cu type3) Cp rfl (by decide) (by decide) (by decide) (by decide) aX rfl aV rfl fun cp bC bD bE bF bG=>?_);refine zg 4 rfl (JL.fl 0 (aT.Ai ((W.Ab aE).Ab au)) underlying24 Ct Da ?_);obtain⟨cq,bH,bI⟩:=bs bB;refine zg 1 rfl (B5 (aN.Ai (((ag.Ab W).Ab aE).Ab au)) bH underlying22 BS ?_);rintro cr ct _ ⟨cu,cv,rfl,bJ⟩ bK;refine BY 0 bK C4 rfl rfl rfl ?_;obtain⟨av,bL,bM⟩:=bs bI;refine B8 0 (No aW bJ bL) rfl rfl LS bG rfl ?_;rintro _ bN _ aZ ⟨bO,bP,rfl,rfl,bQ⟩ bR;obtain⟨bS,bT,bU⟩:=bs bM;refine zg 5 rfl (A9 bT rfl rfl rfl ?_);refine zg 2 rfl ?_;obtain rfl:=oi bU;exact Aw (bu _ _ (av.2.1,av.2.2.1,av.2.2.2,av.1,bz,bS) ⟨bN,bO,bP,bC,bD,bE,rfl,rfl,(au.Ab aZ),bR,bQ,(bF.Ai aZ)⟩ aG) rfl
   ·refine JL.exit rfl ?_;obtain rfl:=oi bx;obtain rfl:=br _ aG;exact Aw (bq _ _ ⟨aa,ab,ae,ar,ap,aq,rfl,rfl,au,aV,aX,aW⟩) rfl
 ·intro bV;refine JL.block (CE bd (fun L s O=>∃(aw:LH) (ay:Ao) (az:Nat),Jn aD H aw [bX bk #[sV ay O.1 az,iV O.2.1,.int .u64 ((O.2.2.1:Nat):Int)] 92] [(0,pV bk 0),(2,iV p2),(4,pV aC 0),(8,iV ah.1),(9,iV O.2.2.2.1),(10,iV O.2.2.2.2)] L s (Ap rI aw ay az O.1)) ⟨aD,a9,ba,rfl,rfl,Aq,bc,bb⟩ ?_);rintro _ _ O ⟨aw,ay,az,rfl,rfl,aA,a0,a1⟩ bW ⟨cw,aH⟩ bY;have a2:=aH;unfold Nb at a2;refine zg 7 rfl (AM a2 (fun bZ b0=>?_) (fun bZ b1=>?_))
  ·refine zg 5 rfl (JL.fl 0 (aT.Ai (W.Ab aA)) underlying24 Ct Da ?_);obtain⟨cy,b2,b3⟩:=bs b0;refine zg 1 rfl (B5 (aN.Ai ((ag.Ab W).Ab aA)) b2 underlying22 BS ?_);rintro cz cA _ ⟨cB,cC,rfl,b4⟩ b5;refine BY 0 b5 C4 rfl rfl rfl ?_;obtain⟨aB,b6,b7⟩:=bs b3;refine B8 0 (No a1 b4 b6) rfl rfl LS a0 rfl ?_;rintro _ b8 _ b9 ⟨ca,cb,rfl,rfl,cc⟩ cd;obtain⟨ce,cf,cg⟩:=bs b7;refine zg 5 rfl (A9 cf rfl rfl rfl ?_);refine zg 2 rfl ?_;obtain rfl:=oi cg;exact Aw (bY _ _ (aB.2.1,aB.2.2.1,aB.2.2.2,aB.1,ce) ⟨b8,ca,cb,rfl,rfl,(aA.Ab b9),cd,cc⟩ aH) rfl
  ·refine JL.exit rfl ?_;obtain rfl:=oi b1;obtain rfl:=bW _ aH;exact Aw (bV _ _ ⟨aw,ay,az,rfl,rfl,aA,a0,a1⟩) rfl
def OJ(fuel:Nat)(p1:Bz)(p2:List Int)(p4:Bool)(K:(List Int)×Int×Nat×(A6)×Int×Int):Option (Bn ((List Int)×Int×Nat×(A6)×Int×Int) ((A6)×BZ)):= if 0<K.2.2.2.2.2 then((Av ((p2.length:Int) - 1)).bind fun aa=> (Av (K.2.2.2.2.1+2)).bind fun ab=> (f96 fuel (K.1,K.2.1,K.2.2.1) K.2.2.2.2.1 (min aa ab)).bind fun O=> (ix p2 O.1).bind fun ae=> (ix p2 O.1).bind fun ag=> (ix p1.2 ag).bind fun Z=> Option.bind (if p4=true then(some (decide (0<(Z.length:Int)))) else(some false)) fun ah=> Option.bind (if ah=true then((f97 fuel O.2 2).bind fun ai=> some ai) else(some (false,O.2.1,O.2.2.1,O.2.2.2))) fun U=> Option.bind (if U.1=true then((f99 fuel U.2 Z).bind fun V=> some (V.2.1,V.2.2.1,V.2.2.2,V.1)) else(some (U.2.1,U.2.2.1,U.2.2.2,ae))) fun W=> (room K.2.2.2.1 (O.1,W.2.2.2)).bind fun aj=> (Av (K.2.2.2.2.2 - 1)).bind fun ak=> some (.more (W.1,W.2.1,W.2.2.1,aj,O.1,ak))) else(some (.done (K.2.2.2.1,K.1,K.2.1,K.2.2.1)))
def f46(fuel:Nat)(p0:BZ)(p1:Bz)(p2:List Int)(p3:Int)(p4:Bool):Option ((A6)×(BZ)):= (f41 fuel p0 p3).bind fun K=> Option.bind (iter (OJ fuel p1 p2 p4) fuel (K.2.1,K.2.2.1,K.2.2.2,[],0,K.1)) fun O=> some O
theorem Zh{bk:Nat}{aK:Ao}{c2:Nat}{aL:Ao}{aM:Nat}{aN:Ao}{aO:Nat}{aa:Ao}{ab:Nat}{p0:BZ}{p1:Bz}{p2:List Int}{p3:Int}{p4:Bool}(bf:Ap rI E aK c2 p0.1)(cT:Ap (rL rI) E aL aM p1.1)(bg:Ap (rL rI) E aN aO p1.2)(aP:Ap rI E aa ab p2){fuel:Nat}{r:(A6)×(BZ)}(aQ:f46 fuel p0 p1 p2 p3 p4=some r):AU J 46 [pV bk 0,.agg #[sV aL p1.1 aM,sV aN p1.2 aO],sV aa p2 ab,iV p3,.bool p4] E [(bk,.cells #[sV aK p0.1 c2,iV p0.2.1,.int .u64 ((p0.2.2:Nat):Int)] 92 (0,0))] (fun w E' B'=>∃(aR:Ao) (aS:Nat) (g0:Seg) (aT:Ao) (aU:Nat),w= sV aR r.1 aS∧B'= [(bk,.cells #[sV aT r.2.1 aU,iV r.2.2.1,.int .u64 ((r.2.2.2:Nat):Int)] 92 (0,0))]++g0∧OL 27 BM E' aR aS g0 r.1∧Ap rI E' aT aU r.2.1):=by
 refine Bj func46 fun Q cV cs H bh bi=>?_;unfold f46 at aQ;refine zg 2 rfl (Cy bh fun ap cW aj bj bl=>?_);obtain⟨cX,bm,bn⟩:=bs aQ;refine zg 15 rfl (B8 0 (HW (bf.Ai aj) bm) rfl rfl HF bl rfl ?_);rintro _ aG _ ak ⟨bo,bp,rfl,rfl,bq⟩ br;obtain⟨ae,bu,bv⟩:=bs bn;refine zg 2 rfl (Bs (fun L s=>∃(aq:LH) (ar:Ao) (au:Nat) (av:Seg) (aw:Ao) (ay:Nat),Jn aG H aq [bX bk #[sV aw ae.2.1 ay,iV ae.2.2.1,.int .u64 ((ae.2.2.2:Nat):Int)] 92,av] [(11,sV ar ae.1 au)] L s (OL 27 BM aq ar au av ae.1∧Ap rI aq aw ay ae.2.1)) ?_ ?_)
 ·rintro _ _ ⟨aq,ar,au,av,aw,ay,rfl,rfl,bw,bx,bz,bA⟩;refine zg 5 rfl ?_;obtain rfl:=oi bv;exact AL func46 rfl rfl (bi ((aj.Ab ak).Ab bw) rfl ⟨ar,au,av,aw,ay,rfl,(by first | rfl | simp | (simp [Value.cells])),bz,bA⟩ bx)
 ·intro bB;refine JL.block (CE bu (fun L s K=>∃(al:LH) (az:Ao) (aA:Nat) (V:Ao) (W:Nat) (Z:Seg),Jn aG H al [bX bk #[sV az K.1 aA,iV K.2.1,.int .u64 ((K.2.2.1:Nat):Int)] 92,Z] [(0,pV bk 0),(2,sV aa p2 ab),(4,.bool p4),(6,pV ap 0),(11,sV V K.2.2.2.1 W),(12,iV K.2.2.2.2.1),(13,iV K.2.2.2.2.2)] L s (Ap rI al az aA K.1∧OL 27 BM al V W Z K.2.2.2.1)) ⟨aG,bo,bp,none,0,[],rfl,rfl,Aq,br,bq,OL.nil⟩ ?_);rintro _ _ K ⟨al,az,aA,V,W,Z,rfl,rfl,ag,aV,aW,aX⟩ bC ⟨cY,aH⟩ bD;have aY:=aH;unfold OJ at aY;refine zg 6 rfl (AM aY (fun bE bF=>?_) (fun bE bG=>?_))
  ·refine zg 8 rfl (Bo underlying28 rfl rfl rfl ?_);obtain⟨bH,bI,bJ⟩:=bs bF;refine Cd bI rfl rfl rfl ?_;obtain⟨bK,bL,bM⟩:=bs bJ;refine zg 1 rfl (A9 bL rfl rfl rfl ?_);refine Ay (v:=iV (min bH bK)) rfl (fun ρ h=>Yl.min2 (h _ _ rfl) (h _ _ rfl)) ?_;obtain⟨O,bN,bO⟩:=bs bM;refine B8 0 (Pb aW bN) rfl rfl NO aV rfl ?_;rintro _ cZ _ ah ⟨aZ,a0,rfl,rfl,a1⟩ bP;obtain⟨aI,bQ,bR⟩:=bs bO;refine zg 7 rfl (B5 (aP.Ai (((aj.Ab ak).Ab ag).Ab ah)) bQ underlying28 AN ?_);rintro c0 c1 _ rfl bS;refine BY 0 bS Bq rfl rfl rfl (Ay (v:= .agg #[iV O.1,iV aI]) rfl (fun ρ h=>De [(0,1),(1,1)] h Gk underlying27 ⟨rfl,Br type3,rfl,Br type3,trivial⟩ rfl rfl) ?_);refine CN bP Gk fun ai bT=>?_;refine BT 2 bT C5 fun a2=>?_;refine zg 3 rfl (DC 6 fun ht=>?_);refine Ch 0 ht underlying24 Ct rfl rfl rfl rfl (CH 1 ht 1 (bj.Ai ((ak.Ab ag).Ab ah)) Da rfl rfl rfl rfl ?_);refine Bh ht rfl [2,3] rfl ?_;obtain⟨c3,bU,bV⟩:=bs bR;refine Ds 4 (aP.Ai (((aj.Ab ak).Ab ag).Ab ah)) bU ht underlying28 AN ?_;rintro c4 c5 _ rfl bW;refine CH 5 ht 0 bW Bq rfl rfl rfl rfl (Cg [6,7,8] ?_);obtain⟨a3,bY,bZ⟩:=bs bV;refine B5 (bg.Ai (((aj.Ab ak).Ab ag).Ab ah)) bY underlying22 BS ?_;rintro c6 c7 _ ⟨a4,a5,rfl,b0⟩ b1;refine BY 0 b1 C4 rfl rfl rfl ?_;obtain⟨b2,b3,b4⟩:=bs bZ;refine zg 6 rfl (CS 6 4 [bX bk #[sV aZ O.2.1 a0,iV O.2.2.1,.int .u64 ((O.2.2.2:Nat):Int)] 92,Z,bX ai #[iV O.1,iV aI] 27] [(0,pV bk 0),(2,sV aa p2 ab),(4,.bool p4),(6,pV ap 0),(11,sV V K.2.2.2.1 W),(12,iV O.1),(13,iV K.2.2.2.2.2),(14,pV ai 0),(15,sV a4 a3 a5),(51,.bool b2)] (fun a6 am a7=>?_) (fun a8=>?_))
   ·obtain⟨an,b5,b6⟩:=bs b4;refine zg 1 rfl (FP [] (fun L s=>∃(ao:LH) (aB:Ao) (aC:Nat),Jn a6 H ao [bX bk #[sV aB an.2.1 aC,iV an.2.2.1,.int .u64 ((an.2.2.2:Nat):Int)] 92,Z,bX ai #[iV O.1,iV aI] 27] [(0,pV bk 0),(2,sV aa p2 ab),(4,.bool p4),(6,pV ap 0),(11,sV V K.2.2.2.1 W),(12,iV O.1),(13,iV K.2.2.2.2.2),(14,pV ai 0),(15,sV a4 a3 a5),(55,.bool an.1)] L s (Ap rI ao aB aC an.2.1)) ?_ ?_)
    ·rintro _ _ ⟨ao,aB,aC,rfl,rfl,aJ,a9,ba⟩;obtain⟨U,b7,b8⟩:=bs b6;refine JL.done (Bs (fun L s=>∃(aD:LH) (aE:Ao) (aF:Nat),Jn ao H aD [bX bk #[sV aE U.1 aF,iV U.2.1,.int .u64 ((U.2.2.1:Nat):Int)] 92,Z,bX ai #[iV O.1,iV U.2.2.2] 27] [(0,pV bk 0),(2,sV aa p2 ab),(4,.bool p4),(6,pV ap 0),(11,sV V K.2.2.2.1 W),(12,iV O.1),(13,iV K.2.2.2.2.2),(14,pV ai 0)] L s (Ap rI aD aE aF U.1)) ?_ ?_)
     ·rintro _ _ ⟨aD,aE,aF,rfl,rfl,bb,bc,b9⟩;refine zg 2 rfl (Ay rfl (fun ρ h=>FQ (vs:= [iV O.1,iV U.2.2.2]) IK C5 (h _ _ rfl) (FN (off:=0) 2 bc rfl rfl)) ?_);obtain⟨ca,cb,cc⟩:=bs b8;refine JS.app (pp:=BM) (v:= .agg #[iV O.1,iV U.2.2.2]) (a:=V) (c:=W) 1 cb rfl rfl rfl rfl (fun _=>rfl) rfl (fun _=>rfl) rfl rfl rfl underlying25 underlying25 underlying25 C5 (Cu type27) Gk rfl (by decide) (by decide) (by decide) (by decide) (aX.Ai (((ah.Ab am).Ab aJ).Ab bb)) ⟨_,_,rfl,rfl,rfl⟩ bc rfl fun c8 cd ce cf cg ci=>?_;obtain⟨ck,cm,cn⟩:=bs cc;refine zg 5 rfl (Cd cm rfl rfl rfl ?_);refine zg 2 rfl (JS.drop 2 ci rfl fun co=>?_);obtain rfl:=oi cn;exact Aw (bD _ _ (U.1,U.2.1,U.2.2.1,ca,O.1,ck) ⟨aD,aE,aF,cd,ce,cf,rfl,rfl,((((ag.Ab ah).Ab am).Ab aJ).Ab bb),co,b9,cg⟩ aH) rfl
     ·intro bd;refine BK b7 (fun cp cq=>?_) (fun cp cr=>?_)
      ·obtain⟨c9,ct,cu⟩:=bs cq;refine zg 3 rfl (B8 0 (No ba (b0.Ai (am.Ab aJ)) ct) rfl rfl LS a9 rfl ?_);rintro _ cv _ cw ⟨cy,cz,rfl,rfl,cA⟩ cB;refine BL underlying27 AN rfl rfl rfl (BT 2 cB AN fun cC=>?_);refine JL.done ?_;obtain rfl:=oi cu;exact Aw (bd _ _ ⟨cv,cy,cz,rfl,rfl,cw,cC,cA⟩) rfl
      ·refine JL.skip ?_;obtain rfl:=oi cr;exact Aw (bd _ _ ⟨ao,aB,aC,rfl,rfl,Aq,a9,ba⟩) rfl
    ·intro be;refine C8 52 b5 (fun cD cE=>?_) (fun cD cF=>?_)
     ·obtain⟨da,cG,cH⟩:=bs cE;refine zg 1 rfl (B8 0 (Lj (a1.Ai am) cG) rfl rfl Ki a7 rfl ?_);rintro _ cI _ cJ ⟨cK,cM,rfl,rfl,cN⟩ cO;refine zg 1 rfl ?_;obtain rfl:=oi cH;exact Aw (be _ _ ⟨cI,cK,cM,rfl,rfl,cJ,cO,cN⟩) rfl
     ·refine zg 3 rfl ?_;obtain rfl:=oi cF;exact Aw (be _ _ ⟨a6,aZ,a0,rfl,rfl,Aq,a7,(a1.Ai am)⟩) rfl
   ·refine C8 47 b3 (fun cP cQ=>?_) (fun cP cR=>?_)
    ·refine zg 1 rfl (Bo underlying28 rfl rfl rfl ?_);refine zg 2 rfl ?_;obtain rfl:=oi cQ;exact a8 Aq a2 rfl
    ·refine zg 4 rfl ?_;obtain rfl:=oi cR;exact a8 Aq a2 rfl
  ·refine JL.exit rfl ?_;obtain rfl:=oi bG;obtain rfl:=bC _ aH;exact Aw (bB _ _ ⟨al,V,W,Z,az,aA,rfl,rfl,ag,aV,aX,aW⟩) rfl
def M9(fuel:Nat)(p1:Bz)(K:(List Int)×Int×Nat×(A6)×Int):Option (Bn ((List Int)×Int×Nat×(A6)×Int) ((A6)×BZ)):= if K.2.2.2.2<(K.2.2.2.1.length:Int) then((f97 fuel (K.1,K.2.1,K.2.2.1) 6).bind fun O=> Option.bind (if O.1=true then((Av ((p1.1.length:Int) - 1)).bind fun W=> (f41 fuel O.2 W).bind fun U=> (ix K.2.2.2.1 K.2.2.2.2).bind fun Z=> some ((K.2.2.2.1.set (Int.toNat K.2.2.2.2) (Z.1,U.1)),U.2.1,U.2.2.1,U.2.2.2)) else(some (K.2.2.2.1,O.2.1,O.2.2.1,O.2.2.2))) fun V=> (Av (K.2.2.2.2+1)).bind fun aa=> some (.more (V.2.1,V.2.2.1,V.2.2.2,V.1,aa))) else(some (.done (K.2.2.2.1,K.1,K.2.1,K.2.2.1)))
def f40(fuel:Nat)(p0:BZ)(p1:Bz)(p2:Int):Option ((A6)×(BZ)):= (f45 fuel p0 p1 5).bind fun O=> (f46 fuel O.2.2 p1 O.2.1 p2 true).bind fun K=> Option.bind (iter (M9 fuel p1) fuel (K.2.1,K.2.2.1,K.2.2.2,K.1,0)) fun U=> some U
theorem YN{bk:Nat}{aL:Ao}{c2:Nat}{aB:Ao}{aC:Nat}{aM:Ao}{aN:Nat}{p0:BZ}{p1:Bz}{p2:Int}(a7:Ap rI E aL c2 p0.1)(aO:Ap (rL rI) E aB aC p1.1)(aP:Ap (rL rI) E aM aN p1.2){fuel:Nat}{r:(A6)×(BZ)}(aQ:f40 fuel p0 p1 p2=some r):AU J 40 [pV bk 0,.agg #[sV aB p1.1 aC,sV aM p1.2 aN],iV p2] E [(bk,.cells #[sV aL p0.1 c2,iV p0.2.1,.int .u64 ((p0.2.2:Nat):Int)] 92 (0,0))] (fun w E' B'=>∃(aR:Ao) (aS:Nat) (aT:Ao) (aU:Nat),w= sV aR r.1 aS∧B'= [(bk,.cells #[sV aT r.2.1 aU,iV r.2.2.1,.int .u64 ((r.2.2.2:Nat):Int)] 92 (0,0))]∧Ap BM E' aR aS r.1∧Ap rI E' aT aU r.2.1):=by
 refine Bj func40 fun Q ci cs H a8 a9=>?_;unfold f40 at aQ;refine zg 2 rfl (Cy a8 fun aj ck aa aD ba=>?_);refine zg 5 rfl (Cf aD Cs B4 rfl rfl ?_);obtain⟨cm,bb,bc⟩:=bs aQ;refine B8 0 (Y7 (a7.Ai aa) (aO.Ai aa) (aP.Ai aa) bb) rfl rfl (A3 func45 rfl) ba rfl ?_;rintro _ cn _ ae ⟨co,cp,cq,cr,rfl,rfl,bd,be⟩ bf;refine zg 9 rfl (Cf (aD.Ai ae) Cs B4 rfl rfl ?_);obtain⟨ct,bg,bh⟩:=bs bc;refine zg 2 rfl (B8 0 (Zh be (aO.Ai (aa.Ab ae)) (aP.Ai (aa.Ab ae)) bd bg) rfl rfl (A3 func46 rfl) bf rfl ?_);rintro _ aE _ aV ⟨bi,bj,bl,bm,bn,rfl,rfl,bo,bp⟩ bq;refine FA 0 rfl bq fun br=>?_;obtain⟨ab,bu,bv⟩:=bs bh;refine zg 7 rfl (Bs (fun L s=>∃(ak:LH) (al:Ao) (am:Nat) (aF:Seg) (an:Ao) (ao:Nat),Jn aE H ak [bX bk #[sV an ab.2.1 ao,iV ab.2.2.1,.int .u64 ((ab.2.2.2:Nat):Int)] 92,aF] [(9,sV al ab.1 am)] L s (OL 27 BM ak al am aF ab.1∧Ap rI ak an ao ab.2.1)) ?_ ?_)
 ·rintro _ _ ⟨ak,al,am,aF,an,ao,rfl,rfl,bw,bx,bz,bA⟩;refine zg 5 rfl (Cc 1 bz bx rfl fun cu aW bB bC=>?_);obtain rfl:=oi bv;exact AL func40 rfl rfl (a9 ((((aa.Ab ae).Ab aV).Ab bw).Ab aW) rfl ⟨al,am,an,ao,rfl,rfl,bB,(bA.Ai aW)⟩ bC)
 ·intro bD;refine JL.block (CE bu (fun L s K=>∃(ag:LH) (ap:Ao) (aq:Nat) (W:Ao) (Z:Nat) (ah:Seg),Jn aE H ag [bX bk #[sV ap K.1 aq,iV K.2.1,.int .u64 ((K.2.2.1:Nat):Int)] 92,ah] [(0,pV bk 0),(4,pV aj 0),(9,sV W K.2.2.2.1 Z),(10,iV K.2.2.2.2)] L s (Ap rI ag ap aq K.1∧OL 27 BM ag W Z ah K.2.2.2.1)) ⟨aE,bm,bn,bi,bj,bl,rfl,rfl,Aq,br,bp,bo⟩ ?_);rintro _ _ K ⟨ag,ap,aq,W,Z,ah,rfl,rfl,aG,aX,aY,aH⟩ bE ⟨cv,aI⟩ bF;have aZ:=aI;unfold M9 at aZ;refine zg 5 rfl (Bo underlying25 rfl rfl rfl ?_);refine zg 2 rfl (AM aZ (fun bG bH=>?_) (fun bG bI=>?_))
  ·obtain⟨bJ,bK,bL⟩:=bs bH;refine zg 6 rfl (B8 0 (Lj aY bK) rfl rfl Ki aX rfl ?_);rintro _ a0 _ ar ⟨bM,bN,rfl,rfl,a1⟩ a2;obtain⟨O,bO,bP⟩:=bs bL;refine JL.done (Bs (fun L s=>∃(ai:LH) (au:Ao) (av:Nat) (aw:Seg) (ay:Ao) (az:Nat),Jn a0 H ai [bX bk #[sV ay O.2.1 az,iV O.2.2.1,.int .u64 ((O.2.2.2:Nat):Int)] 92,aw] [(0,pV bk 0),(4,pV aj 0),(9,sV au O.1 av),(10,iV K.2.2.2.2)] L s (OL 27 BM ai au av aw O.1∧Ap rI ai ay az O.2.1)) ?_ ?_)
   ·rintro _ _ ⟨ai,au,av,aw,ay,az,rfl,rfl,bQ,bR,bS,bT⟩;obtain⟨bU,bV,bW⟩:=bs bP;refine zg 3 rfl (A9 bV rfl rfl rfl ?_);refine zg 2 rfl ?_;obtain rfl:=oi bW;exact Aw (bF _ _ (O.2.1,O.2.2.1,O.2.2.2,O.1,bU) ⟨ai,ay,az,au,av,aw,rfl,rfl,((aG.Ab ar).Ab bQ),bR,bT,bS⟩ aI) rfl
   ·intro a3;refine BK bO (fun bY bZ=>?_) (fun bY b0=>?_)
    ·refine zg 4 rfl (JL.fl 0 (aD.Ai (((ae.Ab aV).Ab aG).Ab ar)) underlying24 Ct Da ?_);refine Bo underlying22 rfl rfl rfl ?_;obtain⟨b1,b2,b3⟩:=bs bZ;refine Cd b2 rfl rfl rfl ?_;obtain⟨U,b4,b5⟩:=bs b3;refine B8 0 (HW a1 b4) rfl rfl HF a2 rfl ?_;rintro _ b6 _ a4 ⟨b7,b8,rfl,rfl,b9⟩ ca;obtain⟨V,cb,cc⟩:=bs b5;refine FU 1 (aH.Ai (ar.Ab a4)) cb rfl rfl rfl rfl rfl rfl underlying25 C5 ?_;rintro aJ aA f138 _ cd ⟨_,_,rfl,rfl,rfl⟩ ce a5 cf cw cy;refine BL underlying27 AN rfl rfl rfl (JS.store (v:=iV U.1) (off:=aA+1) 1 rfl rfl rfl ca rfl rfl AN (by simp [Value.cells,Cx]) cd (by have:=a5;simp only [Rp.n,rK,rN,rB,rP,rL] at this;show _+1≤_;omega) fun a6=>?_);rw [Ue (m:=1) (ws:= [iV V.1,iV V.2]) (vs:= [iV V.1,iV U.1]) (by have:=a5;simp only [Rp.n,rK,rN,rB,rP,rL] at this;show _+2≤_;omega) ce rfl (Nat.le_of_ble_eq_true rfl)] at a6 ⊢;have cg:=cf ((V.1,U.1)) [iV V.1,iV U.1] ⟨_,_,rfl,rfl,rfl⟩;have aK:(K.2.2.2.1.set (Int.toNat K.2.2.2.2) (V.1,U.1)).length=K.2.2.2.1.length:=List.length_set;refine Fg (L':= [(0,pV bk 0),(4,pV aj 0),(9,.slice W ((K.2.2.2.1.set (Int.toNat K.2.2.2.2) (V.1,U.1))).length Z),(10,iV K.2.2.2.2),(22,iV K.2.2.2.2),(23,.slice W ((K.2.2.2.1.set (Int.toNat K.2.2.2.2) (V.1,U.1))).length Z),(24,iV (K.2.2.2.1.length:Int)),(25,.bool (decide (K.2.2.2.2<(K.2.2.2.1.length:Int)))),(28,pV bk 0),(29,.bool bJ.1),(30,.slice W ((K.2.2.2.1.set (Int.toNat K.2.2.2.2) (V.1,U.1))).length Z),(31,iV K.2.2.2.2),(32,pV bk 0),(33,pV aj 0),(34,.slice aB p1.1.length aC),(35,iV (p1.1.length:Int)),(36,iV b1),(37,iV U.1),(38,pV aJ aA),(39,pV aJ (aA+1))]) ⟨rfl,rfl,by rw [aK];rfl,rfl,rfl,by rw [aK];rfl,rfl,rfl,rfl,rfl,by rw [aK];rfl,rfl,rfl,rfl,rfl,rfl,rfl,rfl,rfl,rfl,trivial⟩ ?_;refine JL.done ?_;obtain rfl:=oi cc;exact Aw (a3 _ _ ⟨b6,W,Z,[(aJ,.cells (A4 f138 aA [iV V.1,iV U.1]) 27 (0,0))],b7,b8,rfl,rfl,a4,a6,cg,b9⟩) rfl
    ·refine JL.skip ?_;obtain rfl:=oi b0;exact Aw (a3 _ _ ⟨a0,W,Z,ah,bM,bN,rfl,rfl,Aq,a2,(aH.Ai ar),a1⟩) rfl
  ·refine JL.exit rfl ?_;obtain rfl:=oi bI;obtain rfl:=bE _ aI;exact Aw (bD _ _ ⟨ag,W,Z,ah,ap,aq,rfl,rfl,aG,aX,aH,aY⟩) rfl
end Pal
namespace Pal
theorem Cq{S A:Type}{body:S→Option (Bn S A)}{Q:A→Prop}{K:S}{F:Nat}(n:Nat)(I:Nat→S→Prop)(V:I 0 K)(Z:n<F)
  (round:∀i s,i<n→I i s→A5 (body s) (Bn.sat (I (i+1)) Q)) (last:∀s,I n s→A5 (body s) (fun st=>∃a,st= .done a∧Q a)):A5 (Pal.iter body F K) Q:=by
 refine Ot (fun m s=>∃i,i≤n∧m=n - i∧I i s) ?_ (m:=n - 0) ⟨0,Nat.zero_le _,rfl,V⟩ (by omega);rintro m s ⟨i,hi,rfl,O⟩;rcases Nat.lt_or_ge i n with W | aa
 ·refine(round i s W O).Ai ?_;intro st U;cases st with
  | more s'=>exact⟨n - (i+1),by omega,i+1,by omega,rfl,U⟩
  | done a=>exact U
 ·obtain rfl:i=n:=by omega
  refine(last s O).Ai ?_;rintro st ⟨a,rfl,h⟩;exact h
theorem CV{α:Type}{o:Option α}{a:α}(h:A5 o (fun x=>x=a)):o=some a:=by obtain⟨x,K,rfl⟩:=h;exact K
theorem IV(F:Nat)(a lo hi:Int):f101 F a lo hi=some (decide (a<lo∨hi<a)):=by
 unfold f101;by_cases h:a<lo
 ·simp [h]
 ·simp [h]
theorem RP(F:Nat){s n:Nat}(hs:s<65536)(V:n≤16):f103 F s (n:Int)=some (s.testBit n):=by
 unfold f103;have K:Ls s (n:Int)=some (s>>>n):=by unfold Ls;rw [if_pos (by omega)];rfl
 rw [K];simp only [Option.bind_some];have O:s>>>n<65536:=Nat.lt_of_le_of_lt (Nat.shiftRight_le _ _) hs;have U:J1 (s>>>n) 1=some (s>>>n&&& 1):=if_pos ⟨O,by omega⟩;rw [U];simp only [Option.bind_some];rw [V6]
theorem OT(F:Nat){s n:Nat}(hs:s<65536)(K:n<16):f90 F s (n:Int)=some (s ||| 1<<<n):=by
 unfold f90;have O:Li (n:Int)=some (1<<<n):=by unfold Li;rw [if_pos (by omega)];rfl
 rw [O];simp only [Option.bind_some];have U:1<<<n<65536:=by rw [Nat.one_shiftLeft];exact Nat.pow_lt_pow_right (by omega) (show n<16 from K)
 have V:Jb s (1<<<n)=some (s ||| 1<<<n):=if_pos ⟨hs,U⟩;rw [V];rfl
theorem Nr{a b:Nat}(K:a<65536)(hb:b<65536):a ||| b<65536:=Nat.or_lt_two_pow (n:=16) K hb
theorem Sl{n:Nat}(K:n<16):1<<<n<65536:=by rw [Nat.one_shiftLeft];exact Nat.pow_lt_pow_right (by omega) (show n<16 from K)
def HB(n:Nat)(l:List Int):Prop:=∀x∈l,0≤x∧x<(n:Int)
def CW(l:List Int):Nat:=l.foldl (fun s x=>s ||| 1<<<x.toNat) 0
theorem Ub(l:List Int)(x:Int):CW (l++ [x])=CW l ||| 1<<<x.toNat:=by simp [CW]
theorem QG{l:List Int}(h:HB 16 l):CW l<65536:=by
 have key:∀(l:List Int) (s:Nat),s<65536→HB 16 l→l.foldl (fun s x=>s ||| 1<<<x.toNat) s<65536:=by
  intro l
  induction l with
  | nil=>intro s hs _;exact hs
  | cons x l O=>
   intro s hs K;have V:=K x (by simp);exact O _ (Nr hs (Sl (by omega))) fun y U=>K y (by simp [U])
 exact key l 0 (by omega) h
theorem Mc{l:List Int}(h:∀x∈l,0≤x)(n:Nat):(CW l).testBit n=decide ((n:Int)∈l):=by
 have key:∀(l:List Int) (s:Nat),(∀x∈l,0≤x)→(l.foldl (fun s x=>s ||| 1<<<x.toNat) s).testBit n=(s.testBit n || decide ((n:Int)∈l)):=by
  intro l
  induction l with
  | nil=>intro s _;simp
  | cons x l O=>
   intro s K;have V:=K x (by simp);rw [List.foldl_cons,O _ fun y U=>K y (by simp [U]),Nat.testBit_or];have e:(1<<<x.toNat).testBit n=decide ((n:Int)=x):=by
    rw [Nat.one_shiftLeft,Nat.testBit_two_pow];exact decide_eq_decide.2 ⟨fun h=>by omega,fun h=>by omega⟩
   rw [e,Bool.or_assoc];congr 1;simp
 rw [CW,key l 0 h];simp
theorem Rn{F:Nat}{l:List Int}(V:100<F)(W:l.length<100)(h:HB 16 l):f120 F l=some (CW l):=by
 refine CV ?_;unfold f120;refine AI (S:=fun r=>r=CW l) ?_ (by rintro r rfl;exact Al rfl);refine Cq l.length (fun i s=>s=(CW (l.take i),(i:Int))) (by simp [CW]) (by omega) ?_ ?_
 ·rintro i s hi rfl;unfold Ml;refine BI (by simp;omega) (Bv (m:=i) rfl hi ?_);have Z:=h l[i] (List.getElem_mem hi);have O:l[i]=((l[i].toNat:Nat):Int):=by omega
  have hs:CW (l.take i)<65536:=QG fun y U=>h y (List.mem_of_mem_take U);have K:=OT F (n:=l[i].toNat) hs (by omega);rw [← O] at K;refine AP K ?_;refine AX ((i+1:Nat):Int) (by simp) (by omega) (by omega) ?_;refine Al ?_;show _=_;rw [List.take_add_one,List.getElem?_eq_getElem hi];simp only [Option.toList_some];rw [Ub]
 ·rintro s rfl;unfold Ml;exact Bf (by simp) (Al ⟨_,rfl,by simp⟩)
def BU(s:Nat)(k:Nat):List Int:=((List.range k).filter (fun n=>s.testBit n)).map (fun(n:Nat)=>(n:Int))
theorem NU(s k:Nat):BU s (k+1)=if s.testBit k=true then BU s k++ [(k:Int)] else BU s k:=by
 unfold BU;rw [List.range_succ,List.filter_append];by_cases h:s.testBit k=true
 ·rw [if_pos h];simp [h]
 ·rw [if_neg h];simp [h]
theorem Jj(s k:Nat):(BU s k).length≤k:=by
 unfold BU;rw [List.length_map];exact Nat.le_trans (List.length_filter_le _ _) (by simp)
theorem Ie{s k:Nat}{x:Int}:x∈BU s k↔∃n:Nat,n<k∧s.testBit n=true∧x=(n:Int):=by
 unfold BU;simp only [List.mem_map,List.mem_filter,List.mem_range];exact⟨fun⟨n,⟨K,O⟩,U⟩=>⟨n,K,O,U.symm⟩,fun⟨n,K,O,U⟩=>⟨n,⟨K,O⟩,U.symm⟩⟩
theorem M6{F s:Nat}(K:100<F)(hs:s<65536):f89 F s=some (BU s 16):=by
 refine CV ?_;unfold f89;refine AI (S:=fun r=>r=BU s 16) ?_ (by rintro r rfl;exact Al rfl);refine Cq 16 (fun i st=>st=(BU s i,(i:Int))) rfl (by omega) ?_ ?_
 ·rintro i st hi rfl;unfold M4;refine BI (by simp only;omega) (AP (RP F hs (by omega)) ?_);have hlen:=Jj s i;refine AI (S:=fun r=>r=BU s (i+1)) ?_ ?_
  ·rw [NU];refine By (fun h=>?_) (fun h=>?_)
   ·rw [if_pos h];exact Ij (by simp only;omega) (Al rfl)
   ·rw [if_neg h];exact Al rfl
  ·rintro r rfl;exact AX ((i+1:Nat):Int) (by simp) (by omega) (by omega) (Al rfl)
 ·rintro st rfl;unfold M4;exact Bf (by simp) (Al ⟨_,rfl,rfl⟩)
theorem Xd{F:Nat}{l:List Int}{x:Int}(V:100<F)(W:l.length<100):A5 (f107 F l x) (fun r=>decide (0≤r)=decide (x∈l)):=by
 unfold f107;refine AI (S:=fun q=>match q with | Sum.inl r=>0≤r∧x∈l | Sum.inr _=>x ∉ l) ?_ ?_
 ·refine Cq l.length (fun i s=>s=(i:Int)∧x ∉ l.take i) ⟨rfl,by simp⟩ (by omega) ?_ ?_
  ·rintro i s hi ⟨rfl,K⟩;unfold My;refine BI (by omega) (Bv (m:=i) rfl hi ?_);refine By (fun h=>?_) (fun h=>?_)
   ·exact Al ⟨by omega,by rw [← h];exact List.getElem_mem hi⟩
   ·refine AX ((i+1:Nat):Int) (by simp) (by omega) (by omega) (Al ⟨rfl,?_⟩);rw [List.take_add_one,List.getElem?_eq_getElem hi];simp only [Option.toList_some,List.mem_append,List.mem_singleton];rintro(O | O)
    ·exact K O
    ·exact h O.symm
  ·rintro s ⟨rfl,K⟩;unfold My;exact Bf (by omega) (Al ⟨_,rfl,by simpa using K⟩)
 ·rintro(r | u) U
  ·exact Al (by rw [decide_eq_true U.1,decide_eq_true U.2])
  ·exact Al (by rw [decide_eq_false U];rfl)
theorem X9{F:Nat}{l:List Int}{x:Int}(K:100<F)(O:l.length<100):f53 F l x=some (decide (x∈l)):=by
 refine CV ?_;unfold f53;refine AI (Xd K O) ?_;intro r U;exact Al U
end Pal
namespace Pal
abbrev JW:=List (List Int)×List (List Int)
structure VL (n:Nat) (l:List Int):Prop where
 len:l.length≤3
 inr:HB n l
 II:l.Pairwise (·<·)
structure VJ (n:Nat) (J:JW):Prop where
 pos:0<n
 le:n≤8
 l1:J.1.length=n
 l2:J.2.length=n
 nx:∀(i:Nat) l,J.1[i]? =some l→VL n l∧0<l.length
 fl:∀(i:Nat) l,J.2[i]? =some l→VL n l∧(i:Int) ∉ l
theorem XQ{l:List Int}(h:l.Pairwise (·<·)){i:Nat}(hi:i<l.length)(K:0<i):¬(l[i]≤l[i - 1]'(by omega)):=by
 have:=List.pairwise_iff_getElem.1 h (i - 1) i (by omega) hi (by omega);omega
theorem RD{F n:Nat}{J:JW}{m:Nat}{l:List Int}{b:Bool}(O:100<F)(U:J.1.length=n)(V:0<n∧n≤8)(K:VL n l)(hb:b=true∨(m:Int) ∉ l):f136 F J (m:Int) l b=some none:=by
 refine CV ?_;unfold f136;have hlen:=K.len;refine AI (S:=fun q=>q=Sum.inr ()) ?_ (by rintro q rfl;exact Al rfl);refine Cq l.length (fun i s=>s=(i:Int)) rfl (by omega) ?_ ?_
 ·rintro i s hi rfl;unfold JH;have W:=K.inr l[i] (List.getElem_mem hi);refine BI (by omega) (Bv (m:=i) rfl hi ?_);refine AX ((n - 1:Nat):Int) (by omega) (by omega) (by omega) (AP (IV F _ _ _) ?_);refine Bf (by simp;omega) (AI (S:=fun c=>c=false) ?_ ?_)
  ·refine By (fun h=>?_) (fun h=>Al rfl);rcases hb with rfl | hb
   ·exact Al rfl
   ·exact absurd (h▸List.getElem_mem hi) hb
  ·rintro c rfl;refine Bf (by simp) (AI (S:=fun c=>c=false) ?_ ?_)
   ·refine By (fun h=>?_) (fun h=>Al rfl);refine AX ((i - 1:Nat):Int) (by omega) (by omega) (by omega) (Bv (m:=i - 1) rfl (by omega) ?_);exact Al (decide_eq_false (XQ K.II hi (by omega)))
   ·rintro c rfl;refine Bf (by simp) (AX ((i+1:Nat):Int) (by simp) (by omega) (by omega) ?_);exact Al rfl
 ·rintro s rfl;unfold JH;exact Bf (by omega) (Al ⟨_,rfl,rfl⟩)
theorem RR{F n:Nat}{J:JW}(U:100<F)(K:VJ n J):f113 F J=some none:=by
 have V:=K.l1;have ab:=K.l2;have W:=K.pos;have Z:=K.le;refine CV ?_;unfold f113;refine Bf (by omega) (Bf (by omega) (Bf (by omega) ?_));refine AI (S:=fun q=>q=Sum.inr ()) ?_ (by rintro q rfl;exact Al rfl);refine Cq n (fun i s=>s=(i:Int)) rfl (by omega) ?_ ?_
 ·rintro i s hi rfl;unfold Jz;have aa:i<J.1.length:=by omega
  have O:i<J.2.length:=by omega
  obtain⟨v1,v2⟩:=K.nx i _ (List.getElem?_eq_getElem aa);obtain⟨w1,w2⟩:=K.fl i _ (List.getElem?_eq_getElem O);have ae:=v1.len;have g2:=w1.len;refine BI (by omega) (Bv (m:=i) rfl aa ?_);refine Bf (by omega) (Bf (by omega) ?_);refine AP (RD U V ⟨W,Z⟩ v1 (.inl rfl)) (Bf (by simp) ?_);refine Bv (m:=i) rfl O (Bf (by omega) ?_);refine Bv (m:=i) rfl O (AP (RD U V ⟨W,Z⟩ w1 (.inr w2)) ?_);refine Bf (by simp) (AX ((i+1:Nat):Int) (by simp) (by omega) (by omega) ?_);exact Al rfl
 ·rintro s rfl;unfold Jz;exact Bf (by omega) (Al ⟨_,rfl,rfl⟩)
theorem TX(F:Nat):JX F none=some 0:=by
 unfold JX f112;have h:∃b,f135 F=some b:=by unfold f135;exact⟨_,rfl⟩
 obtain⟨b,hb⟩:=h;rw [hb];cases b <;> rfl
def GN(nx:List (List Int))(s:Nat):Nat:=(BU s 16).foldl (fun o m=>o ||| CW (nx.getD m.toNat [])) 0
theorem VJ.Gh{n:Nat}{J:JW}(K:VJ n J)(m:Nat):VL n (J.1.getD m []):=by
 rw [List.getD_eq_getElem?_getD];cases h:J.1[m]? with
 | none=>exact⟨by simp,fun x O=>by simp at O,by simp⟩
 | some l=>exact(K.nx m l h).1
theorem HB.Ai{n m:Nat}{l:List Int}(h:HB n l)(hle:n≤m):HB m l:=fun x K=>by have:=h x K;omega
theorem Oz{n:Nat}{J:JW}(U:VJ n J)(s k:Nat):(GN J.1 s).testBit k=true↔∃m,m<16∧s.testBit m=true∧(k:Int)∈J.1.getD m []:=by
 have key:∀(l:List Int) (o:Nat),(l.foldl (fun o m=>o ||| CW (J.1.getD m.toNat [])) o).testBit k=true↔o.testBit k=true∨∃m∈l,(k:Int)∈J.1.getD m.toNat []:=by
  intro l
  induction l with
  | nil=>intro o;simp
  | cons x l V=>
   intro o;rw [List.foldl_cons,V,Nat.testBit_or,Bool.or_eq_true,Mc fun y W=>((U.Gh x.toNat).inr y W).1,decide_eq_true_eq];simp only [List.mem_cons,exists_eq_or_imp,or_assoc]
 unfold GN;rw [key];simp only [Nat.zero_testBit,Bool.false_eq_true,false_or];constructor
 ·rintro⟨x,Z,aa⟩;obtain⟨m,K,O,rfl⟩:=Ie.1 Z;exact⟨m,K,O,aa⟩
 ·rintro⟨m,K,O,ab⟩;exact⟨(m:Int),Ie.2 ⟨m,K,O,rfl⟩,by simpa using ab⟩
theorem T3{n s:Nat}(h:∀k,n≤k→s.testBit k=false):s<2 ^ n:=Nat.lt_pow_two_of_testBit s h
theorem SB{n:Nat}{J:JW}(K:VJ n J)(s:Nat):GN J.1 s<2 ^ n:=by
 refine T3 fun k U=>?_;cases h:(GN J.1 s).testBit k with
 | false=>rfl
 | true=>
  obtain⟨m,_,_,O⟩:=(Oz K s k).1 h;have:=(K.Gh m).inr _ O;omega
theorem R0{n:Nat}(h:n≤8):2 ^ n≤256:=Nat.pow_le_pow_right (by omega) h
theorem Ik{n s k:Nat}(h:s<2 ^ n)(O:s.testBit k=true):k<n:=by
 rcases Nat.lt_or_ge k n with K | K
 ·exact K
 ·rw [Nat.testBit_lt_two_pow (Nat.lt_of_lt_of_le h (Nat.pow_le_pow_right (by omega) K))] at O;cases O
theorem Vr{F n:Nat}{J:JW}{A:List Nat}{s:Nat}(V:100<F)(K:VJ n J)(hs:s<2 ^ n):Lr F (J.1,J.2,A) s=some (GN J.1 s,(J.1,J.2,A)):=by
 have ae:=K.l1;have ab:=K.le;have ag:=R0 ab;refine CV ?_;unfold Lr;refine AP (M6 V (by omega)) ?_;refine AI (S:=fun r=>r=GN J.1 s) ?_ (by rintro r rfl;exact Al rfl);have hlen:=Jj s 16;refine Cq (BU s 16).length (fun i st=>st=(((BU s 16).take i).foldl (fun o m=>o ||| CW (J.1.getD m.toNat [])) 0,(i:Int))∧((BU s 16).take i).foldl (fun o m=>o ||| CW (J.1.getD m.toNat [])) 0<65536) ⟨rfl,by simp⟩ (by omega) ?_ ?_
 ·rintro i st hi ⟨rfl,W⟩;unfold Mg;obtain⟨m,ah,g2,Z⟩:=Ie.1 (List.getElem_mem hi);have hm:=Ik hs g2;have O:m<J.1.length:=by omega
  have U:=(K.nx m _ (List.getElem?_eq_getElem O)).1;have ai:=U.len;refine BI (by simp;omega) ?_;refine Bv (m:=i) rfl hi ?_;refine Bv (m:=m) Z O ?_;refine AP (Rn V (show J.1[m].length<100 by omega) (U.inr.Ai (by omega))) ?_;have aa:CW J.1[m]<65536:=QG (U.inr.Ai (by omega));refine AP (b:=((BU s 16).take i).foldl (fun o m=>o ||| CW (J.1.getD m.toNat [])) 0 ||| CW J.1[m]) (if_pos ⟨W,aa⟩) ?_;refine AX ((i+1:Nat):Int) (by simp) (by omega) (by omega) ?_;have e:((BU s 16).take (i+1)).foldl (fun o m=>o ||| CW (J.1.getD m.toNat [])) 0=((BU s 16).take i).foldl (fun o m=>o ||| CW (J.1.getD m.toNat [])) 0 ||| CW J.1[m]:=by
   rw [List.take_add_one,List.getElem?_eq_getElem hi,List.foldl_append,Z];simp [List.getD_eq_getElem?_getD,O]
  refine Al ⟨?_,?_⟩
  ·rw [e]
  ·rw [e];exact Nr W aa
 ·rintro st ⟨rfl,_⟩;unfold Mg;refine Bf (by simp) (Al ⟨_,rfl,?_⟩);rw [List.take_length];rfl
def AG(J:JW):Nat→Nat
 | 0=>1
 | a+1=>GN J.1 (AG J a)
theorem Iz{n:Nat}{J:JW}(K:VJ n J):∀a,AG J a<2 ^ n
 | 0=>Nat.one_lt_two_pow (by have:=K.pos;omega)
 | a+1=>SB K _
def Gi(J:JW):List Nat:=(List.range 13).map (AG J)
def Lu(J:JW)(n k:Nat)(A:List Nat):Prop:=A.length=13∧(∀i,i≤k→i<13→A[i]? =some (AG J i))∧∀x∈A,x<2 ^ n
theorem Lu.all{J:JW}{n:Nat}{A:List Nat}(h:Lu J n 12 A):A=Gi J:=by
 apply List.ext_getElem?;intro i;rcases Nat.lt_or_ge i 13 with hi | hi
 ·rw [h.2.1 i (by omega) hi];simp [Gi,hi]
 ·rw [List.getElem?_eq_none (by rw [h.1];exact hi),List.getElem?_eq_none (by simp [Gi];exact hi)]
theorem Qh{F n:Nat}{J:JW}{A:List Nat}(ab:100<F)(W:VJ n J)(ae:A.length=13)(Z:∀x∈A,x<2 ^ n):
  A5 (iter (K9 F) F (J.1,J.2,A,A,0)) (fun r=>r.1=J.1∧r.2.1=J.2∧r.2.2.1=A∧r.2.2.2.length=13∧r.2.2.2[0]? =A[0]? ∧(∀i,i<12→∀s,A[i]? =some s→r.2.2.2[i+1]? =some (GN J.1 s))∧∀x∈r.2.2.2,x<2 ^ n):=by
 refine Cq 12 (fun k st=>∃B:List Nat,st=(J.1,J.2,A,B,(k:Int))∧B.length=13∧B[0]? =A[0]? ∧(∀i,i<k→∀s,A[i]? =some s→B[i+1]? =some (GN J.1 s))∧∀x∈B,x<2 ^ n) ⟨A,rfl,ae,rfl,fun i hi=>by omega,Z⟩ (by omega) ?_ ?_
 ·rintro k st ah ⟨B,rfl,K,O,hs,hb⟩;unfold K9;have U:k<A.length:=by omega
  have aa:k+1<B.length:=by omega
  refine BI (by simp only;omega) (AX ((k+1:Nat):Int) (by simp) (by omega) (by omega) ?_);refine Bv (m:=k) rfl U (AP (Vr ab W (Z _ (List.getElem_mem U))) ?_);refine Bv (m:=k+1) rfl aa (AX ((k+1:Nat):Int) (by simp) (by omega) (by omega) ?_);refine Al ⟨B.set (k+1) (GN J.1 A[k]),rfl,by simpa using K,?_,?_,?_⟩
  ·rw [List.getElem?_set_ne (by omega)];exact O
  ·intro i hi s V;by_cases e:i=k
   ·subst e;rw [List.getElem?_set_self aa];have:A[i]=s:=by rw [List.getElem?_eq_getElem U] at V;exact Option.some.inj V
    rw [this]
   ·rw [List.getElem?_set_ne (by omega)];exact hs i (by omega) s V
  ·intro x ag;rcases List.mem_or_eq_of_mem_set ag with h | h
   ·exact hb x h
   ·subst h;exact SB W _
 ·rintro st ⟨B,rfl,K,O,hs,hb⟩;unfold K9;refine Bf (by simp) (Al ⟨_,rfl,rfl,rfl,rfl,K,O,hs,hb⟩)
theorem Sk{F n:Nat}{J:JW}(ag:100<F)(aa:VJ n J):f92 F J=some (some (J.1,J.2,Gi J)):=by
 have ao:=aa.pos;refine CV ?_;unfold f92;refine Bv (m:=0) rfl (by simp) ?_;refine AI (S:=fun q=>q=Sum.inl (some (J.1,J.2,Gi J))) ?_ (by rintro q rfl;exact Al rfl);refine Cq 12 (fun k st=>∃A:List Nat,st=(J.1,J.2,A)∧Lu J n k A) ?_ (by omega) ?_ ?_
 ·refine⟨_,rfl,by simp,fun i hi _=>?_,fun x ah=>?_⟩
  ·obtain rfl:i=0:=by omega
   rfl
  ·rcases List.mem_or_eq_of_mem_set ah with h | h
   ·simp at h;subst h;exact Nat.two_pow_pos n
   ·subst h;exact Nat.one_lt_two_pow (by omega)
 ·rintro k st ap ⟨A,rfl,K⟩;unfold MP;refine AI (Qh ag aa K.1 K.2.2) ?_;rintro⟨ai,aj,ab,B⟩ ⟨W,e2,Z,O,g2,U,V⟩;simp only at W e2 Z O g2 U V ⊢;subst W e2 Z;refine By (fun h=>?_) (fun h=>?_)
  ·refine Al ⟨B,rfl,O,fun i hi ae=>?_,V⟩;cases i with
   | zero=>rw [g2];exact K.2.1 0 (by omega) (by omega)
   | succ i=>exact U i (by omega) _ (K.2.1 i (by omega) (by omega))
  ·have e:B=ab:=Decidable.byContradiction fun ak=>h ak;subst e;refine Al ?_;show _=_;have al:Lu J n 12 B:=by
    refine⟨O,fun i hi ae=>?_,V⟩;have:∀i,i<13→B[i]? =some (AG J i):=by
     intro i
     induction i with
     | zero=>intro _;exact K.2.1 0 (by omega) (by omega)
     | succ i am=>intro h;exact U i (by omega) _ (am (by omega))
    exact this i ae
   rw [al.all]
 ·rintro st ⟨A,rfl,K⟩;unfold MP;refine AI (Qh ag aa K.1 K.2.2) ?_;rintro⟨ai,aj,ab,B⟩ ⟨W,e2,Z,O,g2,U,V⟩;simp only at W e2 Z O g2 U V ⊢;subst W e2 Z;have an:Lu J n 12 B:=by
   refine⟨O,fun i hi ae=>?_,V⟩;cases i with
   | zero=>rw [g2];exact K.2.1 0 (by omega) (by omega)
   | succ i=>exact U i (by omega) _ (K.2.1 i (by omega) (by omega))
  have e:B=ab:=by rw [an.all,K.all]
  refine Bf (by rw [e];simp) (Al ⟨_,rfl,?_⟩);rw [K.all]
end Pal
