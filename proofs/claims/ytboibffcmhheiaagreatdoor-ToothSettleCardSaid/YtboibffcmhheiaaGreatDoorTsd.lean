/- ToothSettle. Part 4 of 8. -/
import Derived.Test.YtboibffcmhheiaaGreatDoorTsb
import Derived.Test.YtboibffcmhheiaaGreatDoorTsc
import Derived.Sort.AssemblyPlain
import Derived.Sort.Walk13a
set_option linter.all false
set_option maxRecDepth 100000
namespace Pal
open Go Go.Conc Go.Proofs
open Go.Proofs.Tryz
variable {J:Judge Tryz.prog}{E:LH}
def RP:List Nat:= [0,1,2,2,3,3,3,3,4,4,4,4,4,4,4,4,5,5,5,5,5,5,5,5,5,5,5,5,5,5,5,5,6,6,6,6,6,6,6,6,6,6,6,6,6,6,6,6,6,6,6,6,6,6,6,6,6,6,6,6,6,6,6,6,7,7,7,7,7,7,7,7,7,7,7,7,7,7,7,7,7,7,7,7,7,7,7,7,7,7,7,7,7,7,7,7,7,7,7,7,7,7,7,7,7,7,7,7,7,7,7,7,7,7,7,7,7,7,7,7,7,7,7,7,7,7,7,7,8,8,8,8,8,8,8,8,8,8,8,8,8,8,8,8,8,8,8,8,8,8,8,8,8,8,8,8,8,8,8,8,8,8,8,8,8,8,8,8,8,8,8,8,8,8,8,8,8,8,8,8,8,8,8,8,8,8,8,8,8,8,8,8,8,8,8,8,8,8,8,8,8,8,8,8,8,8,8,8,8,8,8,8,8,8,8,8,8,8,8,8,8,8,8,8,8,8,8,8,8,8,8,8,8,8,8,8,8,8,8,8,8,8,8,8,8,8,8,8,8,8,8,8,8,8,8,8]
def f187(fuel:Nat)(p0:Nat):Option Int:= Option.bind (if(((4294967296):Nat):Int)≤(((p0):Nat):Int) then(some (p0>>>32,32)) else(some (p0,0))) fun K=> Option.bind (if(((65536):Nat):Int)≤(((K.1):Nat):Int) then((Au (K.2+16)).bind fun V=> some (K.1>>>16,V)) else(some K)) fun O=> Option.bind (if(((256):Nat):Int)≤(((O.1):Nat):Int) then((Au (O.2+8)).bind fun W=> some (O.1>>>8,W)) else(some O)) fun U=> (Lb RP (((((U.1) % 256):Nat):Int))).bind fun Z=> (Au (((Z):Nat):Int)).bind fun aa=> (Au (U.2+aa)).bind fun ab=> some ab
theorem XY{p0:Nat}{fuel:Nat}{r:Int}(V:f187 fuel p0=some r):AQ J 187 [.int .u64 ((p0:Nat):Int)] E [] (fun w E' B'=>w=iV r∧B'= []):=by
 refine Bc func187 fun Q aQ cs H W ah=>?_;unfold f187 at V;obtain⟨K,ai,aj⟩:=bs V;refine zg 10 rfl (Cu [] [(0,.int .u64 ((K.1:Nat):Int)),(2,iV K.2)] (fun aR ak Z=>?_) (fun aa=>?_))
 ·obtain⟨O,al,am⟩:=bs aj;refine zg 6 rfl (Cu [] [(0,.int .u64 ((O.1:Nat):Int)),(2,iV O.2)] (fun aS an ab=>?_) (fun ae=>?_))
  ·obtain⟨U,ao,ap⟩:=bs am;refine zg 6 rfl (Cu [] [(0,.int .u64 ((U.1:Nat):Int)),(2,iV U.2)] (fun aT aq ar=>?_) (fun ag=>?_))
   ·refine zg 4 rfl (AA (v:= .int .u8 (((U.1) % 256:Nat):Int)) rfl (fun ρ h=>V9 underlying90 underlying5 (h _ _ rfl)) ?_);obtain⟨au,av,aw⟩:=bs ap;refine AA (v:= .int .u8 ((au:Nat):Int)) rfl (fun ρ h=>N2 (l:=RP) (by decide+kernel) underlying9 (h _ _ rfl) (h _ _ rfl) av) ?_;obtain⟨ay,az,aA⟩:=bs aw;refine AA (v:=iV ay) rfl (fun ρ h=>RB underlying5 underlying3 (h _ _ rfl) az) ?_;obtain⟨aU,aB,aC⟩:=bs aA;refine Ba aB rfl rfl rfl (zg 2 rfl ?_);obtain rfl:=oi aC;exact AF func187 rfl rfl (ah ((ak.Ac an).Ac aq) rfl ⟨rfl,rfl⟩ ar)
   ·refine AK ao (fun aD aE=>?_) (fun aD aF=>?_)
    ·refine zg 3 rfl (AA (v:= .int .u64 ((O.1>>>8:Nat):Int)) rfl (fun ρ h=>Jp 8 (h _ _ rfl) (h _ _ rfl) (by decide)) ?_);obtain⟨aV,aG,aH⟩:=bs aE;refine zg 4 rfl (Ba aG rfl rfl rfl ?_);refine zg 2 rfl ?_;obtain rfl:=oi aH;exact ag Aq ab rfl
    ·refine JL.skip ?_;obtain rfl:=oi aF;exact ag Aq ab rfl
  ·refine AK al (fun aI aJ=>?_) (fun aI aK=>?_)
   ·refine zg 3 rfl (AA (v:= .int .u64 ((K.1>>>16:Nat):Int)) rfl (fun ρ h=>Jp 16 (h _ _ rfl) (h _ _ rfl) (by decide)) ?_);obtain⟨aW,aL,aM⟩:=bs aJ;refine zg 4 rfl (Ba aL rfl rfl rfl ?_);refine zg 2 rfl ?_;obtain rfl:=oi aM;exact ae Aq Z rfl
   ·refine JL.skip ?_;obtain rfl:=oi aK;exact ae Aq Z rfl
 ·refine AK ai (fun aN aO=>?_) (fun aN aP=>?_)
  ·refine zg 3 rfl (AA (v:= .int .u64 ((p0>>>32:Nat):Int)) rfl (fun ρ h=>Jp 32 (h _ _ rfl) (h _ _ rfl) (by decide)) ?_);refine zg 5 rfl ?_;obtain rfl:=oi aO;exact aa Aq W rfl
  ·refine JL.skip ?_;obtain rfl:=oi aP;exact aa Aq W rfl
def f163(fuel:Nat)(p0:Nat):Option Int:= (f187 fuel p0).bind fun K=> some K
theorem RN{p0:Nat}{fuel:Nat}{r:Int}(K:f163 fuel p0=some r):AQ J 163 [.int .u64 ((p0:Nat):Int)] E [] (fun w E' B'=>w=iV r∧B'= []):=by
 refine Bc func163 fun Q ab cs H O U=>?_;unfold f163 at K;obtain⟨ae,V,W⟩:=bs K;refine zg 10 rfl (BH (XY V) rfl rfl (A2 func187 rfl) O fun ag Z aa=>?_);refine zg 2 rfl ?_;obtain rfl:=oi W;exact AF func163 rfl rfl (U Z rfl ⟨rfl,rfl⟩ aa)
def f134(fuel:Nat)(p0:Bo)(p1:Bo):Option Int:= (Au (p0.1 - p1.1)).bind fun K=> some K
theorem GW{K:Ap}{c2:Nat}{O:Ap}{U:Nat}{p0:Bo}{p1:Bo}(al:Ao Dm E K c2 p0.2.2)(am:Ao Dm E O U p1.2.2){fuel:Nat}{r:Int}(V:f134 fuel p0 p1=some r):AQ J 134 [.agg #[iV p0.1,iV p0.2.1,sV K p0.2.2 c2],.agg #[iV p1.1,iV p1.2.1,sV O p1.2.2 U]] E [] (fun w E' B'=>w=iV r∧B'= []):=by
 refine Bc func134 fun Q an cs H Z aa=>?_;unfold f134 at V;refine zg 2 rfl (Cs Z fun ao ap ab ae ag=>?_);refine Cs ag fun aq ar W ah ai=>?_;refine zg 4 rfl (JL.fl 0 (ae.Ai W) underlying133 AW Bx ?_);refine JL.fl 0 ah underlying133 AW Bx ?_;obtain⟨au,aj,ak⟩:=bs V;refine B7 aj rfl rfl rfl (zg 2 rfl ?_);obtain rfl:=oi ak;exact AF func134 rfl rfl (aa (ab.Ac W) rfl ⟨rfl,rfl⟩ ai)
def Jk(fuel:Nat)(p1:Int)(K:Int×(List Bo)):Option (Bl (Int×(List Bo)) ((List Bo))):= Option.bind (if p1<K.1 then((ix K.2 K.1).bind fun V=> (Au (K.1 - 1)).bind fun W=> (ix K.2 W).bind fun Z=> (f134 fuel V Z).bind fun aa=> some (decide (aa<0))) else(some false)) fun ab=> if ab=true then((Au (K.1 - 1)).bind fun O=> (Au (K.1 - 1)).bind fun ae=> (ix K.2 ae).bind fun U=> (ix K.2 K.1).bind fun ag=> (ix (K.2.set (Int.toNat K.1) U) O).bind fun ai=> (Au (K.1 - 1)).bind fun ah=> some (.more (ah,((K.2.set (Int.toNat K.1) U).set (Int.toNat O) ag)))) else(some (.done K.2))
def IF(fuel:Nat)(p1:Int)(p2:Int)(K:Int×(List Bo)):Option (Bl (Int×(List Bo)) ((List Bo))):= if K.1<p2 then(Option.bind (iter (Jk fuel p1) fuel K) fun O=> (Au (K.1+1)).bind fun U=> some (.more (U,O))) else(some (.done K.2))
def f178(fuel:Nat)(p0:List Bo)(p1:Int)(p2:Int):Option ((List Bo)):= (Au (p1+1)).bind fun K=> Option.bind (iter (IF fuel p1 p2) fuel (K,p0)) fun O=> some O
theorem R5{K:Nat}{U:Nat}{V:Nat}{aq:Ax}{p0:List (Bo)}{p1:Int}{p2:Int}(hW:WL 133 Cn E K U V aq p0){fuel:Nat}{r:(List Bo)}(aD:f178 fuel p0 p1 p2=some r):AQ J 178 [.slice (Bh K) V U,iV p1,iV p2,(fV 134)] E [(K,.cells aq 133 (0,0))] (fun w E' B'=>∃(aE:Ax),w= .tuple #[]∧B'= [(K,.cells aE 133 (0,0))]∧WL 133 Cn E' K U V aE r):=by
 refine Bc func178 fun Q b3 cs H aX aY=>?_;unfold f178 at aD;obtain⟨b4,aZ,a0⟩:=bs aD;refine zg 3 rfl (Ba aZ rfl rfl rfl ?_);obtain⟨a1,a2,a3⟩:=bs a0;refine zg 2 rfl (Bs (fun L s=>∃(ar:LH) (f17:Ax),Jn E H ar [bX K f17 133] [] L s (WL 133 Cn ar K U V f17 a1)) ?_ ?_)
 ·rintro _ _ ⟨ar,f17,rfl,rfl,a4,a5,a6⟩;obtain rfl:=oi a3;exact JL.fin (v:= .tuple #[]) rfl rfl (B9.list func178 rfl (vs:= []) trivial) (aY a4 rfl ⟨f17,rfl,(by first | rfl | simp | (simp [Value.cells])),a6⟩ a5)
 ·intro a7;refine JL.block (CG a2 (fun L s ae=>∃(ab:LH) (f25:Ax),Jn E H ab [bX K f25 133] [(0,.slice (Bh K) V U),(1,iV p1),(2,iV p2),(3,(fV 134)),(8,iV ae.1)] L s (WL 133 Cn ab K U V f25 ae.2)) ⟨E,aq,rfl,rfl,Aq,aX,hW⟩ ?_);rintro _ _ ae ⟨ab,f25,rfl,rfl,aF,aG,aH⟩ a8 ⟨b5,au⟩ a9;have aI:=au;unfold IF at aI;refine zg 7 rfl (AK aI (fun ba bb=>?_) (fun ba bc=>?_))
  ·obtain⟨aJ,bd,be⟩:=bs bb;refine zg 8 rfl (Bs (fun L s=>∃(am:LH) (f48:Ax),Jn ab H am [bX K f48 133] [(0,.slice (Bh K) V U),(1,iV p1),(2,iV p2),(3,(fV 134)),(8,iV ae.1)] L s (WL 133 Cn am K U V f48 aJ)) ?_ ?_)
   ·rintro _ _ ⟨am,f48,rfl,rfl,bf,bg,bh⟩;obtain⟨bi,bj,bl⟩:=bs be;refine zg 3 rfl (Ba bj rfl rfl rfl ?_);refine zg 2 rfl ?_;obtain rfl:=oi bl;exact Ay (a9 _ _ (bi,aJ) ⟨am,f48,rfl,rfl,(aF.Ac bf),bg,bh⟩ au) rfl
   ·intro bm;refine JL.block (CG bd (fun L s aa=>∃(aj:LH) (f58:Ax),Jn ab H aj [bX K f58 133] [(0,.slice (Bh K) V U),(1,iV p1),(2,iV p2),(3,(fV 134)),(8,iV ae.1),(9,iV aa.1)] L s (WL 133 Cn aj K U V f58 aa.2)) ⟨ab,f25,rfl,rfl,Aq,aG,aH⟩ ?_);rintro _ _ aa ⟨aj,f58,rfl,rfl,aK,ak,O⟩ bn ⟨b6,av⟩ bo;have aL:=av;unfold Jk at aL;refine zg 2 rfl (Dv 17 [K] ⟨⟨0,_,rfl⟩,trivial⟩ ak fun ht=>?_);refine Bi ht rfl [0,1,2,3] rfl ?_;obtain⟨bp,aM,bq⟩:=bs aL;refine FW 0 #[true,true,true,true,true,true,true,true,true,true,true,true,true,true,true,true,true] (fun L s=>∃(an:LH),Jm aj H an [bX K f58 133] [(0,.slice (Bh K) V U),(1,iV p1),(2,iV p2),(3,(fV 134)),(8,iV ae.1),(9,iV aa.1),(34,.bool bp)] L s) ?_ ?_
    ·rintro _ _ ⟨an,rfl,rfl,ag,ao⟩;refine AT.fin (by decide+kernel) (BM bq (fun br bu=>?_) (fun br bv=>?_))
     ·refine zg 3 rfl (GR [15,17] [K] mixed rfl ?_);refine Bn 0 rfl rfl (Bn 1 rfl rfl ?_);refine Bn 2 rfl rfl (Bn 3 rfl rfl ?_);obtain⟨aN,bw,bx⟩:=bs bu;refine GC 4 true rfl rfl (fun ρ h s' hs=>C8 (h _ _ rfl) (h _ _ rfl) bw) (Bn 5 rfl rfl ?_);refine Bn 6 rfl rfl ?_;obtain⟨b7,bz,bA⟩:=bs bx;refine GC 7 true rfl rfl (fun ρ h s' hs=>C8 (h _ _ rfl) (h _ _ rfl) bz) ?_;obtain⟨W,aO,bB⟩:=bs bA;obtain⟨_,⟨_,_,rfl,rfl,⟨_,_,rfl,rfl,⟨aw,ay,rfl,bC⟩⟩⟩,bD⟩:=WL.at (O.Ai ag) aO;refine Cq 8 O.2 aO underlying130 AP ?_;refine Eg 9 [iV W.1,iV W.2.1,sV aw W.2.2 ay] 0 ao bD Ch AP ?_;refine Bn 10 rfl rfl (Bn 11 rfl rfl ?_);obtain⟨Z,ap,bE⟩:=bs bB;obtain⟨_,⟨_,_,rfl,rfl,⟨_,_,rfl,rfl,⟨az,aA,rfl,bF⟩⟩⟩,bG⟩:=WL.at (O.Ai ag) ap;refine Cq 12 O.2 ap underlying130 AP ?_;refine Eg 13 [iV Z.1,iV Z.2.1,sV az Z.2.2 aA] 0 ao bG Ch AP ?_;refine Cq 14 O.2 ap underlying130 AP ?_;have al:=WL.put (x':=W) (ws':= [iV W.1,iV W.2.1,sV aw W.2.2 ay]) (O.Ai ag) O.2 ap ⟨_,_,rfl,rfl,⟨_,_,rfl,rfl,⟨_,_,rfl,bC⟩⟩⟩;refine Ef 15 0 ao AP al.2 fun bH=>?_;obtain⟨b8,aB,bI⟩:=bs bE;obtain⟨_,⟨_,_,rfl,rfl,⟨_,_,rfl,rfl,⟨b9,ca,rfl,cb⟩⟩⟩,cc⟩:=WL.at al.1 aB;refine Cq 16 (al.1).2 aB underlying130 AP ?_;have aP:=WL.put (x':=Z) (ws':= [iV Z.1,iV Z.2.1,sV az Z.2.2 aA]) al.1 (al.1).2 aB ⟨_,_,rfl,rfl,⟨_,_,rfl,rfl,⟨_,_,rfl,bF⟩⟩⟩;refine Ef 17 0 bH AP aP.2 fun bJ=>?_;refine JB.fin (by decide+kernel) ?_;obtain⟨bK,bL,bM⟩:=bs bI;refine zg 3 rfl (B7 bL rfl rfl rfl ?_);refine zg 2 rfl ?_;obtain rfl:=oi bM;exact Ay (bo _ _ (bK,((aa.2.set (Int.toNat aa.1) W).set (Int.toNat aN) Z)) ⟨an,(Be (Be f58 (Int.toNat (aa.1)*3) [iV W.1,iV W.2.1,sV aw W.2.2 ay]) (Int.toNat (aN)*3) [iV Z.1,iV Z.2.1,sV az Z.2.2 aA]),rfl,rfl,(aK.Ac ag),bJ,aP.1⟩ av) rfl
     ·refine JL.exit rfl ?_;obtain rfl:=oi bv;obtain rfl:=bn _ av;exact Ay (bm _ _ ⟨an,f58,rfl,rfl,(aK.Ac ag),ao,(O.Ai ag)⟩) rfl
    ·intro aQ;refine FT (q:=p1<aa.1) (i:=21) rfl (fun aC=>?_) (fun aC=>?_)
     ·have bN:=ip aM aC;refine Bi ht rfl [4,5,6] rfl ?_;obtain⟨ah,aR,bO⟩:=bs bN;obtain⟨_,⟨_,_,rfl,rfl,⟨_,_,rfl,rfl,⟨aS,aT,rfl,bP⟩⟩⟩,bQ⟩:=WL.at O aR;refine F0 7 ht (O).2 aR underlying130 AP ?_;refine D2 8 ht [iV ah.1,iV ah.2.1,sV aS ah.2.2 aT] 0 ak bQ Ch AP ?_;refine Bi ht rfl [9,10] rfl ?_;obtain⟨cd,bR,bS⟩:=bs bO;refine BC 11 ht rfl rfl (fun ρ h s' hs=>C8 (h _ _ rfl) (h _ _ rfl) bR) ?_;obtain⟨ai,aU,bT⟩:=bs bS;obtain⟨_,⟨_,_,rfl,rfl,⟨_,_,rfl,rfl,⟨aV,aW,rfl,bU⟩⟩⟩,bV⟩:=WL.at O aU;refine F0 12 ht (O).2 aU underlying130 AP ?_;refine D2 13 ht [iV ai.1,iV ai.2.1,sV aV ai.2.2 aW] 0 ak bV Ch AP ?_;obtain⟨ce,bW,bY⟩:=bs bT;refine Hz (i:=14) ⟨⟨0,_,rfl⟩,trivial⟩ (vs:= [.agg #[iV ah.1,iV ah.2.1,sV aS ah.2.2 aT],.agg #[iV ai.1,iV ai.2.1,sV aV ai.2.2 aW]]) (GW bP bU bW) (by decide+kernel) rfl rfl rfl rfl GL rfl ak ?_;rintro _ bZ _ b0 ⟨rfl,rfl⟩ b1;refine Bi ht rfl [15,16] rfl ?_;obtain rfl:=oi bY;refine DD ?_ (aQ _ _ ⟨bZ,rfl,rfl,b0,b1⟩);exact⟨rfl,rfl,rfl,rfl,rfl,rfl,rfl,trivial⟩
     ·have b2:=im aM aC;refine Bi ht rfl [4,5,6,7,8,9,10,11,12,13,14,15,16] rfl ?_;obtain rfl:=oi b2;refine DD ?_ (aQ _ _ ⟨aj,rfl,rfl,Aq,ak⟩);exact⟨rfl,rfl,rfl,rfl,rfl,rfl,rfl,trivial⟩
  ·refine JL.exit rfl ?_;obtain rfl:=oi bc;obtain rfl:=a8 _ au;exact Ay (a7 _ _ ⟨ab,f25,rfl,rfl,aF,aG,aH⟩) rfl
def f200(fuel:Nat)(p0:List Bo)(p1:Int)(p2:Int)(p3:Int):Option (Int×Int×Int):= (ix p0 p2).bind fun K=> (ix p0 p1).bind fun O=> (f134 fuel K O).bind fun U=> if U<0 then((Au (p3+1)).bind fun V=> some (p2,p1,V)) else(some (p1,p2,p3))
theorem OR{K:Nat}{aa:Nat}{ab:Nat}{W:Ax}{bk:Nat}{p0:List (Bo)}{p1:Int}{p2:Int}{p3:Int}(hW:WL 133 Cn E K aa ab W p0){fuel:Nat}{r:Int×Int×Int}(ae:f200 fuel p0 p1 p2 p3=some r):AQ J 200 [.slice (Bh K) ab aa,iV p1,iV p2,pV bk 0,(fV 134)] E ([(bk,.cells #[iV p3] 3 (0,0))]++ [(K,.cells W 133 (0,0))]) (fun w E' B'=>w= .tuple #[iV r.1,iV r.2.1]∧B'= [(bk,.cells #[iV r.2.2] 3 (0,0))]++ [(K,.cells W 133 (0,0))]):=by
 refine Bc func200 fun Q aE cs H O ag=>?_;unfold f200 at ae;refine DC (S':= [[(bk,.cells #[iV p3] 3 (0,0))],[(K,.cells W 133 (0,0))]]) (by simp) O fun O=>zg 7 rfl (Dv 9 [K] ⟨⟨1,_,rfl⟩,trivial⟩ O fun ht=>?_);refine Bi ht rfl [0,1,2] rfl ?_;obtain⟨U,ah,an⟩:=bs ae;obtain⟨_,⟨_,_,rfl,rfl,⟨_,_,rfl,rfl,⟨ai,c4,rfl,ao⟩⟩⟩,ap⟩:=WL.at hW ah;refine F0 3 ht (hW).2 ah underlying130 AP ?_;refine D2 4 ht [iV U.1,iV U.2.1,sV ai U.2.2 c4] 1 O ap Ch AP ?_;refine Bi ht rfl [5,6] rfl ?_;obtain⟨V,aj,aq⟩:=bs an;obtain⟨_,⟨_,_,rfl,rfl,⟨_,_,rfl,rfl,⟨ak,al,rfl,ar⟩⟩⟩,au⟩:=WL.at hW aj;refine F0 7 ht (hW).2 aj underlying130 AP ?_;refine D2 8 ht [iV V.1,iV V.2.1,sV ak V.2.2 al] 1 O au Ch AP ?_;refine Co [9,10] ?_;obtain⟨aF,av,aw⟩:=bs aq;refine Kh (vs:= [.agg #[iV U.1,iV U.2.1,sV ai U.2.2 c4],.agg #[iV V.1,iV V.2.1,sV ak V.2.2 al]]) (GW ao ar av) rfl rfl rfl rfl GL rfl O ?_;rintro _ aG _ am ⟨rfl,rfl⟩ Z;refine zg 2 rfl (AK aw (fun ay az=>?_) (fun ay aA=>?_))
 ·refine zg 4 rfl (AA (v:=iV p3) rfl (fun ρ h=>Yl.load Bx (h _ _ rfl) (D5 (j:=0) (off:=0) Z rfl rfl)) ?_);obtain⟨aH,aB,aC⟩:=bs az;refine Ba aB rfl rfl rfl (zg 1 rfl ?_);refine BQ 0 Z AW fun aD=>?_;refine zg 8 rfl ?_;obtain rfl:=oi aC;exact AF func200 rfl rfl (ag am rfl ⟨rfl,(by first | rfl | simp | (simp [Value.cells]))⟩ aD)
 ·refine zg 8 rfl ?_;obtain rfl:=oi aA;exact AF func200 rfl rfl (ag am rfl ⟨rfl,(by first | rfl | simp | (simp [Value.cells]))⟩ Z)
def f197(fuel:Nat)(p0:List Bo)(p1:Int)(p2:Int)(p3:Int)(p4:Int):Option (Int×Int):= (f200 fuel p0 p1 p2 p4).bind fun K=> (f200 fuel p0 K.2.1 p3 K.2.2).bind fun O=> (f200 fuel p0 K.1 O.1 O.2.2).bind fun U=> some U.2
theorem Yc{K:Nat}{W:Nat}{Z:Nat}{O:Ax}{bk:Nat}{p0:List (Bo)}{p1:Int}{p2:Int}{p3:Int}{p4:Int}(hW:WL 133 Cn E K W Z O p0){fuel:Nat}{r:Int×Int}(aa:f197 fuel p0 p1 p2 p3 p4=some r):AQ J 197 [.slice (Bh K) Z W,iV p1,iV p2,iV p3,pV bk 0,(fV 134)] E ([(bk,.cells #[iV p4] 3 (0,0))]++ [(K,.cells O 133 (0,0))]) (fun w E' B'=>w=iV r.1∧B'= [(bk,.cells #[iV r.2] 3 (0,0))]++ [(K,.cells O 133 (0,0))]):=by
 refine Bc func197 fun Q aG cs H U ag=>?_;unfold f197 at aa;refine DC (S':= [[(bk,.cells #[iV p4] 3 (0,0))],[(K,.cells O 133 (0,0))]]) (by simp) U fun U=>?_;obtain⟨ah,ai,aj⟩:=bs aa;refine zg 11 rfl (Kl 0 1 rfl rfl U fun ak=>?_);refine BY 0 (OR hW ai) rfl rfl Ny ak rfl ?_;rintro _ aH _ V ⟨rfl,rfl⟩ al;refine Fg 0 rfl al fun am=>CB (S':= [[(bk,.cells #[iV ah.2.2] 3 (0,0))],[],[(K,.cells O 133 (0,0))]]) rfl am fun an=>?_;obtain⟨ao,ap,aq⟩:=bs aj;refine zg 13 rfl (Kl 0 2 rfl rfl an fun ar=>?_);refine BY 0 (OR (hW.Ai V) ap) rfl rfl Ny ar rfl ?_;rintro _ aI _ ab ⟨rfl,rfl⟩ au;refine Fg 0 rfl au fun av=>CB (S':= [[(bk,.cells #[iV ao.2.2] 3 (0,0))],[],[],[(K,.cells O 133 (0,0))]]) rfl av fun aw=>?_;obtain⟨ae,ay,az⟩:=bs aq;refine zg 13 rfl (Kl 0 3 rfl rfl aw fun aA=>?_);refine BY 0 (OR (hW.Ai (V.Ac ab)) ay) rfl rfl Ny aA rfl ?_;rintro _ aJ _ aB ⟨rfl,rfl⟩ aC;refine Fg 0 rfl aC fun aD=>CB (S':= [[(bk,.cells #[iV ae.2.2] 3 (0,0))],[],[],[],[(K,.cells O 133 (0,0))]]) rfl aD fun aE=>zg 11 rfl (CB (S':= [[(bk,.cells #[iV ae.2.2] 3 (0,0))],[],[],[],[(K,.cells O 133 (0,0))]]) rfl aE fun aF=>?_);obtain rfl:=oi az;exact AF func197 rfl rfl (ag ((V.Ac ab).Ac aB) rfl ⟨rfl,(by first | rfl | simp | (simp [Value.cells]))⟩ aF)
def f181(fuel:Nat)(p0:List Bo)(p1:Int)(p2:Int):Option (Int×Int):= (Au (p2 - p1)).bind fun K=> (Ho K (4)).bind fun V=> (Au (V*1)).bind fun W=> (Au (p1+W)).bind fun Z=> (Ho K (4)).bind fun aa=> (Au (aa*2)).bind fun ab=> (Au (p1+ab)).bind fun U=> (Ho K (4)).bind fun ae=> (Au (ae*3)).bind fun ag=> (Au (p1+ag)).bind fun ah=> Option.bind (if 8≤K then(Option.bind (if 50≤K then(none) else(some ())) fun aj=> (f197 fuel p0 Z U ah 0).bind fun ai=> some ai) else(some (U,0))) fun O=> if O.2=0 then(some (O.1,1)) else(if O.2=12 then(some (O.1,2)) else(some (O.1,0)))
theorem Sl{K:Nat}{W:Nat}{Z:Nat}{O:Ax}{p0:List (Bo)}{p1:Int}{p2:Int}(hW:WL 133 Cn E K W Z O p0){fuel:Nat}{r:Int×Int}(ag:f181 fuel p0 p1 p2=some r):AQ J 181 [.slice (Bh K) Z W,iV p1,iV p2,(fV 134)] E [(K,.cells O 133 (0,0))] (fun w E' B'=>w= .tuple #[iV r.1,iV r.2]∧B'= [(K,.cells O 133 (0,0))]):=by
 refine Bc func181 fun Q bi cs H ak aa=>?_;unfold f181 at ag;obtain⟨bj,al,am⟩:=bs ag;refine zg 9 rfl (B7 al rfl rfl rfl ?_);refine zg 4 rfl (CO ak Cz fun U ah=>?_);obtain⟨an,ao,ap⟩:=bs am;refine zg 5 rfl (AA (v:=iV an) rfl (fun ρ h=>Ks (h _ _ rfl) (h _ _ rfl) ao) ?_);obtain⟨bl,aq,ar⟩:=bs ap;refine AA rfl (fun ρ h=>II (h _ _ rfl) (h _ _ rfl) aq) ?_;obtain⟨au,av,aw⟩:=bs ar;refine Ba av rfl rfl rfl ?_;obtain⟨ay,az,aA⟩:=bs aw;refine zg 6 rfl (AA (v:=iV ay) rfl (fun ρ h=>Ks (h _ _ rfl) (h _ _ rfl) az) ?_);obtain⟨bm,aB,aC⟩:=bs aA;refine AA rfl (fun ρ h=>II (h _ _ rfl) (h _ _ rfl) aB) ?_;obtain⟨aD,aE,aF⟩:=bs aC;refine Ba aE rfl rfl rfl ?_;obtain⟨aG,aH,aI⟩:=bs aF;refine zg 6 rfl (AA (v:=iV aG) rfl (fun ρ h=>Ks (h _ _ rfl) (h _ _ rfl) aH) ?_);obtain⟨bn,aJ,aK⟩:=bs aI;refine AA rfl (fun ρ h=>II (h _ _ rfl) (h _ _ rfl) aJ) ?_;obtain⟨aL,aM,aN⟩:=bs aK;refine Ba aM rfl rfl rfl ?_;obtain⟨ab,aO,aP⟩:=bs aN;refine zg 8 rfl (Cu [bX K O 133,bX U #[iV ab.2] 3] [(11,pV U 0),(13,iV ab.1)] (fun bo ae V=>?_) (fun ai=>?_))
 ·refine zg 2 rfl (AA (v:=iV ab.2) rfl (fun ρ h=>Yl.load Bx (h _ _ rfl) (D5 (j:=1) (off:=0) V rfl rfl)) ?_);refine zg 7 rfl (AK aP (fun aQ aR=>?_) (fun aQ aS=>?_))
  ·refine zg 6 rfl (JS.drop 1 V rfl fun aT=>?_);obtain rfl:=oi aR;exact AF func181 rfl rfl (aa ae rfl ⟨rfl,(by first | rfl | simp | (simp [Value.cells]))⟩ aT)
  ·refine zg 5 rfl (AK aS (fun aU aV=>?_) (fun aU aW=>?_))
   ·refine zg 6 rfl (JS.drop 1 V rfl fun aX=>?_);obtain rfl:=oi aV;exact AF func181 rfl rfl (aa ae rfl ⟨rfl,(by first | rfl | simp | (simp [Value.cells]))⟩ aX)
   ·refine zg 6 rfl (JS.drop 1 V rfl fun aY=>?_);obtain rfl:=oi aW;exact AF func181 rfl rfl (aa ae rfl ⟨rfl,(by first | rfl | simp | (simp [Value.cells]))⟩ aY)
 ·refine AK aO (fun aZ a0=>?_) (fun aZ a1=>?_)
  ·obtain⟨bp,a2,a3⟩:=bs a0;refine zg 6 rfl (Cu [bX K O 133,bX U #[iV 0] 3] [(0,.slice (Bh K) Z W),(3,(fV 134)),(8,iV 0),(9,iV 0),(11,pV U 0),(12,iV au),(13,iV aD),(14,iV aL)] (fun bq aj a4=>?_) (fun a5=>?_))
   ·obtain⟨a6,a7,a8⟩:=bs a3;refine zg 6 rfl (Kl 1 0 rfl rfl a4 fun a9=>?_);refine BY 1 (Yc (hW.Ai aj) a7) rfl rfl (A2 func197 rfl) a9 rfl ?_;rintro _ br _ ba ⟨rfl,rfl⟩ bb;refine Fg 1 rfl bb fun bc=>CB (S':= [[],[(U,.cells #[iV a6.2] 3 (0,0))],[(K,.cells O 133 (0,0))]]) rfl bc fun bd=>zg 2 rfl (JS.swap 1 2 rfl rfl rfl bd fun be=>?_);obtain rfl:=oi a8;exact ai (aj.Ac ba) be rfl
   ·refine AK a2 (fun bf bg=>?_) (fun bf bh=>?_)
    ·refine zg 5 rfl ?_;cases bg
    ·refine JL.skip ?_;obtain rfl:=oi bh;exact a5 Aq ah rfl
  ·refine JL.skip ?_;obtain rfl:=oi a1;exact ai Aq ah rfl
end Pal
namespace Pal
open Go Go.Conc Go.Proofs
open Go.Proofs.Tryz
variable {J:Judge Tryz.prog}{E:LH}
def HE(fuel:Nat)(K:Int×Int×(List Bo)):Option (Bl (Int×Int×(List Bo)) ((List Bo))):= if K.1<K.2.1 then((ix K.2.2 K.2.1).bind fun O=> (ix K.2.2 K.1).bind fun U=> (Au (K.1+1)).bind fun V=> (Au (K.2.1 - 1)).bind fun W=> some (.more (V,W,((K.2.2.set (Int.toNat K.1) O).set (Int.toNat K.2.1) U)))) else(some (.done K.2.2))
def f182(fuel:Nat)(p0:List Bo)(p1:Int)(p2:Int):Option ((List Bo)):= (Au (p2 - 1)).bind fun K=> Option.bind (iter (HE fuel) fuel (p1,K,p0)) fun O=> some O
theorem RO{K:Nat}{Z:Nat}{aa:Nat}{ai:Ax}{p0:List (Bo)}{p1:Int}{p2:Int}(hW:WL 133 Cn E K Z aa ai p0){fuel:Nat}{r:(List Bo)}(ap:f182 fuel p0 p1 p2=some r):AQ J 182 [.slice (Bh K) aa Z,iV p1,iV p2,(fV 134)] E [(K,.cells ai 133 (0,0))] (fun w E' B'=>∃(aq:Ax),w= .tuple #[]∧B'= [(K,.cells aq 133 (0,0))]∧WL 133 Cn E' K Z aa aq r):=by
 refine Bc func182 fun Q a2 cs H ay az=>?_;unfold f182 at ap;obtain⟨a3,aA,aB⟩:=bs ap;refine zg 8 rfl (B7 aA rfl rfl rfl ?_);obtain⟨aC,aD,aE⟩:=bs aB;refine zg 2 rfl (Bs (fun L s=>∃(aj:LH) (f17:Ax),Jn E H aj [bX K f17 133] [] L s (WL 133 Cn aj K Z aa f17 aC)) ?_ ?_)
 ·rintro _ _ ⟨aj,f17,rfl,rfl,aF,aG,aH⟩;obtain rfl:=oi aE;exact JL.fin (v:= .tuple #[]) rfl rfl (B9.list func182 rfl (vs:= []) trivial) (az aF rfl ⟨f17,rfl,(by first | rfl | simp | (simp [Value.cells])),aH⟩ aG)
 ·intro aI;refine JL.block (CG aD (fun L s W=>∃(ab:LH) (f25:Ax),Jn E H ab [bX K f25 133] [(0,.slice (Bh K) aa Z),(8,iV W.1),(9,iV W.2.1)] L s (WL 133 Cn ab K Z aa f25 W.2.2)) ⟨E,ai,rfl,rfl,Aq,ay,hW⟩ ?_);rintro _ _ W ⟨ab,f25,rfl,rfl,ar,ae,V⟩ aJ ⟨a4,ak⟩ aK;have au:=ak;unfold HE at au;refine zg 7 rfl (AK au (fun aL aM=>?_) (fun aL aN=>?_))
  ·refine zg 3 rfl (GR [13,15] [K] mixed rfl ?_);refine Bn 0 rfl rfl (Bn 1 rfl rfl ?_);refine Bn 2 rfl rfl (Bn 3 rfl rfl ?_);refine Bn 4 rfl rfl (Bn 5 rfl rfl ?_);obtain⟨O,ag,aO⟩:=bs aM;obtain⟨_,⟨_,_,rfl,rfl,⟨_,_,rfl,rfl,⟨al,am,rfl,aP⟩⟩⟩,aQ⟩:=WL.at V ag;refine Cq 6 V.2 ag underlying130 AP ?_;refine Eg 7 [iV O.1,iV O.2.1,sV al O.2.2 am] 0 ae aQ Ch AP ?_;refine Bn 8 rfl rfl (Bn 9 rfl rfl ?_);obtain⟨U,ah,aR⟩:=bs aO;obtain⟨_,⟨_,_,rfl,rfl,⟨_,_,rfl,rfl,⟨an,ao,rfl,aS⟩⟩⟩,aT⟩:=WL.at V ah;refine Cq 10 V.2 ah underlying130 AP ?_;refine Eg 11 [iV U.1,iV U.2.1,sV an U.2.2 ao] 0 ae aT Ch AP ?_;refine Cq 12 V.2 ah underlying130 AP ?_;have av:=WL.put (x':=O) (ws':= [iV O.1,iV O.2.1,sV al O.2.2 am]) V V.2 ah ⟨_,_,rfl,rfl,⟨_,_,rfl,rfl,⟨_,_,rfl,aP⟩⟩⟩;refine Ef 13 0 ae AP av.2 fun aU=>?_;refine Cq 14 V.2 ag underlying130 AP ?_;have aw:=WL.put (x':=U) (ws':= [iV U.1,iV U.2.1,sV an U.2.2 ao]) av.1 V.2 ag ⟨_,_,rfl,rfl,⟨_,_,rfl,rfl,⟨_,_,rfl,aS⟩⟩⟩;refine Ef 15 0 aU AP aw.2 fun aV=>?_;refine JB.fin (by decide+kernel) ?_;obtain⟨aW,aX,aY⟩:=bs aR;refine zg 3 rfl (Ba aX rfl rfl rfl ?_);obtain⟨aZ,a0,a1⟩:=bs aY;refine zg 4 rfl (B7 a0 rfl rfl rfl ?_);refine zg 3 rfl ?_;obtain rfl:=oi a1;exact Ay (aK _ _ (aW,aZ,((W.2.2.set (Int.toNat W.1) O).set (Int.toNat W.2.1) U)) ⟨ab,(Be (Be f25 (Int.toNat (W.1)*3) [iV O.1,iV O.2.1,sV al O.2.2 am]) (Int.toNat (W.2.1)*3) [iV U.1,iV U.2.1,sV an U.2.2 ao]),rfl,rfl,ar,aV,aw.1⟩ ak) rfl
  ·refine JL.exit rfl ?_;obtain rfl:=oi aN;obtain rfl:=aJ _ ak;exact Ay (aI _ _ ⟨ab,f25,rfl,rfl,ar,ae,V⟩) rfl
def IH(fuel:Nat)(p2:Int)(O:Int×Int×(List Bo))(K:Int):Option (Bl Int Int):= Option.bind (if K<p2 then((ix O.2.2 K).bind fun U=> (Au (K - 1)).bind fun V=> (ix O.2.2 V).bind fun W=> (f134 fuel U W).bind fun Z=> some (decide (¬(Z<0)))) else(some false)) fun aa=> if aa=true then((Au (K+1)).bind fun ab=> some (.more ab)) else(some (.done K))
def Rf(fuel:Nat)(K:Int×(List Bo)):Option (Bl (Int×(List Bo)) ((List Bo))):= if 1≤K.1 then((ix K.2 K.1).bind fun O=> (Au (K.1 - 1)).bind fun W=> (ix K.2 W).bind fun Z=> (f134 fuel O Z).bind fun aa=> if ¬(aa<0) then(some (.done K.2)) else((Au (K.1 - 1)).bind fun U=> (Au (K.1 - 1)).bind fun ab=> (ix K.2 ab).bind fun V=> (ix (K.2.set (Int.toNat K.1) V) U).bind fun ag=> (Au (K.1 - 1)).bind fun ae=> some (.more (ae,((K.2.set (Int.toNat K.1) V).set (Int.toNat U) O))))) else(some (.done K.2))
def Rx(fuel:Nat)(p2:Int)(K:Int×(List Bo)):Option (Bl (Int×(List Bo)) ((List Bo))):= if K.1<p2 then((ix K.2 K.1).bind fun O=> (Au (K.1 - 1)).bind fun W=> (ix K.2 W).bind fun Z=> (f134 fuel O Z).bind fun aa=> if ¬(aa<0) then(some (.done K.2)) else((Au (K.1 - 1)).bind fun U=> (Au (K.1 - 1)).bind fun ab=> (ix K.2 ab).bind fun V=> (ix (K.2.set (Int.toNat K.1) V) U).bind fun ag=> (Au (K.1+1)).bind fun ae=> some (.more (ae,((K.2.set (Int.toNat K.1) V).set (Int.toNat U) O))))) else(some (.done K.2))
def Mi(fuel:Nat)(p1:Int)(p2:Int)(K:Int×Int×(List Bo)):Option (Bl (Int×Int×(List Bo)) ((Bool×(List Bo))⊕((List Bo)))):= if K.2.1<5 then(Option.bind (iter (IH fuel p2 K) fuel K.1) fun O=> if O=p2 then(some (.done (Sum.inl (true,K.2.2)))) else((Au (p2 - p1)).bind fun aa=> if aa<50 then(some (.done (Sum.inl (false,K.2.2)))) else((Au (O - 1)).bind fun U=> (Au (O - 1)).bind fun ab=> (ix K.2.2 ab).bind fun V=> (ix K.2.2 O).bind fun W=> (ix (K.2.2.set (Int.toNat O) V) U).bind fun an=> (Au (O - p1)).bind fun ae=> Option.bind (if 2≤ae then((Au (O - 1)).bind fun ag=> Option.bind (iter (Rf fuel) fuel (ag,((K.2.2.set (Int.toNat O) V).set (Int.toNat U) W))) fun ah=> some ah) else(some ((K.2.2.set (Int.toNat O) V).set (Int.toNat U) W))) fun Z=> (Au (p2 - O)).bind fun ai=> Option.bind (if 2≤ai then((Au (O+1)).bind fun aj=> Option.bind (iter (Rx fuel p2) fuel (aj,Z)) fun ak=> some ak) else(some Z)) fun al=> (Au (K.2.1+1)).bind fun am=> some (.more (O,am,al))))) else(some (.done (Sum.inr K.2.2)))
def f183(fuel:Nat)(p0:List Bo)(p1:Int)(p2:Int):Option (Bool×(List Bo)):= (Au (p1+1)).bind fun K=> Option.bind (iter (Mi fuel p1 p2) fuel (K,0,p0)) fun O=> Sum.elim (fun r=>some r) (fun U=> some (false,U)) O
theorem RZ{K:Nat}{O:Nat}{U:Nat}{a5:Ax}{p0:List (Bo)}{p1:Int}{p2:Int}(hW:WL 133 Cn E K O U a5 p0){fuel:Nat}{r:Bool×(List Bo)}(bo:f183 fuel p0 p1 p2=some r):AQ J 183 [.slice (Bh K) U O,iV p1,iV p2,(fV 134)] E [(K,.cells a5 133 (0,0))] (fun w E' B'=>∃(bp:Ax),w= .bool r.1∧B'= [(K,.cells bp 133 (0,0))]∧WL 133 Cn E' K O U bp r.2):=by
 refine Bc func183 fun Q fe cs H cg a6=>?_;unfold f183 at bo;obtain⟨ff,ci,ck⟩:=bs bo;refine zg 7 rfl (Ba ci rfl rfl rfl ?_);obtain⟨bq,cm,a7⟩:=bs ck;refine zg 7 rfl (Bs (fun L s=>∃(a8:(List Bo)) (a9:LH) (f18:Ax),bq=Sum.inr a8∧Jn E H a9 [bX K f18 133] [] L s (WL 133 Cn a9 K O U f18 a8)) ?_ ?_)
 ·rintro _ _ ⟨a8,a9,f18,rfl,rfl,rfl,cn,co,cp⟩;have cq:=elim_inr a7;refine zg 4 rfl ?_;obtain rfl:=oi cq;exact AF func183 rfl rfl (a6 cn rfl ⟨f18,rfl,(by first | rfl | simp | (simp [Value.cells])),cp⟩ co)
 ·intro cr;refine JL.block (CG cm (fun L s Z=>∃(aP:LH) (f27:Ax),Jn E H aP [bX K f27 133] [(0,.slice (Bh K) U O),(1,iV p1),(2,iV p2),(3,(fV 134)),(9,iV Z.1),(10,iV Z.2.1)] L s (WL 133 Cn aP K O U f27 Z.2.2)) ⟨E,a5,rfl,rfl,Aq,cg,hW⟩ ?_);rintro _ _ Z ⟨aP,f27,rfl,rfl,aQ,br,aa⟩ ba ⟨fg,az⟩ ct;have bu:=az;unfold Mi at bu;refine zg 6 rfl (AK bu (fun cu cv=>?_) (fun cu cw=>?_))
  ·obtain⟨ak,cy,cz⟩:=bs cv;refine zg 4 rfl (Cu [bX K f27 133] [(0,.slice (Bh K) U O),(1,iV p1),(2,iV p2),(3,(fV 134)),(9,iV ak),(10,iV Z.2.1)] (fun aA al aB=>?_) (fun cA=>?_))
   ·refine zg 7 rfl (AK cz (fun cB cC=>?_) (fun cB cD=>?_))
    ·refine zg 4 rfl ?_;obtain rfl:=oi cC;obtain rfl:=ba _ az;have cE:=elim_inl a7;obtain rfl:=oi cE;exact AF func183 rfl rfl (a6 (aQ.Ac al) rfl ⟨f27,rfl,(by first | rfl | simp | (simp [Value.cells])),(aa.Ai al)⟩ aB)
    ·obtain⟨fh,cF,cG⟩:=bs cD;refine zg 6 rfl (B7 cF rfl rfl rfl ?_);refine zg 2 rfl (AK cG (fun cH cI=>?_) (fun cH cJ=>?_))
     ·refine zg 4 rfl ?_;obtain rfl:=oi cI;obtain rfl:=ba _ az;have cK:=elim_inl a7;obtain rfl:=oi cK;exact AF func183 rfl rfl (a6 (aQ.Ac al) rfl ⟨f27,rfl,(by first | rfl | simp | (simp [Value.cells])),(aa.Ai al)⟩ aB)
     ·refine zg 2 rfl (GR [15,17] [K] mixed rfl ?_);refine Bn 0 rfl rfl (Bn 1 rfl rfl ?_);refine Bn 2 rfl rfl (Bn 3 rfl rfl ?_);obtain⟨bv,cM,cN⟩:=bs cJ;refine GC 4 true rfl rfl (fun ρ h s' hs=>C8 (h _ _ rfl) (h _ _ rfl) cM) (Bn 5 rfl rfl ?_);refine Bn 6 rfl rfl ?_;obtain⟨fj,cO,cP⟩:=bs cN;refine GC 7 true rfl rfl (fun ρ h s' hs=>C8 (h _ _ rfl) (h _ _ rfl) cO) ?_;obtain⟨ab,bw,cQ⟩:=bs cP;obtain⟨_,⟨_,_,rfl,rfl,⟨_,_,rfl,rfl,⟨aR,aS,rfl,cR⟩⟩⟩,cT⟩:=WL.at (aa.Ai al) bw;refine Cq 8 aa.2 bw underlying130 AP ?_;refine Eg 9 [iV ab.1,iV ab.2.1,sV aR ab.2.2 aS] 0 aB cT Ch AP ?_;refine Bn 10 rfl rfl (Bn 11 rfl rfl ?_);obtain⟨ae,aT,cV⟩:=bs cQ;obtain⟨_,⟨_,_,rfl,rfl,⟨_,_,rfl,rfl,⟨aU,aV,rfl,cW⟩⟩⟩,cX⟩:=WL.at (aa.Ai al) aT;refine Cq 12 aa.2 aT underlying130 AP ?_;refine Eg 13 [iV ae.1,iV ae.2.1,sV aU ae.2.2 aV] 0 aB cX Ch AP ?_;refine Cq 14 aa.2 aT underlying130 AP ?_;have aC:=WL.put (x':=ab) (ws':= [iV ab.1,iV ab.2.1,sV aR ab.2.2 aS]) (aa.Ai al) aa.2 aT ⟨_,_,rfl,rfl,⟨_,_,rfl,rfl,⟨_,_,rfl,cR⟩⟩⟩;refine Ef 15 0 aB AP aC.2 fun cY=>?_;obtain⟨fk,bb,cZ⟩:=bs cV;obtain⟨_,⟨_,_,rfl,rfl,⟨_,_,rfl,rfl,⟨fm,fo,rfl,fp⟩⟩⟩,fq⟩:=WL.at aC.1 bb;refine Cq 16 (aC.1).2 bb underlying130 AP ?_;have bc:=WL.put (x':=ae) (ws':= [iV ae.1,iV ae.2.1,sV aU ae.2.2 aV]) aC.1 (aC.1).2 bb ⟨_,_,rfl,rfl,⟨_,_,rfl,rfl,⟨_,_,rfl,cW⟩⟩⟩;refine Ef 17 0 cY AP bc.2 fun bx=>?_;refine JB.fin (by decide+kernel) ?_;obtain⟨fs,c0,c1⟩:=bs cZ;refine zg 5 rfl (B7 c0 rfl rfl rfl ?_);obtain⟨c2,c3,c4⟩:=bs c1;refine zg 2 rfl (Bs (fun L s=>∃(am:LH) (f99:Ax),Jn aA H am [bX K f99 133] [(0,.slice (Bh K) U O),(1,iV p1),(2,iV p2),(3,(fV 134)),(9,iV ak),(10,iV Z.2.1)] L s (WL 133 Cn am K O U f99 c2)) ?_ ?_)
      ·rintro _ _ ⟨am,f99,rfl,rfl,c5,bz,bA⟩;obtain⟨fu,c6,c7⟩:=bs c4;refine zg 4 rfl (B7 c6 rfl rfl rfl ?_);obtain⟨bB,c8,c9⟩:=bs c7;refine zg 2 rfl (Bs (fun L s=>∃(aW:LH) (f109:Ax),Jn am H aW [bX K f109 133] [(0,.slice (Bh K) U O),(1,iV p1),(2,iV p2),(3,(fV 134)),(9,iV ak),(10,iV Z.2.1)] L s (WL 133 Cn aW K O U f109 bB)) ?_ ?_)
       ·rintro _ _ ⟨aW,f109,rfl,rfl,da,db,dc⟩;obtain⟨dd,de,df⟩:=bs c9;refine zg 3 rfl (Ba de rfl rfl rfl ?_);refine zg 2 rfl ?_;obtain rfl:=oi df;exact Ay (ct _ _ (ak,dd,bB) ⟨aW,f109,rfl,rfl,(((aQ.Ac al).Ac c5).Ac da),db,dc⟩ az) rfl
       ·intro bC;refine AK c8 (fun dg dh=>?_) (fun dg di=>?_)
        ·obtain⟨fv,dj,dk⟩:=bs dh;refine zg 3 rfl (Ba dj rfl rfl rfl ?_);obtain⟨dl,dm,dn⟩:=bs dk;refine zg 2 rfl (Bs (fun L s=>∃(aX:LH) (f134:Ax),Jn am H aX [bX K f134 133] [(0,.slice (Bh K) U O),(1,iV p1),(2,iV p2),(3,(fV 134)),(9,iV ak),(10,iV Z.2.1)] L s (WL 133 Cn aX K O U f134 dl)) ?_ ?_)
         ·rintro _ _ ⟨aX,f134,rfl,rfl,dp,dq,dr⟩;obtain rfl:=oi dn;exact Ay (bC _ _ ⟨aX,f134,rfl,rfl,dp,dq,dr⟩) rfl
         ·intro bD;refine JL.block (CG dm (fun L s an=>∃(aY:LH) (f142:Ax),Jn am H aY [bX K f142 133] [(0,.slice (Bh K) U O),(1,iV p1),(2,iV p2),(3,(fV 134)),(9,iV ak),(10,iV Z.2.1),(12,iV an.1)] L s (WL 133 Cn aY K O U f142 an.2)) ⟨am,f99,rfl,rfl,Aq,bz,bA⟩ ?_);rintro _ _ an ⟨aY,f142,rfl,rfl,bd,aD,ag⟩ bE ⟨fw,aZ⟩ dt;have bF:=aZ;unfold Rx at bF;refine zg 7 rfl (AK bF (fun du dv=>?_) (fun du dw=>?_))
          ·refine zg 5 rfl (Dv 10 [K] ⟨⟨0,_,rfl⟩,trivial⟩ aD fun ht=>?_);refine Bi ht rfl [0,1,2] rfl ?_;obtain⟨V,aE,dx⟩:=bs dv;obtain⟨_,⟨_,_,rfl,rfl,⟨_,_,rfl,rfl,⟨aF,aG,rfl,bG⟩⟩⟩,bH⟩:=WL.at ag aE;refine F0 3 ht (ag).2 aE underlying130 AP ?_;refine D2 4 ht [iV V.1,iV V.2.1,sV aF V.2.2 aG] 0 aD bH Ch AP ?_;refine Bi ht rfl [5,6] rfl ?_;obtain⟨fx,dy,dz⟩:=bs dx;refine BC 7 ht rfl rfl (fun ρ h s' hs=>C8 (h _ _ rfl) (h _ _ rfl) dy) ?_;obtain⟨ao,bI,dA⟩:=bs dz;obtain⟨_,⟨_,_,rfl,rfl,⟨_,_,rfl,rfl,⟨bJ,bK,rfl,dB⟩⟩⟩,dC⟩:=WL.at ag bI;refine F0 8 ht (ag).2 bI underlying130 AP ?_;refine D2 9 ht [iV ao.1,iV ao.2.1,sV bJ ao.2.2 bK] 0 aD dC Ch AP ?_;refine Co [10,11,12] ?_;obtain⟨dD,dE,dF⟩:=bs dA;refine Kh (vs:= [.agg #[iV V.1,iV V.2.1,sV aF V.2.2 aG],.agg #[iV ao.1,iV ao.2.1,sV bJ ao.2.2 bK]]) (GW bG dB dE) rfl rfl rfl rfl GL rfl aD ?_;rintro _ bL _ ap ⟨rfl,rfl⟩ a0;refine zg 1 rfl (AA (v:= .bool (decide (¬(dD<0)))) rfl (fun ρ h=>IE (h _ _ rfl)) ?_);refine JL.done (AK dF (fun dG dH=>?_) (fun dG dI=>?_))
           ·refine JL.exit rfl ?_;obtain rfl:=oi dH;obtain rfl:=bE _ aZ;exact Ay (bD _ _ ⟨bL,f142,rfl,rfl,(bd.Ac ap),a0,(ag.Ai ap)⟩) rfl
           ·refine JL.skip (GR [15,17] [K] mixed rfl ?_);refine Bn 0 rfl rfl (Bn 1 rfl rfl ?_);refine Bn 2 rfl rfl (Bn 3 rfl rfl ?_);obtain⟨bM,dJ,dK⟩:=bs dI;refine GC 4 true rfl rfl (fun ρ h s' hs=>C8 (h _ _ rfl) (h _ _ rfl) dJ) (Bn 5 rfl rfl ?_);refine Bn 6 rfl rfl ?_;obtain⟨fy,dL,dM⟩:=bs dK;refine GC 7 true rfl rfl (fun ρ h s' hs=>C8 (h _ _ rfl) (h _ _ rfl) dL) ?_;obtain⟨ai,bN,dN⟩:=bs dM;obtain⟨_,⟨_,_,rfl,rfl,⟨_,_,rfl,rfl,⟨be,bf,rfl,dO⟩⟩⟩,dP⟩:=WL.at (ag.Ai ap) bN;refine Cq 8 ag.2 bN underlying130 AP ?_;refine Eg 9 [iV ai.1,iV ai.2.1,sV be ai.2.2 bf] 0 a0 dP Ch AP ?_;refine Bn 10 rfl rfl (Bn 11 rfl rfl ?_);refine Cq 12 ag.2 aE underlying130 AP ?_;refine Eg 13 [iV V.1,iV V.2.1,sV aF V.2.2 aG] 0 a0 bH Ch AP ?_;refine Cq 14 ag.2 aE underlying130 AP ?_;have aH:=WL.put (x':=ai) (ws':= [iV ai.1,iV ai.2.1,sV be ai.2.2 bf]) (ag.Ai ap) ag.2 aE ⟨_,_,rfl,rfl,⟨_,_,rfl,rfl,⟨_,_,rfl,dO⟩⟩⟩;refine Ef 15 0 a0 AP aH.2 fun dQ=>?_;obtain⟨fz,bg,dR⟩:=bs dN;obtain⟨_,⟨_,_,rfl,rfl,⟨_,_,rfl,rfl,⟨fA,fB,rfl,fC⟩⟩⟩,fD⟩:=WL.at aH.1 bg;refine Cq 16 (aH.1).2 bg underlying130 AP ?_;have bO:=WL.put (x':=V) (ws':= [iV V.1,iV V.2.1,sV aF V.2.2 aG]) aH.1 (aH.1).2 bg ⟨_,_,rfl,rfl,⟨_,_,rfl,rfl,⟨_,_,rfl,(bG.Ai ap)⟩⟩⟩;refine Ef 17 0 dQ AP bO.2 fun dS=>?_;refine JB.fin (by decide+kernel) ?_;obtain⟨dT,dU,dV⟩:=bs dR;refine zg 3 rfl (Ba dU rfl rfl rfl ?_);refine zg 2 rfl ?_;obtain rfl:=oi dV;exact Ay (dt _ _ (dT,((an.2.set (Int.toNat an.1) ai).set (Int.toNat bM) V)) ⟨bL,(Be (Be f142 (Int.toNat (an.1)*3) [iV ai.1,iV ai.2.1,sV be ai.2.2 bf]) (Int.toNat (bM)*3) [iV V.1,iV V.2.1,sV aF V.2.2 aG]),rfl,rfl,(bd.Ac ap),dS,bO.1⟩ aZ) rfl
          ·refine JL.exit rfl ?_;obtain rfl:=oi dw;obtain rfl:=bE _ aZ;exact Ay (bD _ _ ⟨aY,f142,rfl,rfl,bd,aD,ag⟩) rfl
        ·refine JL.skip ?_;obtain rfl:=oi di;exact Ay (bC _ _ ⟨am,f99,rfl,rfl,Aq,bz,bA⟩) rfl
      ·intro bP;refine AK c3 (fun dW dX=>?_) (fun dW dY=>?_)
       ·obtain⟨fE,dZ,ea⟩:=bs dX;refine zg 3 rfl (B7 dZ rfl rfl rfl ?_);obtain⟨eb,ec,ed⟩:=bs ea;refine zg 2 rfl (Bs (fun L s=>∃(a1:LH) (f224:Ax),Jn aA H a1 [bX K f224 133] [(0,.slice (Bh K) U O),(1,iV p1),(2,iV p2),(3,(fV 134)),(9,iV ak),(10,iV Z.2.1)] L s (WL 133 Cn a1 K O U f224 eb)) ?_ ?_)
        ·rintro _ _ ⟨a1,f224,rfl,rfl,ee,ef,eg⟩;obtain rfl:=oi ed;exact Ay (bP _ _ ⟨a1,f224,rfl,rfl,ee,ef,eg⟩) rfl
        ·intro bQ;refine JL.block (CG ec (fun L s aq=>∃(a2:LH) (f232:Ax),Jn aA H a2 [bX K f232 133] [(0,.slice (Bh K) U O),(1,iV p1),(2,iV p2),(3,(fV 134)),(9,iV ak),(10,iV Z.2.1),(11,iV aq.1)] L s (WL 133 Cn a2 K O U f232 aq.2)) ⟨aA,(Be (Be f27 (Int.toNat (ak)*3) [iV ab.1,iV ab.2.1,sV aR ab.2.2 aS]) (Int.toNat (bv)*3) [iV ae.1,iV ae.2.1,sV aU ae.2.2 aV]),rfl,rfl,Aq,bx,bc.1⟩ ?_);rintro _ _ aq ⟨a2,f232,rfl,rfl,bh,aI,ah⟩ bR ⟨fF,a3⟩ eh;have bS:=a3;unfold Rf at bS;refine zg 6 rfl (AK bS (fun ei ej=>?_) (fun ei ek=>?_))
         ·refine zg 5 rfl (Dv 10 [K] ⟨⟨0,_,rfl⟩,trivial⟩ aI fun ht=>?_);refine Bi ht rfl [0,1,2] rfl ?_;obtain⟨W,aJ,el⟩:=bs ej;obtain⟨_,⟨_,_,rfl,rfl,⟨_,_,rfl,rfl,⟨aK,aL,rfl,bT⟩⟩⟩,bU⟩:=WL.at ah aJ;refine F0 3 ht (ah).2 aJ underlying130 AP ?_;refine D2 4 ht [iV W.1,iV W.2.1,sV aK W.2.2 aL] 0 aI bU Ch AP ?_;refine Bi ht rfl [5,6] rfl ?_;obtain⟨fG,em,en⟩:=bs el;refine BC 7 ht rfl rfl (fun ρ h s' hs=>C8 (h _ _ rfl) (h _ _ rfl) em) ?_;obtain⟨ar,bV,eo⟩:=bs en;obtain⟨_,⟨_,_,rfl,rfl,⟨_,_,rfl,rfl,⟨bW,bY,rfl,ep⟩⟩⟩,eq⟩:=WL.at ah bV;refine F0 8 ht (ah).2 bV underlying130 AP ?_;refine D2 9 ht [iV ar.1,iV ar.2.1,sV bW ar.2.2 bY] 0 aI eq Ch AP ?_;refine Co [10,11,12] ?_;obtain⟨er,et,eu⟩:=bs eo;refine Kh (vs:= [.agg #[iV W.1,iV W.2.1,sV aK W.2.2 aL],.agg #[iV ar.1,iV ar.2.1,sV bW ar.2.2 bY]]) (GW bT ep et) rfl rfl rfl rfl GL rfl aI ?_;rintro _ bZ _ au ⟨rfl,rfl⟩ a4;refine zg 1 rfl (AA (v:= .bool (decide (¬(er<0)))) rfl (fun ρ h=>IE (h _ _ rfl)) ?_);refine JL.done (AK eu (fun ew ex=>?_) (fun ew ey=>?_))
          ·refine JL.exit rfl ?_;obtain rfl:=oi ex;obtain rfl:=bR _ a3;exact Ay (bQ _ _ ⟨bZ,f232,rfl,rfl,(bh.Ac au),a4,(ah.Ai au)⟩) rfl
          ·refine JL.skip (GR [15,17] [K] mixed rfl ?_);refine Bn 0 rfl rfl (Bn 1 rfl rfl ?_);refine Bn 2 rfl rfl (Bn 3 rfl rfl ?_);obtain⟨b0,ez,eA⟩:=bs ey;refine GC 4 true rfl rfl (fun ρ h s' hs=>C8 (h _ _ rfl) (h _ _ rfl) ez) (Bn 5 rfl rfl ?_);refine Bn 6 rfl rfl ?_;obtain⟨fH,eB,eC⟩:=bs eA;refine GC 7 true rfl rfl (fun ρ h s' hs=>C8 (h _ _ rfl) (h _ _ rfl) eB) ?_;obtain⟨aj,b1,eD⟩:=bs eC;obtain⟨_,⟨_,_,rfl,rfl,⟨_,_,rfl,rfl,⟨bi,bj,rfl,eE⟩⟩⟩,eF⟩:=WL.at (ah.Ai au) b1;refine Cq 8 ah.2 b1 underlying130 AP ?_;refine Eg 9 [iV aj.1,iV aj.2.1,sV bi aj.2.2 bj] 0 a4 eF Ch AP ?_;refine Bn 10 rfl rfl (Bn 11 rfl rfl ?_);refine Cq 12 ah.2 aJ underlying130 AP ?_;refine Eg 13 [iV W.1,iV W.2.1,sV aK W.2.2 aL] 0 a4 bU Ch AP ?_;refine Cq 14 ah.2 aJ underlying130 AP ?_;have aM:=WL.put (x':=aj) (ws':= [iV aj.1,iV aj.2.1,sV bi aj.2.2 bj]) (ah.Ai au) ah.2 aJ ⟨_,_,rfl,rfl,⟨_,_,rfl,rfl,⟨_,_,rfl,eE⟩⟩⟩;refine Ef 15 0 a4 AP aM.2 fun eG=>?_;obtain⟨fI,bl,eH⟩:=bs eD;obtain⟨_,⟨_,_,rfl,rfl,⟨_,_,rfl,rfl,⟨fJ,fK,rfl,fL⟩⟩⟩,fM⟩:=WL.at aM.1 bl;refine Cq 16 (aM.1).2 bl underlying130 AP ?_;have b2:=WL.put (x':=W) (ws':= [iV W.1,iV W.2.1,sV aK W.2.2 aL]) aM.1 (aM.1).2 bl ⟨_,_,rfl,rfl,⟨_,_,rfl,rfl,⟨_,_,rfl,(bT.Ai au)⟩⟩⟩;refine Ef 17 0 eG AP b2.2 fun eI=>?_;refine JB.fin (by decide+kernel) ?_;obtain⟨eJ,eK,eL⟩:=bs eH;refine zg 3 rfl (B7 eK rfl rfl rfl ?_);refine zg 2 rfl ?_;obtain rfl:=oi eL;exact Ay (eh _ _ (eJ,((aq.2.set (Int.toNat aq.1) aj).set (Int.toNat b0) W)) ⟨bZ,(Be (Be f232 (Int.toNat (aq.1)*3) [iV aj.1,iV aj.2.1,sV bi aj.2.2 bj]) (Int.toNat (b0)*3) [iV W.1,iV W.2.1,sV aK W.2.2 aL]),rfl,rfl,(bh.Ac au),eI,b2.1⟩ a3) rfl
         ·refine JL.exit rfl ?_;obtain rfl:=oi ek;obtain rfl:=bR _ a3;exact Ay (bQ _ _ ⟨a2,f232,rfl,rfl,bh,aI,ah⟩) rfl
       ·refine JL.skip ?_;obtain rfl:=oi dY;exact Ay (bP _ _ ⟨aA,(Be (Be f27 (Int.toNat (ak)*3) [iV ab.1,iV ab.2.1,sV aR ab.2.2 aS]) (Int.toNat (bv)*3) [iV ae.1,iV ae.2.1,sV aU ae.2.2 aV]),rfl,rfl,Aq,bx,bc.1⟩) rfl
   ·refine JL.block (CC cy (fun aN=> [bX K f27 133]) (fun aN=> [(0,.slice (Bh K) U O),(1,iV p1),(2,iV p2),(3,(fV 134)),(9,iV aN),(10,iV Z.2.1)]) Aq br ?_);rintro aN b3 av aO eM ⟨fN,bm⟩ eN;have b4:=bm;unfold IH at b4;refine zg 2 rfl (Dv 18 [K] ⟨⟨0,_,rfl⟩,trivial⟩ aO fun ht=>?_);refine Bi ht rfl [0,1,2,3] rfl ?_;obtain⟨eO,b5,eP⟩:=bs b4;refine FW 0 #[true,true,true,true,true,true,true,true,true,true,true,true,true,true,true,true,true,true] (fun L s=>∃(b6:LH),Jm b3 H b6 [bX K f27 133] [(0,.slice (Bh K) U O),(1,iV p1),(2,iV p2),(3,(fV 134)),(9,iV aN),(10,iV Z.2.1),(36,.bool eO)] L s) ?_ ?_
    ·rintro _ _ ⟨b6,rfl,rfl,b7,b8⟩;refine AT.fin (by decide+kernel) (BM eP (fun eQ eR=>?_) (fun eQ eS=>?_))
     ·obtain⟨eT,eU,eV⟩:=bs eR;refine zg 4 rfl (Ba eU rfl rfl rfl ?_);refine zg 3 rfl ?_;obtain rfl:=oi eV;exact eN eT (av.Ac b7) b8 rfl bm
     ·refine JL.exit rfl ?_;obtain rfl:=oi eS;obtain rfl:=eM _ bm;exact cA (av.Ac b7) b8 rfl
    ·intro b9;refine FT (q:=aN<p2) (i:=22) rfl (fun bn=>?_) (fun bn=>?_)
     ·have eW:=ip b5 bn;refine Bi ht rfl [4,5,6] rfl ?_;obtain⟨aw,ca,eX⟩:=bs eW;obtain⟨_,⟨_,_,rfl,rfl,⟨_,_,rfl,rfl,⟨cb,cc,rfl,eY⟩⟩⟩,eZ⟩:=WL.at (aa.Ai av) ca;refine BC 7 ht rfl rfl (fun ρ h s' hs=>Gu ((aa.Ai av)).2 ca underlying130 AP (h _ _ rfl) (h _ _ rfl)) ?_;refine D2 8 ht [iV aw.1,iV aw.2.1,sV cb aw.2.2 cc] 0 aO eZ Ch AP ?_;refine Bi ht rfl [9,10] rfl ?_;obtain⟨fO,e0,e1⟩:=bs eX;refine BC 11 ht rfl rfl (fun ρ h s' hs=>C8 (h _ _ rfl) (h _ _ rfl) e0) ?_;obtain⟨ay,cd,e3⟩:=bs e1;obtain⟨_,⟨_,_,rfl,rfl,⟨_,_,rfl,rfl,⟨ce,cf,rfl,e4⟩⟩⟩,e5⟩:=WL.at (aa.Ai av) cd;refine BC 12 ht rfl rfl (fun ρ h s' hs=>Gu ((aa.Ai av)).2 cd underlying130 AP (h _ _ rfl) (h _ _ rfl)) ?_;refine D2 13 ht [iV ay.1,iV ay.2.1,sV ce ay.2.2 cf] 0 aO e5 Ch AP ?_;obtain⟨e6,e7,e8⟩:=bs e3;refine Hz (i:=14) ⟨⟨0,_,rfl⟩,trivial⟩ (vs:= [.agg #[iV aw.1,iV aw.2.1,sV cb aw.2.2 cc],.agg #[iV ay.1,iV ay.2.1,sV ce ay.2.2 cf]]) (GW eY e4 e7) (by decide+kernel) rfl rfl rfl rfl GL rfl aO ?_;rintro _ e9 _ fa ⟨rfl,rfl⟩ fb;refine Cv 15 ht rfl rfl ?_;refine BC (v:= .bool (decide (¬(e6<0)))) 16 ht rfl rfl (fun ρ h s' hs=>IE (h _ _ rfl)) ?_;refine Cv 17 ht rfl rfl ?_;obtain rfl:=oi e8;refine DD ?_ (b9 _ _ ⟨e9,rfl,rfl,fa,fb⟩);exact⟨rfl,rfl,rfl,rfl,rfl,rfl,rfl,trivial⟩
     ·have fc:=im b5 bn;refine Bi ht rfl [4,5,6,7,8,9,10,11,12,13,14,15,16,17] rfl ?_;obtain rfl:=oi fc;refine DD ?_ (b9 _ _ ⟨b3,rfl,rfl,Aq,aO⟩);exact⟨rfl,rfl,rfl,rfl,rfl,rfl,rfl,trivial⟩
  ·refine JL.exit rfl ?_;obtain rfl:=oi cw;have fd:bq=(Sum.inr Z.2.2):=(ba _ az).symm;exact Ay (cr _ _ ⟨Z.2.2,aP,f27,fd,rfl,rfl,aQ,br,aa⟩) rfl
def Ku(fuel:Nat)(p0:List Bo)(p1:Int)(p3:Int)(O:Bo)(U:Bo)(V:Int)(K:Int):Option (Bl Int Int):= Option.bind (if K≤V then((ix ((p0.set (Int.toNat p1) O).set (Int.toNat p3) U) K).bind fun W=> (ix ((p0.set (Int.toNat p1) O).set (Int.toNat p3) U) p1).bind fun Z=> (f134 fuel W Z).bind fun aa=> some (decide (aa<0))) else(some false)) fun ab=> if ab=true then((Au (K+1)).bind fun ae=> some (.more ae)) else(some (.done K))
def Ko(fuel:Nat)(p0:List Bo)(p1:Int)(p3:Int)(O:Bo)(U:Bo)(V:Int)(K:Int):Option (Bl Int Int):= Option.bind (if V≤K then((ix ((p0.set (Int.toNat p1) O).set (Int.toNat p3) U) K).bind fun W=> (ix ((p0.set (Int.toNat p1) O).set (Int.toNat p3) U) p1).bind fun Z=> (f134 fuel W Z).bind fun aa=> some (decide (¬(aa<0)))) else(some false)) fun ab=> if ab=true then((Au (K - 1)).bind fun ae=> some (.more ae)) else(some (.done K))
def Jf(fuel:Nat)(p1:Int)(O:Int×Int×(List Bo))(K:Int):Option (Bl Int Int):= Option.bind (if K≤O.2.1 then((ix O.2.2 K).bind fun U=> (ix O.2.2 p1).bind fun V=> (f134 fuel U V).bind fun W=> some (decide (W<0))) else(some false)) fun Z=> if Z=true then((Au (K+1)).bind fun aa=> some (.more aa)) else(some (.done K))
def Jl(fuel:Nat)(p1:Int)(O:Int×Int×(List Bo))(U:Int)(K:Int):Option (Bl Int Int):= Option.bind (if U≤K then((ix O.2.2 K).bind fun V=> (ix O.2.2 p1).bind fun W=> (f134 fuel V W).bind fun Z=> some (decide (¬(Z<0)))) else(some false)) fun aa=> if aa=true then((Au (K - 1)).bind fun ab=> some (.more ab)) else(some (.done K))
def IG(fuel:Nat)(p1:Int)(K:Int×Int×(List Bo)):Option (Bl (Int×Int×(List Bo)) (Int×(List Bo))):= Option.bind (iter (Jf fuel p1 K) fuel K.1) fun O=> Option.bind (iter (Jl fuel p1 K O) fuel K.2.1) fun U=> if U<O then(some (.done (U,K.2.2))) else((ix K.2.2 U).bind fun V=> (ix K.2.2 O).bind fun W=> (Au (O+1)).bind fun Z=> (Au (U - 1)).bind fun aa=> some (.more (Z,aa,((K.2.2.set (Int.toNat O) V).set (Int.toNat U) W))))
def f185(fuel:Nat)(p0:List Bo)(p1:Int)(p2:Int)(p3:Int):Option (Int×Bool×(List Bo)):= (ix p0 p3).bind fun K=> (ix p0 p1).bind fun O=> (Au (p1+1)).bind fun aa=> (Au (p2 - 1)).bind fun Z=> Option.bind (iter (Ku fuel p0 p1 p3 K O Z) fuel aa) fun W=> Option.bind (iter (Ko fuel p0 p1 p3 K O W) fuel Z) fun U=> if U<W then((ix ((p0.set (Int.toNat p1) K).set (Int.toNat p3) O) p1).bind fun ab=> (ix ((p0.set (Int.toNat p1) K).set (Int.toNat p3) O) U).bind fun ae=> some (U,true,((((p0.set (Int.toNat p1) K).set (Int.toNat p3) O).set (Int.toNat U) ab).set (Int.toNat p1) ae))) else((ix ((p0.set (Int.toNat p1) K).set (Int.toNat p3) O) U).bind fun ag=> (ix ((p0.set (Int.toNat p1) K).set (Int.toNat p3) O) W).bind fun ah=> (Au (W+1)).bind fun ai=> (Au (U - 1)).bind fun aj=> Option.bind (iter (IG fuel p1) fuel (ai,aj,((((p0.set (Int.toNat p1) K).set (Int.toNat p3) O).set (Int.toNat W) ag).set (Int.toNat U) ah))) fun V=> (ix V.2 p1).bind fun ak=> (ix V.2 V.1).bind fun al=> some (V.1,false,((V.2.set (Int.toNat V.1) ak).set (Int.toNat p1) al)))
theorem Sb{K:Nat}{W:Nat}{Z:Nat}{ah:Ax}{p0:List (Bo)}{p1:Int}{p2:Int}{p3:Int}(hW:WL 133 Cn E K W Z ah p0){fuel:Nat}{r:Int×Bool×(List Bo)}(bJ:f185 fuel p0 p1 p2 p3=some r):AQ J 185 [.slice (Bh K) Z W,iV p1,iV p2,iV p3,(fV 134)] E [(K,.cells ah 133 (0,0))] (fun w E' B'=>∃(bK:Ax),w= .tuple #[iV r.1,.bool r.2.1]∧B'= [(K,.cells bK 133 (0,0))]∧WL 133 Cn E' K W Z bK r.2.2):=by
 refine Bc func185 fun Q gi cs H a7 bL=>?_;unfold f185 at bJ;refine zg 6 rfl (GR [13,15] [K] mixed rfl ?_);refine Bn 0 rfl rfl (Bn 1 rfl rfl ?_);refine Bn 2 rfl rfl (Bn 3 rfl rfl ?_);refine Bn 4 rfl rfl (Bn 5 rfl rfl ?_);obtain⟨O,aX,cX⟩:=bs bJ;obtain⟨_,⟨_,_,rfl,rfl,⟨_,_,rfl,rfl,⟨ai,c4,rfl,cY⟩⟩⟩,cZ⟩:=WL.at hW aX;refine Cq 6 hW.2 aX underlying130 AP ?_;refine Eg 7 [iV O.1,iV O.2.1,sV ai O.2.2 c4] 0 a7 cZ Ch AP ?_;refine Bn 8 rfl rfl (Bn 9 rfl rfl ?_);obtain⟨U,aO,c0⟩:=bs cX;obtain⟨_,⟨_,_,rfl,rfl,⟨_,_,rfl,rfl,⟨aj,ak,rfl,c1⟩⟩⟩,c2⟩:=WL.at hW aO;refine Cq 10 hW.2 aO underlying130 AP ?_;refine Eg 11 [iV U.1,iV U.2.1,sV aj U.2.2 ak] 0 a7 c2 Ch AP ?_;refine Cq 12 hW.2 aO underlying130 AP ?_;have bM:=WL.put (x':=O) (ws':= [iV O.1,iV O.2.1,sV ai O.2.2 c4]) hW hW.2 aO ⟨_,_,rfl,rfl,⟨_,_,rfl,rfl,⟨_,_,rfl,cY⟩⟩⟩;refine Ef 13 0 a7 AP bM.2 fun c3=>?_;refine Cq 14 hW.2 aX underlying130 AP ?_;have V:=WL.put (x':=U) (ws':= [iV U.1,iV U.2.1,sV aj U.2.2 ak]) bM.1 hW.2 aX ⟨_,_,rfl,rfl,⟨_,_,rfl,rfl,⟨_,_,rfl,c1⟩⟩⟩;refine Ef 15 0 c3 AP V.2 fun c5=>?_;refine JB.fin (by decide+kernel) ?_;obtain⟨gj,c6,c7⟩:=bs c0;refine zg 3 rfl (Ba c6 rfl rfl rfl ?_);obtain⟨aY,c8,c9⟩:=bs c7;refine zg 1 rfl (B7 c8 rfl rfl rfl ?_);obtain⟨az,da,db⟩:=bs c9;refine zg 4 rfl (Cu [bX K (Be (Be ah (Int.toNat (p1)*3) [iV O.1,iV O.2.1,sV ai O.2.2 c4]) (Int.toNat (p3)*3) [iV U.1,iV U.2.1,sV aj U.2.2 ak]) 133] [(0,.slice (Bh K) Z W),(1,iV p1),(4,(fV 134)),(12,iV az),(13,iV aY)] (fun gk ab dc=>?_) (fun dd=>?_))
 ·obtain⟨a8,de,df⟩:=bs db;refine JL.seq (Cu [bX K (Be (Be ah (Int.toNat (p1)*3) [iV O.1,iV O.2.1,sV ai O.2.2 c4]) (Int.toNat (p3)*3) [iV U.1,iV U.2.1,sV aj U.2.2 ak]) 133] [(0,.slice (Bh K) Z W),(1,iV p1),(4,(fV 134)),(12,iV az),(13,iV a8)] (fun a9 aw aA=>?_) (fun dg=>?_))
  ·refine zg 7 rfl (AK df (fun dh di=>?_) (fun dh dj=>?_))
   ·refine JL.seq (GR [13,15] [K] mixed rfl ?_);refine Bn 0 rfl rfl (Bn 1 rfl rfl ?_);refine Bn 2 rfl rfl (Bn 3 rfl rfl ?_);refine Bn 4 rfl rfl (Bn 5 rfl rfl ?_);refine Cq 6 hW.2 aO underlying130 AP ?_;obtain⟨al,ba,dk⟩:=bs di;obtain⟨_,⟨_,_,rfl,rfl,⟨_,_,rfl,rfl,⟨bb,bc,rfl,dl⟩⟩⟩,dm⟩:=WL.at (V.1.Ai (ab.Ac aw)) ba;refine Eg 7 [iV al.1,iV al.2.1,sV bb al.2.2 bc] 0 aA dm Ch AP ?_;refine Bn 8 rfl rfl (Bn 9 rfl rfl ?_);obtain⟨am,aZ,dn⟩:=bs dk;obtain⟨_,⟨_,_,rfl,rfl,⟨_,_,rfl,rfl,⟨bd,be,rfl,dp⟩⟩⟩,dq⟩:=WL.at (V.1.Ai (ab.Ac aw)) aZ;refine Cq 10 (V.1).2 aZ underlying130 AP ?_;refine Eg 11 [iV am.1,iV am.2.1,sV bd am.2.2 be] 0 aA dq Ch AP ?_;refine Cq 12 (V.1).2 aZ underlying130 AP ?_;have bN:=WL.put (x':=al) (ws':= [iV al.1,iV al.2.1,sV bb al.2.2 bc]) (V.1.Ai (ab.Ac aw)) (V.1).2 aZ ⟨_,_,rfl,rfl,⟨_,_,rfl,rfl,⟨_,_,rfl,dl⟩⟩⟩;refine Ef 13 0 aA AP bN.2 fun dr=>?_;refine Cq 14 (V.1).2 ba underlying130 AP ?_;have bO:=WL.put (x':=am) (ws':= [iV am.1,iV am.2.1,sV bd am.2.2 be]) bN.1 (V.1).2 ba ⟨_,_,rfl,rfl,⟨_,_,rfl,rfl,⟨_,_,rfl,dp⟩⟩⟩;refine Ef 15 0 dr AP bO.2 fun dt=>?_;refine JB.fin (by decide+kernel) (zg 6 rfl ?_);obtain rfl:=oi dn;exact AF func185 rfl rfl (bL (ab.Ac aw) rfl ⟨(Be (Be (Be (Be ah (Int.toNat (p1)*3) [iV O.1,iV O.2.1,sV ai O.2.2 c4]) (Int.toNat (p3)*3) [iV U.1,iV U.2.1,sV aj U.2.2 ak]) (Int.toNat (a8)*3) [iV al.1,iV al.2.1,sV bb al.2.2 bc]) (Int.toNat (p1)*3) [iV am.1,iV am.2.1,sV bd am.2.2 be]),rfl,(by first | rfl | simp | (simp [Value.cells])),bO.1⟩ dt)
   ·refine zg 2 rfl (GR [13,15] [K] mixed rfl ?_);refine Bn 0 rfl rfl (Bn 1 rfl rfl ?_);refine Bn 2 rfl rfl (Bn 3 rfl rfl ?_);refine Bn 4 rfl rfl (Bn 5 rfl rfl ?_);obtain⟨an,a0,du⟩:=bs dj;obtain⟨_,⟨_,_,rfl,rfl,⟨_,_,rfl,rfl,⟨bf,bg,rfl,dv⟩⟩⟩,dw⟩:=WL.at (V.1.Ai (ab.Ac aw)) a0;refine Cq 6 (V.1).2 a0 underlying130 AP ?_;refine Eg 7 [iV an.1,iV an.2.1,sV bf an.2.2 bg] 0 aA dw Ch AP ?_;refine Bn 8 rfl rfl (Bn 9 rfl rfl ?_);obtain⟨ao,a1,dx⟩:=bs du;obtain⟨_,⟨_,_,rfl,rfl,⟨_,_,rfl,rfl,⟨bh,bi,rfl,dy⟩⟩⟩,dz⟩:=WL.at (V.1.Ai (ab.Ac aw)) a1;refine Cq 10 (V.1).2 a1 underlying130 AP ?_;refine Eg 11 [iV ao.1,iV ao.2.1,sV bh ao.2.2 bi] 0 aA dz Ch AP ?_;refine Cq 12 (V.1).2 a1 underlying130 AP ?_;have bP:=WL.put (x':=an) (ws':= [iV an.1,iV an.2.1,sV bf an.2.2 bg]) (V.1.Ai (ab.Ac aw)) (V.1).2 a1 ⟨_,_,rfl,rfl,⟨_,_,rfl,rfl,⟨_,_,rfl,dv⟩⟩⟩;refine Ef 13 0 aA AP bP.2 fun dA=>?_;refine Cq 14 (V.1).2 a0 underlying130 AP ?_;have bQ:=WL.put (x':=ao) (ws':= [iV ao.1,iV ao.2.1,sV bh ao.2.2 bi]) bP.1 (V.1).2 a0 ⟨_,_,rfl,rfl,⟨_,_,rfl,rfl,⟨_,_,rfl,dy⟩⟩⟩;refine Ef 15 0 dA AP bQ.2 fun dB=>?_;refine JB.fin (by decide+kernel) ?_;obtain⟨gl,dC,dD⟩:=bs dx;refine zg 3 rfl (Ba dC rfl rfl rfl ?_);obtain⟨gm,dE,dF⟩:=bs dD;refine zg 5 rfl (B7 dE rfl rfl rfl ?_);obtain⟨bj,dG,dH⟩:=bs dF;refine zg 3 rfl (Bs (fun L s=>∃(bl:LH) (f102:Ax),Jn a9 H bl [bX K f102 133] [(0,.slice (Bh K) Z W),(1,iV p1),(13,iV bj.1)] L s (WL 133 Cn bl K W Z f102 bj.2)) ?_ ?_)
    ·rintro _ _ ⟨bl,f102,rfl,rfl,dI,bm,au⟩;refine JL.seq (GR [13,15] [K] mixed rfl ?_);refine Bn 0 rfl rfl (Bn 1 rfl rfl ?_);refine Bn 2 rfl rfl (Bn 3 rfl rfl ?_);refine Bn 4 rfl rfl (Bn 5 rfl rfl ?_);obtain⟨ap,a2,dJ⟩:=bs dH;obtain⟨_,⟨_,_,rfl,rfl,⟨_,_,rfl,rfl,⟨bn,bo,rfl,dK⟩⟩⟩,dL⟩:=WL.at au a2;refine Cq 6 au.2 a2 underlying130 AP ?_;refine Eg 7 [iV ap.1,iV ap.2.1,sV bn ap.2.2 bo] 0 bm dL Ch AP ?_;refine Bn 8 rfl rfl (Bn 9 rfl rfl ?_);obtain⟨aq,a3,dM⟩:=bs dJ;obtain⟨_,⟨_,_,rfl,rfl,⟨_,_,rfl,rfl,⟨bp,bq,rfl,dN⟩⟩⟩,dO⟩:=WL.at au a3;refine Cq 10 au.2 a3 underlying130 AP ?_;refine Eg 11 [iV aq.1,iV aq.2.1,sV bp aq.2.2 bq] 0 bm dO Ch AP ?_;refine Cq 12 au.2 a3 underlying130 AP ?_;have bR:=WL.put (x':=ap) (ws':= [iV ap.1,iV ap.2.1,sV bn ap.2.2 bo]) au au.2 a3 ⟨_,_,rfl,rfl,⟨_,_,rfl,rfl,⟨_,_,rfl,dK⟩⟩⟩;refine Ef 13 0 bm AP bR.2 fun dP=>?_;refine Cq 14 au.2 a2 underlying130 AP ?_;have bS:=WL.put (x':=aq) (ws':= [iV aq.1,iV aq.2.1,sV bp aq.2.2 bq]) bR.1 au.2 a2 ⟨_,_,rfl,rfl,⟨_,_,rfl,rfl,⟨_,_,rfl,dN⟩⟩⟩;refine Ef 15 0 dP AP bS.2 fun dQ=>?_;refine JB.fin (by decide+kernel) (zg 6 rfl ?_);obtain rfl:=oi dM;exact AF func185 rfl rfl (bL ((ab.Ac aw).Ac dI) rfl ⟨(Be (Be f102 (Int.toNat (bj.1)*3) [iV ap.1,iV ap.2.1,sV bn ap.2.2 bo]) (Int.toNat (p1)*3) [iV aq.1,iV aq.2.1,sV bp aq.2.2 bq]),rfl,(by first | rfl | simp | (simp [Value.cells])),bS.1⟩ dQ)
    ·intro dR;refine JL.block (CG dG (fun L s av=>∃(br:LH) (f127:Ax),Jn a9 H br [bX K f127 133] [(0,.slice (Bh K) Z W),(1,iV p1),(4,(fV 134)),(12,iV av.1),(13,iV av.2.1)] L s (WL 133 Cn br K W Z f127 av.2.2)) ⟨a9,(Be (Be (Be (Be ah (Int.toNat (p1)*3) [iV O.1,iV O.2.1,sV ai O.2.2 c4]) (Int.toNat (p3)*3) [iV U.1,iV U.2.1,sV aj U.2.2 ak]) (Int.toNat (az)*3) [iV an.1,iV an.2.1,sV bf an.2.2 bg]) (Int.toNat (a8)*3) [iV ao.1,iV ao.2.1,sV bh ao.2.2 bi]),rfl,rfl,Aq,dB,bQ.1⟩ ?_);rintro _ _ av ⟨br,f127,rfl,rfl,bT,dS,aa⟩ dT ⟨gn,bu⟩ dU;have bU:=bu;unfold IG at bU;obtain⟨ay,dV,dW⟩:=bs bU;refine zg 2 rfl (Cu [bX K f127 133] [(0,.slice (Bh K) Z W),(1,iV p1),(4,(fV 134)),(12,iV ay),(13,iV av.2.1)] (fun gp ar dX=>?_) (fun dY=>?_))
     ·obtain⟨bv,dZ,ea⟩:=bs dW;refine JL.seq (Cu [bX K f127 133] [(0,.slice (Bh K) Z W),(1,iV p1),(4,(fV 134)),(12,iV ay),(13,iV bv)] (fun bV aB a4=>?_) (fun eb=>?_))
      ·refine zg 7 rfl (AK ea (fun ec ed=>?_) (fun ec ee=>?_))
       ·refine JL.exit rfl ?_;obtain rfl:=oi ed;obtain rfl:=dT _ bu;exact Ay (dR _ _ ⟨bV,f127,rfl,rfl,((bT.Ac ar).Ac aB),a4,(aa.Ai (ar.Ac aB))⟩) rfl
       ·refine zg 2 rfl (GR [13,15] [K] mixed rfl ?_);refine Bn 0 rfl rfl (Bn 1 rfl rfl ?_);refine Bn 2 rfl rfl (Bn 3 rfl rfl ?_);refine Bn 4 rfl rfl (Bn 5 rfl rfl ?_);obtain⟨ae,a5,ef⟩:=bs ee;obtain⟨_,⟨_,_,rfl,rfl,⟨_,_,rfl,rfl,⟨bw,bx,rfl,eg⟩⟩⟩,eh⟩:=WL.at (aa.Ai (ar.Ac aB)) a5;refine Cq 6 aa.2 a5 underlying130 AP ?_;refine Eg 7 [iV ae.1,iV ae.2.1,sV bw ae.2.2 bx] 0 a4 eh Ch AP ?_;refine Bn 8 rfl rfl (Bn 9 rfl rfl ?_);obtain⟨ag,a6,ei⟩:=bs ef;obtain⟨_,⟨_,_,rfl,rfl,⟨_,_,rfl,rfl,⟨bz,bA,rfl,ej⟩⟩⟩,ek⟩:=WL.at (aa.Ai (ar.Ac aB)) a6;refine Cq 10 aa.2 a6 underlying130 AP ?_;refine Eg 11 [iV ag.1,iV ag.2.1,sV bz ag.2.2 bA] 0 a4 ek Ch AP ?_;refine Cq 12 aa.2 a6 underlying130 AP ?_;have bW:=WL.put (x':=ae) (ws':= [iV ae.1,iV ae.2.1,sV bw ae.2.2 bx]) (aa.Ai (ar.Ac aB)) aa.2 a6 ⟨_,_,rfl,rfl,⟨_,_,rfl,rfl,⟨_,_,rfl,eg⟩⟩⟩;refine Ef 13 0 a4 AP bW.2 fun el=>?_;refine Cq 14 aa.2 a5 underlying130 AP ?_;have bY:=WL.put (x':=ag) (ws':= [iV ag.1,iV ag.2.1,sV bz ag.2.2 bA]) bW.1 aa.2 a5 ⟨_,_,rfl,rfl,⟨_,_,rfl,rfl,⟨_,_,rfl,ej⟩⟩⟩;refine Ef 15 0 el AP bY.2 fun em=>?_;refine JB.fin (by decide+kernel) ?_;obtain⟨en,eo,ep⟩:=bs ei;refine zg 3 rfl (Ba eo rfl rfl rfl ?_);obtain⟨eq,er,et⟩:=bs ep;refine zg 4 rfl (B7 er rfl rfl rfl ?_);refine zg 3 rfl ?_;obtain rfl:=oi et;exact Ay (dU _ _ (en,eq,((av.2.2.set (Int.toNat ay) ae).set (Int.toNat bv) ag)) ⟨bV,(Be (Be f127 (Int.toNat (ay)*3) [iV ae.1,iV ae.2.1,sV bw ae.2.2 bx]) (Int.toNat (bv)*3) [iV ag.1,iV ag.2.1,sV bz ag.2.2 bA]),rfl,rfl,((bT.Ac ar).Ac aB),em,bY.1⟩ bu) rfl
      ·refine JL.block (CC dZ (fun aP=> [bX K f127 133]) (fun aP=> [(0,.slice (Bh K) Z W),(1,iV p1),(4,(fV 134)),(12,iV ay),(13,iV aP)]) Aq dX ?_);rintro aP bZ aC aQ eu ⟨gq,bB⟩ ew;have b0:=bB;unfold Jl at b0;refine zg 2 rfl (Dv 17 [K] ⟨⟨0,_,rfl⟩,trivial⟩ aQ fun ht=>?_);refine Bi ht rfl [0,1,2,3] rfl ?_;obtain⟨ex,b1,ey⟩:=bs b0;refine FW 0 #[true,true,true,true,true,true,true,true,true,true,true,true,true,true,true,true,true] (fun L s=>∃(b2:LH),Jm bZ H b2 [bX K f127 133] [(0,.slice (Bh K) Z W),(1,iV p1),(4,(fV 134)),(12,iV ay),(13,iV aP),(139,.bool ex)] L s) ?_ ?_
       ·rintro _ _ ⟨b2,rfl,rfl,b3,b4⟩;refine AT.fin (by decide+kernel) (BM ey (fun ez eA=>?_) (fun ez eB=>?_))
        ·obtain⟨eC,eD,eE⟩:=bs eA;refine zg 4 rfl (B7 eD rfl rfl rfl ?_);refine zg 3 rfl ?_;obtain rfl:=oi eE;exact ew eC (aC.Ac b3) b4 rfl bB
        ·refine JL.exit rfl ?_;obtain rfl:=oi eB;obtain rfl:=eu _ bB;exact eb (aC.Ac b3) b4 rfl
       ·intro b5;refine FT (q:=ay≤aP) (i:=126) rfl (fun bC=>?_) (fun bC=>?_)
        ·have eF:=ip b1 bC;refine Bi ht rfl [4,5,6] rfl ?_;obtain⟨aD,b6,eG⟩:=bs eF;obtain⟨_,⟨_,_,rfl,rfl,⟨_,_,rfl,rfl,⟨b7,b8,rfl,eH⟩⟩⟩,eI⟩:=WL.at (aa.Ai (ar.Ac aC)) b6;refine BC 7 ht rfl rfl (fun ρ h s' hs=>Gu ((aa.Ai (ar.Ac aC))).2 b6 underlying130 AP (h _ _ rfl) (h _ _ rfl)) ?_;refine D2 8 ht [iV aD.1,iV aD.2.1,sV b7 aD.2.2 b8] 0 aQ eI Ch AP ?_;refine Bi ht rfl [9,10] rfl ?_;obtain⟨aE,b9,eJ⟩:=bs eG;obtain⟨_,⟨_,_,rfl,rfl,⟨_,_,rfl,rfl,⟨ca,cb,rfl,eK⟩⟩⟩,eL⟩:=WL.at (aa.Ai (ar.Ac aC)) b9;refine BC 11 ht rfl rfl (fun ρ h s' hs=>Gu ((aa.Ai (ar.Ac aC))).2 b9 underlying130 AP (h _ _ rfl) (h _ _ rfl)) ?_;refine D2 12 ht [iV aE.1,iV aE.2.1,sV ca aE.2.2 cb] 0 aQ eL Ch AP ?_;obtain⟨eM,eN,eO⟩:=bs eJ;refine Hz (i:=13) ⟨⟨0,_,rfl⟩,trivial⟩ (vs:= [.agg #[iV aD.1,iV aD.2.1,sV b7 aD.2.2 b8],.agg #[iV aE.1,iV aE.2.1,sV ca aE.2.2 cb]]) (GW eH eK eN) (by decide+kernel) rfl rfl rfl rfl GL rfl aQ ?_;rintro _ eP _ eQ ⟨rfl,rfl⟩ eR;refine Cv 14 ht rfl rfl ?_;refine BC (v:= .bool (decide (¬(eM<0)))) 15 ht rfl rfl (fun ρ h s' hs=>IE (h _ _ rfl)) ?_;refine Cv 16 ht rfl rfl ?_;obtain rfl:=oi eO;refine DD ?_ (b5 _ _ ⟨eP,rfl,rfl,eQ,eR⟩);exact⟨rfl,rfl,rfl,rfl,rfl,rfl,trivial⟩
        ·have eS:=im b1 bC;refine Bi ht rfl [4,5,6,7,8,9,10,11,12,13,14,15,16] rfl ?_;obtain rfl:=oi eS;refine DD ?_ (b5 _ _ ⟨bZ,rfl,rfl,Aq,aQ⟩);exact⟨rfl,rfl,rfl,rfl,rfl,rfl,trivial⟩
     ·refine JL.block (CC dV (fun aR=> [bX K f127 133]) (fun aR=> [(0,.slice (Bh K) Z W),(1,iV p1),(4,(fV 134)),(12,iV aR),(13,iV av.2.1)]) Aq dS ?_);rintro aR cc aF aS eT ⟨gr,bD⟩ eU;have cd:=bD;unfold Jf at cd;refine zg 2 rfl (Dv 16 [K] ⟨⟨0,_,rfl⟩,trivial⟩ aS fun ht=>?_);refine Bi ht rfl [0,1,2,3] rfl ?_;obtain⟨eV,ce,eW⟩:=bs cd;refine FW 0 #[true,true,true,true,true,true,true,true,true,true,true,true,true,true,true,true] (fun L s=>∃(cf:LH),Jm cc H cf [bX K f127 133] [(0,.slice (Bh K) Z W),(1,iV p1),(4,(fV 134)),(12,iV aR),(13,iV av.2.1),(120,.bool eV)] L s) ?_ ?_
      ·rintro _ _ ⟨cf,rfl,rfl,cg,ci⟩;refine AT.fin (by decide+kernel) (BM eW (fun eX eY=>?_) (fun eX eZ=>?_))
       ·obtain⟨e0,e1,e3⟩:=bs eY;refine zg 4 rfl (Ba e1 rfl rfl rfl ?_);refine zg 3 rfl ?_;obtain rfl:=oi e3;exact eU e0 (aF.Ac cg) ci rfl bD
       ·refine JL.exit rfl ?_;obtain rfl:=oi eZ;obtain rfl:=eT _ bD;exact dY (aF.Ac cg) ci rfl
      ·intro ck;refine FT (q:=aR≤av.2.1) (i:=108) rfl (fun bE=>?_) (fun bE=>?_)
       ·have e4:=ip ce bE;refine Bi ht rfl [4,5,6] rfl ?_;obtain⟨aG,cm,e5⟩:=bs e4;obtain⟨_,⟨_,_,rfl,rfl,⟨_,_,rfl,rfl,⟨cn,co,rfl,e6⟩⟩⟩,e7⟩:=WL.at (aa.Ai aF) cm;refine BC 7 ht rfl rfl (fun ρ h s' hs=>Gu ((aa.Ai aF)).2 cm underlying130 AP (h _ _ rfl) (h _ _ rfl)) ?_;refine D2 8 ht [iV aG.1,iV aG.2.1,sV cn aG.2.2 co] 0 aS e7 Ch AP ?_;refine Bi ht rfl [9,10] rfl ?_;obtain⟨aH,cp,e8⟩:=bs e5;obtain⟨_,⟨_,_,rfl,rfl,⟨_,_,rfl,rfl,⟨cq,cr,rfl,e9⟩⟩⟩,fa⟩:=WL.at (aa.Ai aF) cp;refine BC 11 ht rfl rfl (fun ρ h s' hs=>Gu ((aa.Ai aF)).2 cp underlying130 AP (h _ _ rfl) (h _ _ rfl)) ?_;refine D2 12 ht [iV aH.1,iV aH.2.1,sV cq aH.2.2 cr] 0 aS fa Ch AP ?_;obtain⟨gt,fb,fc⟩:=bs e8;refine Hz (i:=13) ⟨⟨0,_,rfl⟩,trivial⟩ (vs:= [.agg #[iV aG.1,iV aG.2.1,sV cn aG.2.2 co],.agg #[iV aH.1,iV aH.2.1,sV cq aH.2.2 cr]]) (GW e6 e9 fb) (by decide+kernel) rfl rfl rfl rfl GL rfl aS ?_;rintro _ fd _ fe ⟨rfl,rfl⟩ ff;refine Bi ht rfl [14,15] rfl ?_;obtain rfl:=oi fc;refine DD ?_ (ck _ _ ⟨fd,rfl,rfl,fe,ff⟩);exact⟨rfl,rfl,rfl,rfl,rfl,rfl,trivial⟩
       ·have fg:=im ce bE;refine Bi ht rfl [4,5,6,7,8,9,10,11,12,13,14,15] rfl ?_;obtain rfl:=oi fg;refine DD ?_ (ck _ _ ⟨cc,rfl,rfl,Aq,aS⟩);exact⟨rfl,rfl,rfl,rfl,rfl,rfl,trivial⟩
  ·refine JL.block (CC de (fun aT=> [bX K (Be (Be ah (Int.toNat (p1)*3) [iV O.1,iV O.2.1,sV ai O.2.2 c4]) (Int.toNat (p3)*3) [iV U.1,iV U.2.1,sV aj U.2.2 ak]) 133]) (fun aT=> [(0,.slice (Bh K) Z W),(1,iV p1),(4,(fV 134)),(12,iV az),(13,iV aT)]) Aq dc ?_);rintro aT ct aI aU fh ⟨gu,bF⟩ fj;have cu:=bF;unfold Ko at cu;refine zg 2 rfl (Dv 17 [K] ⟨⟨0,_,rfl⟩,trivial⟩ aU fun ht=>?_);refine Bi ht rfl [0,1,2,3] rfl ?_;obtain⟨fk,cv,fm⟩:=bs cu;refine FW 0 #[true,true,true,true,true,true,true,true,true,true,true,true,true,true,true,true,true] (fun L s=>∃(cw:LH),Jm ct H cw [bX K (Be (Be ah (Int.toNat (p1)*3) [iV O.1,iV O.2.1,sV ai O.2.2 c4]) (Int.toNat (p3)*3) [iV U.1,iV U.2.1,sV aj U.2.2 ak]) 133] [(0,.slice (Bh K) Z W),(1,iV p1),(4,(fV 134)),(12,iV az),(13,iV aT),(66,.bool fk)] L s) ?_ ?_
   ·rintro _ _ ⟨cw,rfl,rfl,cy,cz⟩;refine AT.fin (by decide+kernel) (BM fm (fun fo fp=>?_) (fun fo fq=>?_))
    ·obtain⟨fs,fu,fv⟩:=bs fp;refine zg 4 rfl (B7 fu rfl rfl rfl ?_);refine zg 3 rfl ?_;obtain rfl:=oi fv;exact fj fs (aI.Ac cy) cz rfl bF
    ·refine JL.exit rfl ?_;obtain rfl:=oi fq;obtain rfl:=fh _ bF;exact dg (aI.Ac cy) cz rfl
   ·intro cA;refine FT (q:=az≤aT) (i:=53) rfl (fun bG=>?_) (fun bG=>?_)
    ·have fw:=ip cv bG;refine Bi ht rfl [4,5,6] rfl ?_;obtain⟨aJ,cB,fx⟩:=bs fw;obtain⟨_,⟨_,_,rfl,rfl,⟨_,_,rfl,rfl,⟨cC,cD,rfl,fy⟩⟩⟩,fz⟩:=WL.at (V.1.Ai (ab.Ac aI)) cB;refine BC 7 ht rfl rfl (fun ρ h s' hs=>Gu ((V.1.Ai (ab.Ac aI))).2 cB underlying130 AP (h _ _ rfl) (h _ _ rfl)) ?_;refine D2 8 ht [iV aJ.1,iV aJ.2.1,sV cC aJ.2.2 cD] 0 aU fz Ch AP ?_;refine Bi ht rfl [9,10] rfl ?_;obtain⟨aK,cE,fA⟩:=bs fx;obtain⟨_,⟨_,_,rfl,rfl,⟨_,_,rfl,rfl,⟨cF,cG,rfl,fB⟩⟩⟩,fC⟩:=WL.at (V.1.Ai (ab.Ac aI)) cE;refine BC 11 ht rfl rfl (fun ρ h s' hs=>Gu ((V.1.Ai (ab.Ac aI))).2 cE underlying130 AP (h _ _ rfl) (h _ _ rfl)) ?_;refine D2 12 ht [iV aK.1,iV aK.2.1,sV cF aK.2.2 cG] 0 aU fC Ch AP ?_;obtain⟨fD,fE,fF⟩:=bs fA;refine Hz (i:=13) ⟨⟨0,_,rfl⟩,trivial⟩ (vs:= [.agg #[iV aJ.1,iV aJ.2.1,sV cC aJ.2.2 cD],.agg #[iV aK.1,iV aK.2.1,sV cF aK.2.2 cG]]) (GW fy fB fE) (by decide+kernel) rfl rfl rfl rfl GL rfl aU ?_;rintro _ fG _ fH ⟨rfl,rfl⟩ fI;refine Cv 14 ht rfl rfl ?_;refine BC (v:= .bool (decide (¬(fD<0)))) 15 ht rfl rfl (fun ρ h s' hs=>IE (h _ _ rfl)) ?_;refine Cv 16 ht rfl rfl ?_;obtain rfl:=oi fF;refine DD ?_ (cA _ _ ⟨fG,rfl,rfl,fH,fI⟩);exact⟨rfl,rfl,rfl,rfl,rfl,rfl,trivial⟩
    ·have fJ:=im cv bG;refine Bi ht rfl [4,5,6,7,8,9,10,11,12,13,14,15,16] rfl ?_;obtain rfl:=oi fJ;refine DD ?_ (cA _ _ ⟨ct,rfl,rfl,Aq,aU⟩);exact⟨rfl,rfl,rfl,rfl,rfl,rfl,trivial⟩
 ·refine JL.block (CC da (fun aV=> [bX K (Be (Be ah (Int.toNat (p1)*3) [iV O.1,iV O.2.1,sV ai O.2.2 c4]) (Int.toNat (p3)*3) [iV U.1,iV U.2.1,sV aj U.2.2 ak]) 133]) (fun aV=> [(0,.slice (Bh K) Z W),(1,iV p1),(4,(fV 134)),(12,iV aV),(13,iV aY)]) Aq c5 ?_);rintro aV cH aL aW fK ⟨gv,bH⟩ fL;have cI:=bH;unfold Ku at cI;refine zg 2 rfl (Dv 16 [K] ⟨⟨0,_,rfl⟩,trivial⟩ aW fun ht=>?_);refine Bi ht rfl [0,1,2,3] rfl ?_;obtain⟨fM,cJ,fN⟩:=bs cI;refine FW 0 #[true,true,true,true,true,true,true,true,true,true,true,true,true,true,true,true] (fun L s=>∃(cK:LH),Jm cH H cK [bX K (Be (Be ah (Int.toNat (p1)*3) [iV O.1,iV O.2.1,sV ai O.2.2 c4]) (Int.toNat (p3)*3) [iV U.1,iV U.2.1,sV aj U.2.2 ak]) 133] [(0,.slice (Bh K) Z W),(1,iV p1),(4,(fV 134)),(12,iV aV),(13,iV aY),(47,.bool fM)] L s) ?_ ?_
  ·rintro _ _ ⟨cK,rfl,rfl,cM,cN⟩;refine AT.fin (by decide+kernel) (BM fN (fun fO fP=>?_) (fun fO fQ=>?_))
   ·obtain⟨fR,fS,fT⟩:=bs fP;refine zg 4 rfl (Ba fS rfl rfl rfl ?_);refine zg 3 rfl ?_;obtain rfl:=oi fT;exact fL fR (aL.Ac cM) cN rfl bH
   ·refine JL.exit rfl ?_;obtain rfl:=oi fQ;obtain rfl:=fK _ bH;exact dd (aL.Ac cM) cN rfl
  ·intro cO;refine FT (q:=aV≤aY) (i:=35) rfl (fun bI=>?_) (fun bI=>?_)
   ·have fU:=ip cJ bI;refine Bi ht rfl [4,5,6] rfl ?_;obtain⟨aM,cP,fW⟩:=bs fU;obtain⟨_,⟨_,_,rfl,rfl,⟨_,_,rfl,rfl,⟨cQ,cR,rfl,fX⟩⟩⟩,fY⟩:=WL.at (V.1.Ai aL) cP;refine BC 7 ht rfl rfl (fun ρ h s' hs=>Gu ((V.1.Ai aL)).2 cP underlying130 AP (h _ _ rfl) (h _ _ rfl)) ?_;refine D2 8 ht [iV aM.1,iV aM.2.1,sV cQ aM.2.2 cR] 0 aW fY Ch AP ?_;refine Bi ht rfl [9,10] rfl ?_;obtain⟨aN,cT,fZ⟩:=bs fW;obtain⟨_,⟨_,_,rfl,rfl,⟨_,_,rfl,rfl,⟨cV,cW,rfl,ga⟩⟩⟩,gb⟩:=WL.at (V.1.Ai aL) cT;refine BC 11 ht rfl rfl (fun ρ h s' hs=>Gu ((V.1.Ai aL)).2 cT underlying130 AP (h _ _ rfl) (h _ _ rfl)) ?_;refine D2 12 ht [iV aN.1,iV aN.2.1,sV cV aN.2.2 cW] 0 aW gb Ch AP ?_;obtain⟨gw,gc,gd⟩:=bs fZ;refine Hz (i:=13) ⟨⟨0,_,rfl⟩,trivial⟩ (vs:= [.agg #[iV aM.1,iV aM.2.1,sV cQ aM.2.2 cR],.agg #[iV aN.1,iV aN.2.1,sV cV aN.2.2 cW]]) (GW fX ga gc) (by decide+kernel) rfl rfl rfl rfl GL rfl aW ?_;rintro _ ge _ gf ⟨rfl,rfl⟩ gg;refine Bi ht rfl [14,15] rfl ?_;obtain rfl:=oi gd;refine DD ?_ (cO _ _ ⟨ge,rfl,rfl,gf,gg⟩);exact⟨rfl,rfl,rfl,rfl,rfl,rfl,trivial⟩
   ·have gh:=im cJ bI;refine Bi ht rfl [4,5,6,7,8,9,10,11,12,13,14,15] rfl ?_;obtain rfl:=oi gh;refine DD ?_ (cO _ _ ⟨cH,rfl,rfl,Aq,aW⟩);exact⟨rfl,rfl,rfl,rfl,rfl,rfl,trivial⟩
end Pal
namespace Pal
open Go Go.Conc Go.Proofs
open Go.Proofs.Tryz
variable {J:Judge Tryz.prog}{E:LH}
def LU(fuel:Nat)(p0:List Bo)(p1:Int)(p2:Int)(p3:Int)(aq:Unit):Option (Bl Unit (((List Bo))⊕(Unit))):= (Au (p2 - p1)).bind fun Z=> if Z≤12 then((f178 fuel p0 p1 p2).bind fun aa=> some (.done (Sum.inl aa))) else(if p3=0 then(none) else((f181 fuel p0 p1 p2).bind fun O=> Option.bind (if O.2=2 then((f182 fuel p0 p1 p2).bind fun ab=> (Au (p2 - 1)).bind fun ae=> (Au (O.1 - p1)).bind fun ag=> (Au (ae - ag)).bind fun ah=> some (ah,1,ab)) else(some (O.1,O.2,p0))) fun K=> Option.bind (if K.2.1=1 then((f183 fuel K.2.2 p1 p2).bind fun U=> if U.1=true then(some (Sum.inl U.2)) else(some (Sum.inr U.2))) else(some (Sum.inr K.2.2))) fun ai=>Sum.elim (fun r=>some (.done (Sum.inl r))) (fun V=> Option.bind (if 0<p1 then((Au (p1 - 1)).bind fun aj=> (ix V aj).bind fun ak=> (ix V K.1).bind fun al=> (f134 fuel ak al).bind fun am=> some (decide (¬(am<0)))) else(some false)) fun an=> if an=true then(none) else((f185 fuel V p1 p2 K.1).bind fun W=> (Au (W.1 - p1)).bind fun ao=> (Au (p2 - W.1)).bind fun ap=> (Ho Z (8)).bind fun ar=> if ao<ap then(none) else((Au (W.1+1)).bind fun au=> none))) ai))
def Ig(fuel:Nat)(p0:List Bo)(p1:Int)(p2:Int)(p3:Int):Option ((List Bo)):= Option.bind (iter (LU fuel p0 p1 p2 p3) fuel ()) fun K=> Sum.elim (fun r=>some r) (fun O=> none) K
theorem Q9{K:Nat}{O:Nat}{U:Nat}{ai:Ax}{p0:List (Bo)}{p1:Int}{p2:Int}{p3:Int}(hW:WL 133 Cn E K O U ai p0){fuel:Nat}{r:(List Bo)}(ao:Ig fuel p0 p1 p2 p3=some r):AQ J 162 [.slice (Bh K) U O,iV p1,iV p2,iV p3,(fV 134)] E [(K,.cells ai 133 (0,0))] (fun w E' B'=>∃(ap:Ax),w= .tuple #[]∧B'= [(K,.cells ap 133 (0,0))]∧WL 133 Cn E' K O U ap r):=by
 refine Bc func162 fun Q cr cs H aS aq=>?_;unfold Ig at ao;obtain⟨ct,aT,ar⟩:=bs ao;refine zg 8 rfl (Bs (fun L s=>False) ?_ ?_)
 ·intro _ _ aU;exact aU.elim
 ·intro cu;refine JL.block (CC aT (fun au=> [bX K ai 133]) (fun au=> [(0,.slice (Bh K) U O),(1,iV p1),(2,iV p2),(3,iV p3),(4,(fV 134)),(10,.bool true),(11,.bool true)]) Aq aS ?_);rintro au cv V av aw ⟨cw,aj⟩ cy;have ay:=aj;unfold LU at ay;obtain⟨ak,aV,aW⟩:=bs ay;refine zg 5 rfl (B7 aV rfl rfl rfl ?_);refine zg 8 rfl (AK aW (fun aX aY=>?_) (fun aX aZ=>?_))
  ·obtain⟨cz,a0,a1⟩:=bs aY;refine zg 6 rfl (BY 0 (R5 (hW.Ai V) a0) rfl rfl Nz av rfl ?_);rintro _ cA _ a2 ⟨f32,rfl,rfl,a3⟩ a4;refine JL.done ?_;obtain rfl:=oi a1;obtain rfl:=aw _ aj;have a5:=elim_inl ar;obtain rfl:=oi a5;exact AF func162 rfl rfl (aq (V.Ac a2) rfl ⟨f32,rfl,(by first | rfl | simp | (simp [Value.cells])),a3⟩ a4)
  ·refine zg 7 rfl (AK aZ (fun a6 a7=>?_) (fun a6 a8=>?_))
   ·refine zg 6 rfl ?_;cases a7
   ·refine zg 5 rfl (AA (v:= .bool false) rfl (fun ρ h=>Yl.not (c:=true) (h _ _ rfl)) ?_);obtain⟨cB,a9,ba⟩:=bs a8;refine zg 9 rfl (BY 0 (Sl (hW.Ai V) a9) rfl rfl (A2 func181 rfl) av rfl ?_);rintro _ az _ al ⟨rfl,rfl⟩ aA;obtain⟨W,bb,bc⟩:=bs ba;refine zg 12 rfl (Bs (fun L s=>∃(ab:LH) (f56:Ax),Jn az H ab [bX K f56 133] [(0,.slice (Bh K) U O),(1,iV p1),(2,iV p2),(3,iV p3),(4,(fV 134)),(10,.bool true),(11,.bool true),(12,iV ak),(13,iV W.1),(14,iV W.2.1)] L s (WL 133 Cn ab K O U f56 W.2.2)) ?_ ?_)
    ·rintro _ _ ⟨ab,f56,rfl,rfl,bd,aB,aC⟩;obtain⟨be,bf,aD⟩:=bs bc;refine zg 12 rfl (Bs (fun L s=>∃(am:(List Bo)) (ae:LH) (f65:Ax),be=Sum.inr am∧Jn ab H ae [bX K f65 133] [(0,.slice (Bh K) U O),(1,iV p1),(2,iV p2),(3,iV p3),(4,(fV 134)),(10,.bool true),(11,.bool true),(12,iV ak),(13,iV W.1)] L s (WL 133 Cn ae K O U f65 am)) ?_ ?_)
     ·rintro _ _ ⟨am,ae,f65,rfl,rfl,rfl,cC,ag,ah⟩;have bg:=elim_inr aD;refine zg 2 rfl (Dv 17 [K] ⟨⟨0,_,rfl⟩,trivial⟩ ag fun ht=>?_);refine Bi ht rfl [0,1,2] rfl ?_;obtain⟨bh,aE,bi⟩:=bs bg;refine FW 0 #[true,true,true,true,true,true,true,true,true,true,true,true,true,true,true,true,true] (fun L s=>∃(aF:LH),Jm ae H aF [bX K f65 133] [(0,.slice (Bh K) U O),(1,iV p1),(2,iV p2),(3,iV p3),(4,(fV 134)),(10,.bool true),(11,.bool true),(12,iV ak),(13,iV W.1),(97,.bool bh)] L s) ?_ ?_
      ·rintro _ _ ⟨aF,rfl,rfl,bj,bl⟩;refine AT.fin (by decide+kernel) (BM bi (fun bm bn=>?_) (fun bm bo=>?_))
       ·refine zg 7 rfl ?_;cases bn
       ·obtain⟨cD,bp,bq⟩:=bs bo;refine zg 8 rfl (BY 0 (Sb (ah.Ai bj) bp) rfl rfl (A2 func185 rfl) bl rfl ?_);rintro _ cE _ cF ⟨f83,rfl,rfl,cG⟩ cH;obtain⟨cI,br,bu⟩:=bs bq;refine zg 15 rfl (B7 br rfl rfl rfl ?_);obtain⟨cJ,bv,bw⟩:=bs bu;refine zg 2 rfl (B7 bv rfl rfl rfl ?_);obtain⟨bx,bz,bA⟩:=bs bw;refine zg 6 rfl (AA (v:=iV bx) rfl (fun ρ h=>Ks (h _ _ rfl) (h _ _ rfl) bz) ?_);refine zg 8 rfl (AK bA (fun bB bC=>?_) (fun bB bD=>?_))
        ·refine zg 14 rfl ?_;cases bC
        ·obtain⟨cK,bE,bF⟩:=bs bD;refine zg 11 rfl (Ba bE rfl rfl rfl ?_);refine zg 3 rfl ?_;cases bF
      ·intro aG;refine FT (q:=0<p1) (i:=83) rfl (fun an=>?_) (fun an=>?_)
       ·have bG:=ip aE an;refine Bi ht rfl [3,4,5] rfl ?_;obtain⟨cM,bH,bI⟩:=bs bG;refine BC 6 ht rfl rfl (fun ρ h s' hs=>C8 (h _ _ rfl) (h _ _ rfl) bH) ?_;obtain⟨Z,aH,bJ⟩:=bs bI;obtain⟨_,⟨_,_,rfl,rfl,⟨_,_,rfl,rfl,⟨aI,aJ,rfl,bK⟩⟩⟩,bL⟩:=WL.at ah aH;refine F0 7 ht (ah).2 aH underlying130 AP ?_;refine D2 8 ht [iV Z.1,iV Z.2.1,sV aI Z.2.2 aJ] 0 ag bL Ch AP ?_;refine Bi ht rfl [9,10] rfl ?_;obtain⟨aa,aK,bM⟩:=bs bJ;obtain⟨_,⟨_,_,rfl,rfl,⟨_,_,rfl,rfl,⟨aL,aM,rfl,bN⟩⟩⟩,bO⟩:=WL.at ah aK;refine F0 11 ht (ah).2 aK underlying130 AP ?_;refine D2 12 ht [iV aa.1,iV aa.2.1,sV aL aa.2.2 aM] 0 ag bO Ch AP ?_;obtain⟨bP,bQ,bR⟩:=bs bM;refine Hz (i:=13) ⟨⟨0,_,rfl⟩,trivial⟩ (vs:= [.agg #[iV Z.1,iV Z.2.1,sV aI Z.2.2 aJ],.agg #[iV aa.1,iV aa.2.1,sV aL aa.2.2 aM]]) (GW bK bN bQ) (by decide+kernel) rfl rfl rfl rfl GL rfl ag ?_;rintro _ bS _ bT ⟨rfl,rfl⟩ bU;refine Cv 14 ht rfl rfl ?_;refine BC (v:= .bool (decide (¬(bP<0)))) 15 ht rfl rfl (fun ρ h s' hs=>IE (h _ _ rfl)) ?_;refine Cv 16 ht rfl rfl ?_;obtain rfl:=oi bR;refine DD ?_ (aG _ _ ⟨bS,rfl,rfl,bT,bU⟩);exact⟨rfl,rfl,rfl,rfl,rfl,rfl,rfl,rfl,rfl,rfl,trivial⟩
       ·have bV:=im aE an;refine Bi ht rfl [3,4,5,6,7,8,9,10,11,12,13,14,15,16] rfl ?_;obtain rfl:=oi bV;refine DD ?_ (aG _ _ ⟨ae,rfl,rfl,Aq,ag⟩);exact⟨rfl,rfl,rfl,rfl,rfl,rfl,rfl,rfl,rfl,rfl,trivial⟩
     ·intro aN;refine AK bf (fun bW bY=>?_) (fun bW bZ=>?_)
      ·obtain⟨b0,b1,b2⟩:=bs bY;refine zg 6 rfl (BY 0 (RZ aC b1) rfl rfl (A2 func183 rfl) aB rfl ?_);rintro _ b3 _ aO ⟨f133,rfl,rfl,aP⟩ aQ;refine JL.done (BM b2 (fun b4 b5=>?_) (fun b4 b6=>?_))
       ·obtain rfl:=oi b5;have b7:=elim_inl aD;obtain rfl:=oi b7;obtain rfl:=aw _ aj;have b8:=elim_inl ar;obtain rfl:=oi b8;exact AF func162 rfl rfl (aq (((V.Ac al).Ac bd).Ac aO) rfl ⟨f133,rfl,(by first | rfl | simp | (simp [Value.cells])),aP⟩ aQ)
       ·exact JL.skip (Ay (aN _ _ ⟨b0.2,b3,f133,(Option.some.inj b6).symm,rfl,rfl,aO,aQ,aP⟩) rfl)
      ·exact JL.skip (Ay (aN _ _ ⟨W.2.2,ab,f56,(Option.some.inj bZ).symm,rfl,rfl,Aq,aB,aC⟩) rfl)
    ·intro aR;refine AK bb (fun b9 ca=>?_) (fun b9 cb=>?_)
     ·obtain⟨cN,cc,cd⟩:=bs ca;refine zg 6 rfl (BY 0 (RO (hW.Ai (V.Ac al)) cc) rfl rfl (A2 func182 rfl) aA rfl ?_);rintro _ ce _ cf ⟨f156,rfl,rfl,cg⟩ ci;obtain⟨cO,ck,cm⟩:=bs cd;refine zg 4 rfl (B7 ck rfl rfl rfl ?_);obtain⟨cP,cn,co⟩:=bs cm;refine zg 2 rfl (B7 cn rfl rfl rfl ?_);obtain⟨cQ,cp,cq⟩:=bs co;refine B7 cp rfl rfl rfl (zg 5 rfl ?_);obtain rfl:=oi cq;exact Ay (aR _ _ ⟨ce,f156,rfl,rfl,cf,ci,cg⟩) rfl
     ·refine JL.skip ?_;obtain rfl:=oi cb;exact Ay (aR _ _ ⟨az,ai,rfl,rfl,Aq,aA,(hW.Ai (V.Ac al))⟩) rfl
def He(fuel:Nat)(p3:Int)(K:Int×Int×Bool×Bool×(List Bo)):Option (Bl (Int×Int×Bool×Bool×(List Bo)) (((List Bo))⊕(Unit))):= Option.bind ((Au (K.2.1 - K.1)).bind fun ab=> if ab≤12 then((f178 fuel K.2.2.2.2 K.1 K.2.1).bind fun ai=> some (Sum.inl ai)) else(if p3=0 then(none) else(Option.bind (if(!K.2.2.1)=true then(none) else(some ())) fun aE=> (f181 fuel K.2.2.2.2 K.1 K.2.1).bind fun V=> Option.bind (if V.2=2 then((f182 fuel K.2.2.2.2 K.1 K.2.1).bind fun aj=> (Au (K.2.1 - 1)).bind fun ak=> (Au (V.1 - K.1)).bind fun al=> (Au (ak - al)).bind fun am=> some (am,1,aj)) else(some (V.1,V.2,K.2.2.2.2))) fun U=> Option.bind (if K.2.2.1=true then(some K.2.2.2.1) else(some false)) fun an=> Option.bind (if an=true then(some (decide (U.2.1=1))) else(some false)) fun ao=> Option.bind (if ao=true then((f183 fuel U.2.2 K.1 K.2.1).bind fun Z=> if Z.1=true then(some (Sum.inl Z.2)) else(some (Sum.inr Z.2))) else(some (Sum.inr U.2.2))) fun ap=>Sum.elim (fun r=>some (Sum.inl r)) (fun aa=> Option.bind (if 0<K.1 then((Au (K.1 - 1)).bind fun aq=> (ix aa aq).bind fun ar=> (ix aa U.1).bind fun au=> (f134 fuel ar au).bind fun av=> some (decide (¬(av<0)))) else(some false)) fun aw=> if aw=true then(none) else((f185 fuel aa K.1 K.2.1 U.1).bind fun O=> (Au (O.1 - K.1)).bind fun ae=> (Au (K.2.1 - O.1)).bind fun ag=> (Ho ab (8)).bind fun ah=> Option.bind (if ae<ag then((Ig fuel O.2.2 K.1 O.1 p3).bind fun ay=> (Au (O.1+1)).bind fun az=> some (az,K.2.1,decide (ah≤ae),ay)) else((Au (O.1+1)).bind fun aA=> (Ig fuel O.2.2 aA K.2.1 p3).bind fun aB=> some (K.1,O.1,decide (ah≤ag),aB))) fun W=> some (Sum.inr (W.1,W.2.1,W.2.2.1,O.2.1,W.2.2.2)))) ap))) fun aC=>Sum.elim (fun r=>some (.done (Sum.inl r))) (fun aD=> some (.more aD)) aC
def f162(fuel:Nat)(p0:List Bo)(p1:Int)(p2:Int)(p3:Int):Option ((List Bo)):= Option.bind (iter (He fuel p3) fuel (p1,p2,true,true,p0)) fun K=> Sum.elim (fun r=>some r) (fun O=> none) K
theorem W3{O:Nat}{U:Nat}{V:Nat}{aw:Ax}{p0:List (Bo)}{p1:Int}{p2:Int}{p3:Int}(hW:WL 133 Cn E O U V aw p0){fuel:Nat}{r:(List Bo)}(aE:f162 fuel p0 p1 p2 p3=some r):AQ J 162 [.slice (Bh O) V U,iV p1,iV p2,iV p3,(fV 134)] E [(O,.cells aw 133 (0,0))] (fun w E' B'=>∃(aF:Ax),w= .tuple #[]∧B'= [(O,.cells aF 133 (0,0))]∧WL 133 Cn E' O U V aF r):=by
 refine Bc func162 fun Q dI cs H be aG=>?_;unfold f162 at aE;obtain⟨dJ,bf,aH⟩:=bs aE;refine zg 8 rfl (Bs (fun L s=>False) ?_ ?_)
 ·intro _ _ bg;exact bg.elim
 ·intro dK;refine JL.block (CG bf (fun L s K=>∃(al:LH) (f22:Ax),Jn E H al [bX O f22 133] [(0,.slice (Bh O) V U),(1,iV K.1),(2,iV K.2.1),(3,iV p3),(4,(fV 134)),(10,.bool K.2.2.1),(11,.bool K.2.2.2.1)] L s (WL 133 Cn al O U V f22 K.2.2.2.2)) ⟨E,aw,rfl,rfl,Aq,be,hW⟩ ?_);rintro _ _ K ⟨al,f22,rfl,rfl,ay,aI,am⟩ aJ ⟨dL,an⟩ bh;have aK:=an;unfold He at aK;obtain⟨bi,bj,az⟩:=bs aK;refine Bs (fun L s=>∃(Z:Int×Int×Bool×Bool×(List Bo)) (ao:LH) (f36:Ax),bi=Sum.inr Z∧Jn al H ao [bX O f36 133] [(0,.slice (Bh O) V U),(1,iV Z.1),(2,iV Z.2.1),(3,iV p3),(4,(fV 134)),(10,.bool Z.2.2.1),(11,.bool Z.2.2.2.1)] L s (WL 133 Cn ao O U V f36 Z.2.2.2.2)) ?_ ?_
  ·rintro _ _ ⟨Z,ao,f36,rfl,rfl,rfl,bl,bm,bn⟩;have bo:=elim_inr az;obtain rfl:=oi bo;exact Ay (bh _ _ Z ⟨ao,f36,rfl,rfl,(ay.Ac bl),bm,bn⟩ an) rfl
  ·intro bp;obtain⟨ab,bq,br⟩:=bs bj;refine zg 5 rfl (B7 bq rfl rfl rfl ?_);refine zg 8 rfl (AK br (fun bu bv=>?_) (fun bu bw=>?_))
   ·obtain⟨dM,bx,bz⟩:=bs bv;refine zg 6 rfl (BY 0 (R5 am bx) rfl rfl Nz aI rfl ?_);rintro _ dN _ bA ⟨f52,rfl,rfl,bB⟩ bC;refine JL.done ?_;obtain rfl:=oi bz;have bD:=elim_inl az;obtain rfl:=oi bD;obtain rfl:=aJ _ an;have bE:=elim_inl aH;obtain rfl:=oi bE;exact AF func162 rfl rfl (aG (ay.Ac bA) rfl ⟨f52,rfl,(by first | rfl | simp | (simp [Value.cells])),bB⟩ bC)
   ·refine zg 7 rfl (AK bw (fun bF bG=>?_) (fun bF bH=>?_))
    ·refine zg 6 rfl ?_;cases bG
    ·refine zg 5 rfl (AA (v:= .bool (!K.2.2.1)) rfl (fun ρ h=>Yl.not (h _ _ rfl)) ?_);obtain⟨dO,bI,bJ⟩:=bs bH;refine JL.done (Cu [bX O f22 133] [(0,.slice (Bh O) V U),(1,iV K.1),(2,iV K.2.1),(3,iV p3),(4,(fV 134)),(10,.bool K.2.2.1),(11,.bool K.2.2.2.1),(12,iV ab)] (fun dP ah bK=>?_) (fun bL=>?_))
     ·obtain⟨dQ,bM,bN⟩:=bs bJ;refine zg 6 rfl (BY 0 (Sl (am.Ai ah) bM) rfl rfl (A2 func181 rfl) bK rfl ?_);rintro _ aL _ ap ⟨rfl,rfl⟩ aM;obtain⟨W,bO,bP⟩:=bs bN;refine zg 12 rfl (Bs (fun L s=>∃(aA:LH) (f84:Ax),Jn aL H aA [bX O f84 133] [(0,.slice (Bh O) V U),(1,iV K.1),(2,iV K.2.1),(3,iV p3),(4,(fV 134)),(10,.bool K.2.2.1),(11,.bool K.2.2.2.1),(12,iV ab),(13,iV W.1),(14,iV W.2.1)] L s (WL 133 Cn aA O U V f84 W.2.2)) ?_ ?_)
      ·rintro _ _ ⟨aA,f84,rfl,rfl,aN,aO,aP⟩;obtain⟨bQ,bR,bS⟩:=bs bP;refine zg 5 rfl (CV 4 4 [bX O f84 133] [(0,.slice (Bh O) V U),(1,iV K.1),(2,iV K.2.1),(3,iV p3),(4,(fV 134)),(10,.bool K.2.2.1),(11,.bool K.2.2.2.1),(12,iV ab),(13,iV W.1),(14,iV W.2.1),(71,.bool bQ)] (fun aB aq aQ=>?_) (fun aR=>?_))
       ·obtain⟨bT,bU,bV⟩:=bs bS;refine zg 1 rfl (Gb [] (fun L s=>∃(ar:LH),Jm aB H ar [bX O f84 133] [(0,.slice (Bh O) V U),(1,iV K.1),(2,iV K.2.1),(3,iV p3),(4,(fV 134)),(10,.bool K.2.2.1),(11,.bool K.2.2.2.1),(12,iV ab),(13,iV W.1),(75,.bool bT)] L s) ?_ ?_)
        ·rintro _ _ ⟨ar,rfl,rfl,au,aS⟩;obtain⟨bW,bY,aT⟩:=bs bV;refine JL.done (Bs (fun L s=>∃(aC:(List Bo)) (ai:LH) (f105:Ax),bW=Sum.inr aC∧Jn ar H ai [bX O f105 133] [(0,.slice (Bh O) V U),(1,iV K.1),(2,iV K.2.1),(3,iV p3),(4,(fV 134)),(10,.bool K.2.2.1),(11,.bool K.2.2.2.1),(12,iV ab),(13,iV W.1)] L s (WL 133 Cn ai O U V f105 aC)) ?_ ?_)
         ·rintro _ _ ⟨aC,ai,f105,rfl,rfl,rfl,bZ,aj,ak⟩;have b0:=elim_inr aT;refine zg 2 rfl (Dv 17 [O] ⟨⟨0,_,rfl⟩,trivial⟩ aj fun ht=>?_);refine Bi ht rfl [0,1,2] rfl ?_;obtain⟨b1,aU,b2⟩:=bs b0;refine FW 0 #[true,true,true,true,true,true,true,true,true,true,true,true,true,true,true,true,true] (fun L s=>∃(aV:LH),Jm ai H aV [bX O f105 133] [(0,.slice (Bh O) V U),(1,iV K.1),(2,iV K.2.1),(3,iV p3),(4,(fV 134)),(10,.bool K.2.2.1),(11,.bool K.2.2.2.1),(12,iV ab),(13,iV W.1),(97,.bool b1)] L s) ?_ ?_
          ·rintro _ _ ⟨aV,rfl,rfl,aW,b3⟩;refine AT.fin (by decide+kernel) (BM b2 (fun b4 b5=>?_) (fun b4 b6=>?_))
           ·refine zg 7 rfl ?_;cases b5
           ·obtain⟨aX,b7,b8⟩:=bs b6;refine zg 8 rfl (BY 0 (Sb (ak.Ai aW) b7) rfl rfl (A2 func185 rfl) b3 rfl ?_);rintro _ b9 _ ca ⟨f123,rfl,rfl,aY⟩ aZ;obtain⟨dR,cb,cc⟩:=bs b8;refine zg 15 rfl (B7 cb rfl rfl rfl ?_);obtain⟨dS,cd,ce⟩:=bs cc;refine zg 2 rfl (B7 cd rfl rfl rfl ?_);obtain⟨cf,cg,ci⟩:=bs ce;refine zg 6 rfl (AA (v:=iV cf) rfl (fun ρ h=>Ks (h _ _ rfl) (h _ _ rfl) cg) ?_);obtain⟨aa,ck,cm⟩:=bs ci;refine zg 8 rfl (Bs (fun L s=>∃(av:LH) (f138:Ax),Jn b9 H av [bX O f138 133] [(0,.slice (Bh O) V U),(1,iV aa.1),(2,iV aa.2.1),(3,iV p3),(4,(fV 134)),(10,.bool aa.2.2.1),(11,.bool aX.2.1)] L s (WL 133 Cn av O U V f138 aa.2.2.2)) ?_ ?_)
            ·rintro _ _ ⟨av,f138,rfl,rfl,cn,co,cp⟩;exact PC (Ay (bp _ _ ⟨(aa.1,aa.2.1,aa.2.2.1,aX.2.1,aa.2.2.2),av,f138,(Option.some.inj cm).symm,rfl,rfl,((((((((ah.Ac ap).Ac aN).Ac aq).Ac au).Ac bZ).Ac aW).Ac ca).Ac cn),co,cp⟩) rfl)
            ·intro a0;refine AK ck (fun cq cr=>?_) (fun cq ct=>?_)
             ·obtain⟨dT,cu,cv⟩:=bs cr;refine zg 14 rfl (BY 0 (Q9 aY cu) rfl rfl Lx aZ rfl ?_);rintro _ cw _ cy ⟨f150,rfl,rfl,cz⟩ cA;obtain⟨dU,cB,cC⟩:=bs cv;refine zg 3 rfl (Ba cB rfl rfl rfl ?_);refine zg 2 rfl ?_;obtain rfl:=oi cC;exact Ay (a0 _ _ ⟨cw,f150,rfl,rfl,cy,cA,cz⟩) rfl
             ·obtain⟨dV,cD,cE⟩:=bs ct;refine zg 11 rfl (Ba cD rfl rfl rfl ?_);obtain⟨dW,cF,cG⟩:=bs cE;refine zg 3 rfl (BY 0 (Q9 aY cF) rfl rfl Lx aZ rfl ?_);rintro _ cH _ cI ⟨f165,rfl,rfl,cJ⟩ cK;refine zg 5 rfl ?_;obtain rfl:=oi cG;exact Ay (a0 _ _ ⟨cH,f165,rfl,rfl,cI,cK,cJ⟩) rfl
          ·intro a1;refine FT (q:=0<K.1) (i:=83) rfl (fun aD=>?_) (fun aD=>?_)
           ·have cM:=ip aU aD;refine Bi ht rfl [3,4,5] rfl ?_;obtain⟨dX,cN,cO⟩:=bs cM;refine BC 6 ht rfl rfl (fun ρ h s' hs=>C8 (h _ _ rfl) (h _ _ rfl) cN) ?_;obtain⟨ae,a2,cP⟩:=bs cO;obtain⟨_,⟨_,_,rfl,rfl,⟨_,_,rfl,rfl,⟨a3,a4,rfl,cQ⟩⟩⟩,cR⟩:=WL.at ak a2;refine F0 7 ht (ak).2 a2 underlying130 AP ?_;refine D2 8 ht [iV ae.1,iV ae.2.1,sV a3 ae.2.2 a4] 0 aj cR Ch AP ?_;refine Bi ht rfl [9,10] rfl ?_;obtain⟨ag,a5,cT⟩:=bs cP;obtain⟨_,⟨_,_,rfl,rfl,⟨_,_,rfl,rfl,⟨a6,a7,rfl,cV⟩⟩⟩,cW⟩:=WL.at ak a5;refine F0 11 ht (ak).2 a5 underlying130 AP ?_;refine D2 12 ht [iV ag.1,iV ag.2.1,sV a6 ag.2.2 a7] 0 aj cW Ch AP ?_;obtain⟨cX,cY,cZ⟩:=bs cT;refine Hz (i:=13) ⟨⟨0,_,rfl⟩,trivial⟩ (vs:= [.agg #[iV ae.1,iV ae.2.1,sV a3 ae.2.2 a4],.agg #[iV ag.1,iV ag.2.1,sV a6 ag.2.2 a7]]) (GW cQ cV cY) (by decide+kernel) rfl rfl rfl rfl GL rfl aj ?_;rintro _ c0 _ c1 ⟨rfl,rfl⟩ c2;refine Cv 14 ht rfl rfl ?_;refine BC (v:= .bool (decide (¬(cX<0)))) 15 ht rfl rfl (fun ρ h s' hs=>IE (h _ _ rfl)) ?_;refine Cv 16 ht rfl rfl ?_;obtain rfl:=oi cZ;refine DD ?_ (a1 _ _ ⟨c0,rfl,rfl,c1,c2⟩);exact⟨rfl,rfl,rfl,rfl,rfl,rfl,rfl,rfl,rfl,rfl,trivial⟩
           ·have c3:=im aU aD;refine Bi ht rfl [3,4,5,6,7,8,9,10,11,12,13,14,15,16] rfl ?_;obtain rfl:=oi c3;refine DD ?_ (a1 _ _ ⟨ai,rfl,rfl,Aq,aj⟩);exact⟨rfl,rfl,rfl,rfl,rfl,rfl,rfl,rfl,rfl,rfl,trivial⟩
         ·intro a8;refine BM bY (fun c4 c5=>?_) (fun c4 c6=>?_)
          ·obtain⟨c7,c8,c9⟩:=bs c5;refine zg 6 rfl (BY 0 (RZ (aP.Ai (aq.Ac au)) c8) rfl rfl (A2 func183 rfl) aS rfl ?_);rintro _ da _ a9 ⟨f205,rfl,rfl,ba⟩ bb;refine JL.done (BM c9 (fun db dc=>?_) (fun db dd=>?_))
           ·obtain rfl:=oi dc;have de:=elim_inl aT;obtain rfl:=oi de;have df:=elim_inl az;obtain rfl:=oi df;obtain rfl:=aJ _ an;have dg:=elim_inl aH;obtain rfl:=oi dg;exact AF func162 rfl rfl (aG ((((((ay.Ac ah).Ac ap).Ac aN).Ac aq).Ac au).Ac a9) rfl ⟨f205,rfl,(by first | rfl | simp | (simp [Value.cells])),ba⟩ bb)
           ·exact JL.skip (Ay (a8 _ _ ⟨c7.2,da,f205,(Option.some.inj dd).symm,rfl,rfl,a9,bb,ba⟩) rfl)
          ·exact JL.skip (Ay (a8 _ _ ⟨W.2.2,ar,f84,(Option.some.inj c6).symm,rfl,rfl,Aq,aS,(aP.Ai (aq.Ac au))⟩) rfl)
        ·intro bc;refine Dj 72 bU (fun dh di=>?_) (fun dh dj=>?_)
         ·refine zg 3 rfl ?_;obtain rfl:=oi di;exact Ay (bc _ _ ⟨aB,rfl,rfl,Aq,aQ⟩) rfl
         ·refine zg 3 rfl ?_;obtain rfl:=oi dj;exact Ay (bc _ _ ⟨aB,rfl,rfl,Aq,aQ⟩) rfl
       ·refine Dj 69 bR (fun dk dl=>?_) (fun dk dm=>?_)
        ·refine zg 2 rfl ?_;obtain rfl:=oi dl;exact aR Aq aO rfl
        ·refine zg 2 rfl ?_;obtain rfl:=oi dm;exact aR Aq aO rfl
      ·intro bd;refine AK bO (fun dn dp=>?_) (fun dn dq=>?_)
       ·obtain⟨dY,dr,dt⟩:=bs dp;refine zg 6 rfl (BY 0 (RO (am.Ai (ah.Ac ap)) dr) rfl rfl (A2 func182 rfl) aM rfl ?_);rintro _ du _ dv ⟨dw,rfl,rfl,dx⟩ dy;obtain⟨dZ,dz,dA⟩:=bs dt;refine zg 4 rfl (B7 dz rfl rfl rfl ?_);obtain⟨ea,dB,dC⟩:=bs dA;refine zg 2 rfl (B7 dB rfl rfl rfl ?_);obtain⟨eb,dD,dE⟩:=bs dC;refine B7 dD rfl rfl rfl (zg 5 rfl ?_);obtain rfl:=oi dE;exact Ay (bd _ _ ⟨du,dw,rfl,rfl,dv,dy,dx⟩) rfl
       ·refine JL.skip ?_;obtain rfl:=oi dq;exact Ay (bd _ _ ⟨aL,f22,rfl,rfl,Aq,aM,(am.Ai (ah.Ac ap))⟩) rfl
     ·refine BM bI (fun dF dG=>?_) (fun dF dH=>?_)
      ·refine zg 6 rfl ?_;cases dG
      ·refine JL.skip ?_;obtain rfl:=oi dH;exact bL Aq aI rfl
def f133(fuel:Nat)(p0:List Bo):Option ((List Bo)):= (f163 fuel (Da (p0.length:Int))).bind fun K=> (f162 fuel p0 0 (p0.length:Int) K).bind fun O=> some O
theorem Xn{K:Nat}{O:Nat}{U:Nat}{V:Ax}{p0:List (Bo)}(hW:WL 133 Cn E K O U V p0){fuel:Nat}{r:(List Bo)}(W:f133 fuel p0=some r):AQ J 133 [.slice (Bh K) U O,(fV 134)] E [(K,.cells V 133 (0,0))] (fun w E' B'=>∃(Z:Ax),w= .tuple #[]∧B'= [(K,.cells Z 133 (0,0))]∧WL 133 Cn E' K O U Z r):=by
 refine Bc func133 fun Q ao cs H ab ae=>?_;unfold f133 at W;refine zg 3 rfl (AA (v:=iV (p0.length:Int)) rfl (fun ρ h=>Rm (hW).2 rfl underlying130 (h _ _ rfl)) ?_);refine zg 6 rfl (AA (v:= .int .u64 ((Da (p0.length:Int):Nat):Int)) rfl (fun ρ h=>Yl.Da underlying3 underlying156 (h _ _ rfl)) ?_);obtain⟨ap,ag,ah⟩:=bs W;refine BH (RN ag) rfl rfl (A2 func163 rfl) ab fun aq aa ai=>?_;obtain⟨ar,aj,ak⟩:=bs ah;refine zg 1 rfl (BY 0 (W3 (hW.Ai aa) aj) rfl rfl Lx ai rfl ?_);rintro _ au _ al ⟨f12,rfl,rfl,am⟩ an;refine JL.done ?_;obtain rfl:=oi ak;exact JL.fin (v:= .tuple #[]) rfl rfl (B9.list func133 rfl (vs:= []) trivial) (ae (aa.Ac al) rfl ⟨f12,rfl,(by first | rfl | simp | (simp [Value.cells])),am⟩ an)
end Pal
namespace Pal
def AY{α:Type}(o:Option α)(Q:α→Prop):Prop:=∃a,o=some a∧Q a
section
variable {α β:Type}{Q R:α→Prop}
theorem Am{a:α}(h:Q a):AY (some a) Q:=⟨a,rfl,h⟩
theorem AY.Ai{o:Option α}(h:AY o R)(k:∀a,R a→Q a):AY o Q:=let ⟨a,K,O⟩:=h;⟨a,K,k a O⟩
theorem AY.of_eq{o:Option α}{a:α}(h:o=some a)(k:Q a):AY o Q:=⟨a,h,k⟩
theorem AI{o:Option β}{f:β→Option α}{S:β→Prop}(h:AY o S)(k:∀b,S b→AY (f b) Q):AY (o.bind f) Q:=by
 obtain⟨b,rfl,hb⟩:=h;obtain⟨a,K,O⟩:=k b hb;exact⟨a,K,O⟩
theorem AM{o:Option β}{f:β→Option α}{b:β}(h:o=some b)(k:AY (f b) Q):AY (o.bind f) Q:=by subst h;exact k
theorem AY.Y1{f:Int→Option α}{x:Int}(K: -9223372036854775808≤x)(O:x≤9223372036854775807)(k:AY (f x) Q):AY ((Au x).bind f) Q:=AM (if_pos ⟨K,O⟩) k
theorem Dk{xs:List β}{i:Int}{m:Nat}{b:β}(h:i=(m:Int))(hb:xs[m]? =some b):ix xs i=some b:=by subst h;simpa [ix] using hb
theorem Bu{f:β→Option α}{xs:List β}{i:Int}{m:Nat}(h:i=(m:Int))(hm:m<xs.length)(k:AY (f xs[m]) Q):AY ((ix xs i).bind f) Q:=AM (Dk h (List.getElem?_eq_getElem hm)) k
theorem Iv{f:List β→Option α}{xs:List β}{x:β}(h:xs.length+1≤2 ^ 40)(k:AY (f (xs++ [x])) Q):AY ((room xs x).bind f) Q:=AM (if_pos h) k
theorem By{c:Prop} [Decidable c] {x y:Option α}(K:c→AY x Q)(O:¬c→AY y Q):AY (if c then x else y) Q:=by
 by_cases h:c
 ·rw [if_pos h];exact K h
 ·rw [if_neg h];exact O h
theorem BD{c:Prop} [Decidable c] {x y:Option α}(h:c)(k:AY x Q):AY (if c then x else y) Q:=by rw [if_pos h];exact k
theorem Bj{c:Prop} [Decidable c] {x y:Option α}(h:¬c)(k:AY y Q):AY (if c then x else y) Q:=by rw [if_neg h];exact k
def Bl.sat{S A:Type}(I:S→Prop)(Q:A→Prop):Bl S A→Prop
 | .more s=>I s
 | .done a=>Q a
theorem Og{S:Type}{body:S→Option (Bl S α)}(I:Nat→S→Prop)(round:∀m s,I m s→AY (body s) (Bl.sat (fun s'=>∃m',m'<m∧I m' s') Q)):
  ∀{m fuel:Nat} {s:S},I m s→m<fuel→AY (iter body fuel s) Q:=by
 intro m
 induction m using Nat.strongRecOn with
 | _ m O=>
  intro fuel s U aa;obtain⟨fuel,rfl⟩:∃k,fuel=k+1:=⟨fuel - 1,by omega⟩;obtain⟨st,V,K⟩:=round m s U;unfold Pal.iter;rw [V];cases st with
  | more s'=>
   obtain⟨m',W,Z⟩:=K;exact O m' W Z (by omega)
  | done a=>exact⟨a,rfl,K⟩
end
end Pal
namespace Pal
open Go.Sort
abbrev PT:=Int×Int×(List (Int×(List Int)×Nat))
def AN(x y:PT):Bool:=decide (x.1<y.1)
theorem Mc:SWO AN:=⟨fun x=>by simp [AN],fun x y z K O=>by simp [AN] at*;omega,fun x y z K O=>by simp [AN] at*;omega⟩
def KO(xs:List PT):Prop:=∀x∈xs,0≤x.1∧x.1≤1000
theorem Kp{fuel:Nat}{x y:PT}(K:0≤x.1∧x.1≤1000)(O:0≤y.1∧y.1≤1000):f134 fuel x y=some (x.1 - y.1):=by
 unfold f134;rw [show Au (x.1 - y.1)=some (x.1 - y.1) from if_pos (by omega)];rfl
theorem Jh(x y:PT):decide (x.1 - y.1<0)=AN x y:=by unfold AN;congr 1;apply propext;omega
theorem KO.get{xs:List PT}(h:KO xs){i:Nat}(hi:i<xs.length):0≤xs[i].1∧xs[i].1≤1000:=h _ (List.getElem_mem hi)
theorem KO.set{xs:List PT}(h:KO xs){i:Nat}{x:PT}(K:0≤x.1∧x.1≤1000):KO (xs.set i x):=fun y O=>by
 rcases List.mem_or_eq_of_mem_set O with q | q
 ·exact h y q
 ·subst q;exact K
theorem Iz{xs:List PT}{i j:Nat}(hi:i<xs.length)(K:j<xs.length):((xs.set i xs[j]).set j xs[i]).toArray=swp xs.toArray i j:=by
 unfold swp;rw [show xs.toArray[j]! =xs[j] by simp [getElem!_pos,K],show xs.toArray[i]! =xs[i] by simp [getElem!_pos,hi]];simp
theorem Gt{xs:List PT}{i:Nat}(hi:i<xs.length):xs.toArray[i]! =xs[i]:=by simp [getElem!_pos,hi]
section
variable {α:Type}{Q:α→Prop}
theorem AV{f:Int→Option α}{x:Int}(y:Int)(h:x=y)(K: -9223372036854775808≤y)(O:y≤9223372036854775807)(k:AY (f y) Q):AY ((Au x).bind f) Q:=by subst h;exact AY.Y1 K O k
end
theorem V3{F:Nat}(a:Nat):∀(j fuel:Nat) (xs:List PT),j<fuel→j<xs.length→xs.length<1000→KO xs→
  AY (iter (Jk F (a:Int)) fuel ((j:Int),xs)) (fun ys=>ys.toArray=insInner AN a j xs.toArray∧KO ys∧ys.length=xs.length):=by
 intro j
 induction j with
 | zero=>
  intro fuel xs ab U Z K;obtain⟨fuel,rfl⟩:∃k,fuel=k+1:=⟨fuel - 1,by omega⟩;refine⟨xs,?_,rfl,K,rfl⟩;have ae:¬((a:Int)<0):=by omega
  simp [iter,Jk,ae]
 | succ j ag=>
  intro fuel xs ab U Z K;obtain⟨fuel,rfl⟩:∃k,fuel=k+1:=⟨fuel - 1,by omega⟩;have O:j<xs.length:=by omega
  have ah:AY (Jk F (a:Int) (((j+1:Nat):Int),xs)) (fun st=>st=if(decide (j+1>a)&&AN xs[j+1] xs[j])=true then .more ((j:Int),(xs.set (j+1) xs[j]).set j xs[j+1]) else .done xs):=by
   unfold Jk;refine AI (S:=fun c=>c=(decide (j+1>a)&&AN xs[j+1] xs[j])) ?_ ?_
   ·refine By (fun h=>?_) (fun h=>?_)
    ·have W:a<j+1:=by simp at h;omega
     refine Bu (m:=j+1) rfl U (AV (j:Int) (by simp) (by omega) (by omega) ?_);refine Bu (m:=j) rfl O (AM (Kp (K.get U) (K.get O)) ?_);refine Am ?_;rw [Jh];simp [W]
    ·have W:¬a<j+1:=by simp at h;omega
     refine Am ?_;simp [W]
   ·rintro c rfl;refine By (fun h=>?_) (fun h=>?_)
    ·refine AV (j:Int) (by simp) (by omega) (by omega) (AV (j:Int) (by simp) (by omega) (by omega) ?_);refine Bu (m:=j) rfl O (Bu (m:=j+1) rfl U ?_);refine AM (b:=(xs.set (j+1) xs[j])[j]'(by simpa using O)) (Dk rfl (List.getElem?_eq_getElem _)) ?_;refine AV (j:Int) (by simp) (by omega) (by omega) (Am ?_);rw [if_pos h];simp
    ·refine Am ?_;rw [if_neg h]
  obtain⟨st,ai,rfl⟩:=ah;unfold iter;rw [ai];have V:insInner AN a (j+1) xs.toArray=if(decide (j+1>a)&&AN xs[j+1] xs[j])=true then insInner AN a j (swp xs.toArray (j+1) j) else xs.toArray:=by
   rw [insInner,Gt U,Gt O]
  by_cases aa:(decide (j+1>a)&&AN xs[j+1] xs[j])=true
  ·rw [if_pos aa] at V ⊢;have aj:KO ((xs.set (j+1) xs[j]).set j xs[j+1]):=(K.set (K.get O)).set (K.get U);refine(ag fuel ((xs.set (j+1) xs[j]).set j xs[j+1]) (by omega) (by simpa using O) (by simpa using Z) aj).Ai ?_;rintro ys ⟨ak,al,am⟩;refine⟨?_,al,by simpa using am⟩;rw [ak,Iz U O,V]
  ·rw [if_neg aa] at V ⊢;exact⟨xs,rfl,V.symm,K,rfl⟩
theorem U1{F:Nat}(a b:Nat)(ah:2000<F):∀(m i fuel:Nat) (xs:List PT),b - i=m→m<fuel→b≤xs.length→xs.length<1000→KO xs→
  AY (iter (IF F (a:Int) (b:Int)) fuel ((i:Int),xs)) (fun ys=>ys.toArray=insOuter AN a b i xs.toArray∧KO ys∧ys.length=xs.length):=by
 intro m
 induction m with
 | zero=>
  intro i fuel xs hm W hb V O;obtain⟨fuel,rfl⟩:∃k,fuel=k+1:=⟨fuel - 1,by omega⟩;have U:¬i<b:=by omega
  have K:AY (IF F (a:Int) (b:Int) ((i:Int),xs)) (fun st=>st= .done xs):=by
   unfold IF;exact Bj (show ¬(i:Int)<(b:Int) by omega) (Am rfl)
  obtain⟨st,K,rfl⟩:=K;unfold iter;rw [K];refine⟨xs,rfl,?_,O,rfl⟩;rw [insOuter,if_neg U]
 | succ m Z=>
  intro i fuel xs hm W hb V O;obtain⟨fuel,rfl⟩:∃k,fuel=k+1:=⟨fuel - 1,by omega⟩;have U:i<b:=by omega
  obtain⟨ys,aa,ab,ae,ai⟩:=V3 (F:=F) a i F xs (by omega) (by omega) V O;have K:AY (IF F (a:Int) (b:Int) ((i:Int),xs)) (fun st=>st= .more (((i+1:Nat):Int),ys)):=by
   unfold IF;refine BD (show(i:Int)<(b:Int) by omega) (AM aa ?_);exact AV ((i+1:Nat):Int) (by simp) (by omega) (by omega) (Am rfl)
  obtain⟨st,K,rfl⟩:=K;unfold iter;rw [K];refine(Z (i+1) fuel ys (by omega) (by omega) (by omega) (by omega) ae).Ai ?_;rintro aj ⟨k1,ag,ak⟩;refine⟨?_,ag,by omega⟩;rw [k1,ab,insOuter.eq_def AN a b i,if_pos U]
theorem Q4{F a b:Nat}{xs:List PT}(K:2000<F)(hb:b≤xs.length)(O:xs.length<1000)(U:KO xs)(aa:a≤b):
  AY (f178 F xs (a:Int) (b:Int)) (fun ys=>ys.toArray=insertionSort AN xs.toArray a b∧KO ys∧ys.length=xs.length):=by
 unfold f178;refine AV ((a+1:Nat):Int) (by simp) (by omega) (by omega) (AI (U1 (F:=F) a b K (b - (a+1)) (a+1) F xs rfl (by omega) hb O U) ?_);rintro ys ⟨V,W,Z⟩;exact⟨ys,rfl,V,W,Z⟩
end Pal
namespace Pal
open Go.Sort
theorem Oi{F a b sw:Nat}{xs:List PT}(O:a<xs.length)(hb:b<xs.length)(hs:sw<1000)(V:xs.length<1000)(U:KO xs):
  f200 F xs (a:Int) (b:Int) (sw:Int)=some ((((order2 AN xs.toArray a b sw).1:Nat):Int),(((order2 AN xs.toArray a b sw).2.1:Nat):Int),(((order2 AN xs.toArray a b sw).2.2:Nat):Int)):=by
 have h:AY (f200 F xs (a:Int) (b:Int) (sw:Int)) (fun r=>r=((((order2 AN xs.toArray a b sw).1:Nat):Int),(((order2 AN xs.toArray a b sw).2.1:Nat):Int),(((order2 AN xs.toArray a b sw).2.2:Nat):Int))):=by
  unfold f200;refine Bu (m:=b) rfl hb (Bu (m:=a) rfl O ?_);refine AM (Kp (U.get hb) (U.get O)) ?_;have e:order2 AN xs.toArray a b sw=if AN xs[b] xs[a] then(b,a,sw+1) else(a,b,sw):=by unfold order2;rw [Gt O,Gt hb]
  refine By (fun h=>?_) (fun h=>?_)
  ·have K:AN xs[b] xs[a]=true:=by rw [← Jh];exact decide_eq_true h
   refine AV ((sw+1:Nat):Int) (by simp) (by omega) (by omega) (Am ?_);rw [e,if_pos K]
  ·have K:¬AN xs[b] xs[a]=true:=by rw [← Jh];simpa using h
   refine Am ?_;rw [e,if_neg K]
 obtain⟨r,K,rfl⟩:=h;exact K
theorem Qc{n a b sw:Nat}{d:Array PT}(K:a<n)(hb:b<n):(order2 AN d a b sw).1<n∧(order2 AN d a b sw).2.1<n∧(order2 AN d a b sw).2.2≤sw+1:=by
 unfold order2;split
 ·exact⟨hb,K,Nat.le_refl _⟩
 ·exact⟨K,hb,Nat.le_succ _⟩
theorem VS{F a b c sw:Nat}{xs:List PT}(U:a<xs.length)(hb:b<xs.length)(V:c<xs.length)(hs:sw<900)(K:xs.length<1000)(O:KO xs):
  f197 F xs (a:Int) (b:Int) (c:Int) (sw:Int)=some ((((median AN xs.toArray a b c sw).1:Nat):Int),(((median AN xs.toArray a b c sw).2:Nat):Int)):=by
 unfold f197 median;obtain⟨Z,W,ab⟩:=Qc (sw:=sw) (d:=xs.toArray) U hb;rw [Oi U hb (by omega) K O];simp only [Option.bind_some];obtain⟨aa,ae,ag⟩:=Qc (sw:=(order2 AN xs.toArray a b sw).2.2) (d:=xs.toArray) W V;rw [Oi W V (by omega) K O];simp only [Option.bind_some];rw [Oi Z aa (by omega) K O];simp only [Option.bind_some]
def Ib:Hint→Int | .unknown=>0 | .increasing=>1 | .decreasing=>2
theorem AY.quo{α:Type}{Q:α→Prop}{f:Int→Option α}{x:Int}(m k:Nat)(K:x=(m:Int))(hm:m<1000)(O:0<k)(h:AY (f ((m / k:Nat):Int)) Q):AY ((Ho x (k:Int)).bind f) Q:=by
 subst K;refine AM ?_ h;unfold Ho;rw [if_neg (by omega)];have e:((m:Int).tdiv (k:Int))=((m / k:Nat):Int):=by rw [Int.tdiv_eq_ediv_of_nonneg (by omega)];rfl
 have hle:m / k≤m:=Nat.div_le_self _ _;rw [e];generalize m / k=z at hle ⊢;exact if_pos (by omega)
theorem Wq{F a b:Nat}{xs:List PT}(ah:a+8≤b)(ai:b<a+50)(hb:b≤xs.length)(Z:xs.length<1000)(aa:KO xs):
  f181 F xs (a:Int) (b:Int)=some ((((choosePivot AN xs.toArray a b).1:Nat):Int),Ib (choosePivot AN xs.toArray a b).2):=by
 have h:AY (f181 F xs (a:Int) (b:Int)) (fun r=>r=((((choosePivot AN xs.toArray a b).1:Nat):Int),Ib (choosePivot AN xs.toArray a b).2)):=by
  unfold f181;have aj:(b - a) / 4≤b - a:=Nat.div_le_self _ _;have ak:(b - a) / 4*3<b - a:=by omega
  refine AV ((b - a:Nat):Int) (by omega) (by omega) (by omega) (AY.quo (b - a) 4 rfl (by omega) (by omega) ?_);refine AV (((b - a) / 4*1:Nat):Int) (by push_cast;rfl) (by omega) (by omega) (AV ((a+(b - a) / 4*1:Nat):Int) (by push_cast;rfl) (by omega) (by omega) ?_);refine AY.quo (b - a) 4 rfl (by omega) (by omega) (AV (((b - a) / 4*2:Nat):Int) (by push_cast;rfl) (by omega) (by omega) ?_);refine AV ((a+(b - a) / 4*2:Nat):Int) (by push_cast;rfl) (by omega) (by omega) (AY.quo (b - a) 4 rfl (by omega) (by omega) ?_);refine AV (((b - a) / 4*3:Nat):Int) (by push_cast;rfl) (by omega) (by omega) (AV ((a+(b - a) / 4*3:Nat):Int) (by push_cast;rfl) (by omega) (by omega) ?_);have ab:choosePivot AN xs.toArray a b=((median AN xs.toArray (a+(b - a) / 4*1) (a+(b - a) / 4*2) (a+(b - a) / 4*3) 0).1,if(median AN xs.toArray (a+(b - a) / 4*1) (a+(b - a) / 4*2) (a+(b - a) / 4*3) 0).2=0 then .increasing else if(median AN xs.toArray (a+(b - a) / 4*1) (a+(b - a) / 4*2) (a+(b - a) / 4*3) 0).2=12 then .decreasing else .unknown):=by
   unfold choosePivot;simp only;rw [if_pos (by omega),if_neg (by omega)]
  rw [ab];generalize ae:median AN xs.toArray (a+(b - a) / 4*1) (a+(b - a) / 4*2) (a+(b - a) / 4*3) 0=K;refine AI (S:=fun r=>r=(((K.1:Nat):Int),((K.2:Nat):Int))) ?_ ?_
  ·refine BD (by omega) (AI (S:=fun _=>True) (Bj (by omega) (Am trivial)) fun _ _=>?_);have W:=VS (F:=F) (a:=a+(b - a) / 4*1) (b:=a+(b - a) / 4*2) (c:=a+(b - a) / 4*3) (sw:=0) (xs:=xs) (by omega) (by omega) (by omega) (by omega) Z aa;rw [ae] at W;exact AM W (Am rfl)
  ·rintro r rfl;refine By (fun h=>?_) (fun h=>?_)
   ·have O:K.2=0:=by simp at h;omega
    rw [if_pos O];exact Am rfl
   ·have O:¬K.2=0:=by simp at h;omega
    rw [if_neg O];refine By (fun U=>?_) (fun U=>?_)
    ·have V:K.2=12:=by simp at U;omega
     rw [if_pos V];exact Am rfl
    ·have V:¬K.2=12:=by simp at U;omega
     rw [if_neg V];exact Am rfl
 obtain⟨r,ag,rfl⟩:=h;exact ag
theorem WR{F:Nat}:∀(m i j fuel:Nat) (xs:List PT),j - i≤m→m<fuel→(i<j→j<xs.length)→i≤xs.length→j≤xs.length→xs.length<1000→KO xs→
  AY (iter (HE F) fuel ((i:Int),(j:Int),xs)) (fun ys=>ys.toArray=reverseLoop i j xs.toArray∧KO ys∧ys.length=xs.length):=by
 intro m
 induction m with
 | zero=>
  intro i j fuel xs hm ab Z hi ae aa K;obtain⟨fuel,rfl⟩:∃k,fuel=k+1:=⟨fuel - 1,by omega⟩;have O:¬i<j:=by omega
  have U:AY (HE F ((i:Int),(j:Int),xs)) (fun st=>st= .done xs):=by
   unfold HE;exact Bj (show ¬(i:Int)<(j:Int) by omega) (Am rfl)
  obtain⟨st,hb,rfl⟩:=U;unfold iter;rw [hb];refine⟨xs,rfl,?_,K,rfl⟩;rw [reverseLoop,if_neg O]
 | succ m ag=>
  intro i j fuel xs hm ab Z hi ae aa K;obtain⟨fuel,rfl⟩:∃k,fuel=k+1:=⟨fuel - 1,by omega⟩;by_cases O:i<j
  ·have V:=Z O;have W:i<xs.length:=by omega
   have U:AY (HE F ((i:Int),(j:Int),xs)) (fun st=>st= .more (((i+1:Nat):Int),((j - 1:Nat):Int),(xs.set i xs[j]).set j xs[i])):=by
    unfold HE;refine BD (show(i:Int)<(j:Int) by omega) (Bu (m:=j) rfl V ?_);refine Bu (m:=i) rfl W (AV ((i+1:Nat):Int) (by simp) (by omega) (by omega) ?_);exact AV ((j - 1:Nat):Int) (by simp;omega) (by omega) (by omega) (Am rfl)
   obtain⟨st,hb,rfl⟩:=U;unfold iter;rw [hb];refine(ag (i+1) (j - 1) fuel ((xs.set i xs[j]).set j xs[i]) (by omega) (by omega) (by simp;omega) (by simp;omega) (by simp;omega) (by simpa using aa) ((K.set (K.get V)).set (K.get W))).Ai ?_;rintro ys ⟨ah,ai,aj⟩;refine⟨?_,ai,by simpa using aj⟩;rw [ah,Iz W V,reverseLoop.eq_def i j,if_pos O]
  ·have U:AY (HE F ((i:Int),(j:Int),xs)) (fun st=>st= .done xs):=by
    unfold HE;exact Bj (show ¬(i:Int)<(j:Int) by omega) (Am rfl)
   obtain⟨st,hb,rfl⟩:=U;unfold iter;rw [hb];refine⟨xs,rfl,?_,K,rfl⟩;rw [reverseLoop,if_neg O]
theorem VW{F a b:Nat}{xs:List PT}(U:2000<F)(V:a<b)(hb:b≤xs.length)(K:xs.length<1000)(O:KO xs):
  AY (f182 F xs (a:Int) (b:Int)) (fun ys=>ys.toArray=reverseRange xs.toArray a b∧KO ys∧ys.length=xs.length):=by
 unfold f182 reverseRange;refine AV ((b - 1:Nat):Int) (by omega) (by omega) (by omega) (AI (WR (F:=F) (b - 1 - a) a (b - 1) F xs (by omega) (by omega) (by omega) (by omega) (by omega) K O) ?_);rintro ys h;exact⟨ys,rfl,h⟩
theorem Ww{F b q1:Nat}{xs:List PT}(q2:Int)(hb:b≤xs.length)(ag:xs.length<1000)(Z:KO xs):∀(m i fuel:Nat),b - i≤m→m<fuel→1≤i→
  AY (iter (IH F (b:Int) (((q1:Nat):Int),q2,xs)) fuel (i:Int)) (fun r=>r=((scanSorted AN xs.toArray b i:Nat):Int)):=by
 intro m
 induction m with
 | zero=>
  intro i fuel hm ae hi;obtain⟨fuel,rfl⟩:∃k,fuel=k+1:=⟨fuel - 1,by omega⟩;have K:¬i<b:=by omega
  have O:AY (IH F (b:Int) (((q1:Nat):Int),q2,xs) (i:Int)) (fun st=>st= .done (i:Int)):=by
   unfold IH;refine AI (S:=fun c=>c=false) (Bj (by omega) (Am rfl)) ?_;rintro c rfl;exact Bj (by simp) (Am rfl)
  obtain⟨st,U,rfl⟩:=O;unfold iter;rw [U];refine⟨_,rfl,?_⟩;rw [scanSorted,if_neg (by simp [K])]
 | succ m aa=>
  intro i fuel hm ae hi;obtain⟨fuel,rfl⟩:∃k,fuel=k+1:=⟨fuel - 1,by omega⟩;by_cases K:i<b
  ·have V:i<xs.length:=by omega
   have W:i - 1<xs.length:=by omega
   have O:AY (IH F (b:Int) (((q1:Nat):Int),q2,xs) (i:Int)) (fun st=>st=if(!AN xs[i] xs[i-1])=true then .more ((i+1:Nat):Int) else .done (i:Int)):=by
    unfold IH;refine AI (S:=fun c=>c= !AN xs[i] xs[i-1]) ?_ ?_
    ·refine BD (by omega) (Bu (m:=i) rfl V ?_);refine AV ((i - 1:Nat):Int) (by omega) (by omega) (by omega) (Bu (m:=i - 1) rfl W ?_);refine AM (Kp (Z.get V) (Z.get W)) (Am ?_);rw [← Jh];exact decide_not
    ·rintro c rfl;refine By (fun h=>?_) (fun h=>?_)
     ·refine AV ((i+1:Nat):Int) (by simp) (by omega) (by omega) ?_;rw [if_pos h];exact Am rfl
     ·rw [if_neg h];exact Am rfl
   obtain⟨st,U,rfl⟩:=O;unfold iter;rw [U];have hs:scanSorted AN xs.toArray b i=if(!AN xs[i] xs[i-1])=true then scanSorted AN xs.toArray b (i+1) else i:=by
    rw [scanSorted.eq_def AN xs.toArray b i,Gt V,Gt W];simp [K]
   by_cases ab:(!AN xs[i] xs[i-1])=true
   ·rw [if_pos ab] at hs ⊢;rw [hs];exact aa (i+1) fuel (by omega) (by omega) (by omega)
   ·rw [if_neg ab] at hs ⊢;exact⟨_,rfl,by rw [hs]⟩
  ·exact aa i (fuel+1) (by omega) (by omega) hi
theorem Wm{F a b:Nat}{xs:List PT}(aa:2000<F)(ab:a<b)(ae:b<a+50)(hb:b≤xs.length)(O:xs.length<1000)(U:KO xs):
  f183 F xs (a:Int) (b:Int)=some ((partialInsertionSort AN xs.toArray a b).2,xs)∧(partialInsertionSort AN xs.toArray a b).1=xs.toArray:=by
 have e:partialInsertionSort AN xs.toArray a b=if scanSorted AN xs.toArray b (a+1)=b then(xs.toArray,true) else(xs.toArray,false):=by
  unfold partialInsertionSort partialIns;simp only;split
  ·rfl
  ·rw [if_pos (by omega)]
 have h:AY (f183 F xs (a:Int) (b:Int)) (fun r=>r=((partialInsertionSort AN xs.toArray a b).2,xs)):=by
  unfold f183;refine AV ((a+1:Nat):Int) (by simp) (by omega) (by omega) (AI (S:=fun r=>r=Sum.inl ((partialInsertionSort AN xs.toArray a b).2,xs)) ?_ ?_)
  ·obtain⟨K,rfl⟩:∃k,F=k+1:=⟨F - 1,by omega⟩;have V:AY (Mi (K+1) (a:Int) (b:Int) (((a+1:Nat):Int),0,xs)) (fun st=>st= .done (Sum.inl ((partialInsertionSort AN xs.toArray a b).2,xs))):=by
    unfold Mi;refine BD (show(0:Int)<5 by omega) (AI (Ww (F:=K+1) (q1:=a+1) 0 hb O U (b - (a+1)) (a+1) (K+1) (by omega) (by omega) (by omega)) ?_);rintro r rfl;rw [e];refine By (fun h=>?_) (fun h=>?_)
    ·rw [if_pos (by omega)];exact Am rfl
    ·rw [if_neg (by omega)];exact AV ((b - a:Nat):Int) (by omega) (by omega) (by omega) (BD (by omega) (Am rfl))
   obtain⟨st,W,rfl⟩:=V;unfold iter;rw [W];exact⟨_,rfl,rfl⟩
  ·rintro r rfl;exact Am rfl
 obtain⟨r,Z,rfl⟩:=h;refine⟨Z,?_⟩;rw [e];split <;> rfl
end Pal
namespace Pal
open Go.Sort
theorem PM{body:Int→Option (Bl Int Int)}{d:Array PT}{p:PT→Bool}{j:Nat}(V:j<900)
  (h:∀i:Nat,i≤j+2→body (i:Int)=some (if(decide (i≤j)&&p d[i]!)=true then .more ((i+1:Nat):Int) else .done (i:Int))):
  ∀(m i fuel:Nat),j+1 - i≤m→m<fuel→i≤j+2→iter body fuel (i:Int)=some ((scanUp p d j i:Nat):Int):=by
 intro m
 induction m with
 | zero=>
  intro i fuel hm O hi;obtain⟨fuel,rfl⟩:∃k,fuel=k+1:=⟨fuel - 1,by omega⟩;have K:¬(decide (i≤j)&&p d[i]!)=true:=by simp;omega
  unfold iter;rw [h i hi,if_neg K,scanUp,if_neg K]
 | succ m U=>
  intro i fuel hm O hi;obtain⟨fuel,rfl⟩:∃k,fuel=k+1:=⟨fuel - 1,by omega⟩;unfold iter;rw [h i hi,scanUp];by_cases K:(decide (i≤j)&&p d[i]!)=true
  ·rw [if_pos K,if_pos K];have:i≤j:=by simp at K;exact K.1
   exact U (i+1) fuel (by omega) (by omega) (by omega)
  ·rw [if_neg K,if_neg K]
theorem Pq{body:Int→Option (Bl Int Int)}{d:Array PT}{p:PT→Bool}{i:Nat}(hi:1≤i){n:Nat}
  (h:∀j:Nat,j<n→body (j:Int)=some (if(decide (i≤j)&&p d[j]!)=true then .more ((j - 1:Nat):Int) else .done (j:Int))):
  ∀(j fuel:Nat),j<n→j<fuel→iter body fuel (j:Int)=some ((scanDown p d i j:Nat):Int):=by
 intro j
 induction j with
 | zero=>
  intro fuel O U;obtain⟨fuel,rfl⟩:∃k,fuel=k+1:=⟨fuel - 1,by omega⟩;have K:¬(decide (i≤0)&&p d[0]!)=true:=by simp;omega
  unfold iter;rw [h 0 O,if_neg K];rfl
 | succ j V=>
  intro fuel O U;obtain⟨fuel,rfl⟩:∃k,fuel=k+1:=⟨fuel - 1,by omega⟩;unfold iter;rw [h (j+1) O,scanDown];by_cases K:(decide (i≤j+1)&&p d[j+1]!)=true
  ·rw [if_pos K,if_pos K];exact V fuel (by omega) (by omega)
  ·rw [if_neg K,if_neg K]
theorem AY.Ll{α:Type}{o:Option α}{a:α}(h:AY o (fun x=>x=a)):o=some a:=by obtain⟨x,K,rfl⟩:=h;exact K
theorem Q7{F a:Nat}{q2:Int}{j:Nat}{q1:Int}{ys:List PT}(K:a<ys.length)(W:j<ys.length)(Z:ys.length<900)(V:KO ys)(i:Nat)(hi:i≤j+2):
  Jf F (a:Int) (q1,(j:Int),ys) (i:Int)=some (if(decide (i≤j)&&AN ys.toArray[i]! ys.toArray[a]!)=true then .more ((i+1:Nat):Int) else .done (i:Int)):=by
 refine AY.Ll ?_;unfold Jf;refine AI (S:=fun c=>c=(decide (i≤j)&&AN ys.toArray[i]! ys.toArray[a]!)) ?_ ?_
 ·refine By (fun h=>?_) (fun h=>?_)
  ·have O:i≤j:=by simp at h;omega
   have U:i<ys.length:=by omega
   refine Bu (m:=i) rfl U (Bu (m:=a) rfl K ?_);refine AM (Kp (V.get U) (V.get K)) (Am ?_);rw [Jh,Gt U,Gt K];simp [O]
  ·have O:¬i≤j:=by simp at h;omega
   refine Am ?_;simp [O]
 ·rintro c rfl;refine By (fun h=>?_) (fun h=>?_)
  ·refine AV ((i+1:Nat):Int) (by simp) (by omega) (by omega) ?_;rw [if_pos h];exact Am rfl
  ·rw [if_neg h];exact Am rfl
theorem P1{F a i:Nat}{q1 q2:Int}{ys:List PT}(O:a<ys.length)(W:ys.length<900)(V:KO ys)(hi:1≤i)(j:Nat)(U:j<ys.length):
  Jl F (a:Int) (q1,q2,ys) (i:Int) (j:Int)=some (if(decide (i≤j)&& !AN ys.toArray[j]! ys.toArray[a]!)=true then .more ((j - 1:Nat):Int) else .done (j:Int)):=by
 refine AY.Ll ?_;unfold Jl;refine AI (S:=fun c=>c=(decide (i≤j)&& !AN ys.toArray[j]! ys.toArray[a]!)) ?_ ?_
 ·refine By (fun h=>?_) (fun h=>?_)
  ·have K:i≤j:=by omega
   refine Bu (m:=j) rfl U (Bu (m:=a) rfl O ?_);refine AM (Kp (V.get U) (V.get O)) (Am ?_);rw [Gt U,Gt O,← Jh,← decide_not];simp [K]
  ·have K:¬i≤j:=by omega
   refine Am ?_;simp [K]
 ·rintro c rfl;refine By (fun h=>?_) (fun h=>?_)
  ·have K:i≤j:=by simp at h;exact h.1
   refine AV ((j - 1:Nat):Int) (by omega) (by omega) (by omega) ?_;rw [if_pos h];exact Am rfl
  ·rw [if_neg h];exact Am rfl
theorem WY{F a b:Nat}(aw:2000<F)(ay:a<b):∀(m i j fuel:Nat) (ys:List PT),j+1 - i≤m→m<fuel→a<i→i≤j+2→j<b→b≤ys.length→ys.length<900→KO ys→
  AY (iter (IG F (a:Int)) fuel ((i:Int),(j:Int),ys)) (fun r=>r.1=(((partLoop AN a i j ys.toArray).1:Nat):Int)∧r.2.toArray=(partLoop AN a i j ys.toArray).2∧KO r.2∧r.2.length=ys.length):=by
 intro m
 induction m with
 | zero=>?_
 | succ m ak=>?_
 all_goals
  intro i j fuel ys hm az aA al aB hb V U;obtain⟨fuel,rfl⟩:∃k,fuel=k+1:=⟨fuel - 1,by omega⟩;have ag:a<ys.length:=by omega
  have ah:j<ys.length:=by omega
  have W:iter (Jf F (a:Int) ((i:Int),(j:Int),ys)) F (i:Int)=some ((scanUp (fun x=>AN x ys.toArray[a]!) ys.toArray j i:Nat):Int):=
   PM (by omega) (fun am an=>Q7 (q2:=0) ag ah V U am an) (j+1 - i) i F (by omega) (by omega) al
  have ao:=scanUp_ge (fun x=>AN x ys.toArray[a]!) ys.toArray j i;have ap:=scanUp_spec (fun x=>AN x ys.toArray[a]!) ys.toArray j _ i rfl;have O:=partLoop_eq AN a i j ys.toArray;generalize aC:scanUp (fun x=>AN x ys.toArray[a]!) ys.toArray j i=i2 at W ao ap O;have Z:iter (Jl F (a:Int) ((i:Int),(j:Int),ys) (i2:Int)) F (j:Int)=some ((scanDown (fun x=> !AN x ys.toArray[a]!) ys.toArray i2 j:Nat):Int):=
   Pq (n:=ys.length) (by omega) (fun aq ar=>P1 ag V U (by omega) aq ar) j F ah (by omega)
  have hle:=scanDown_le (fun x=> !AN x ys.toArray[a]!) ys.toArray i2 j;generalize aD:scanDown (fun x=> !AN x ys.toArray[a]!) ys.toArray i2 j=K at Z hle O;by_cases ai:i2>K
  ·have aa:IG F (a:Int) ((i:Int),(j:Int),ys)=some (.done ((K:Int),ys)):=by
    refine AY.Ll ?_;unfold IG;refine AM W (AM Z ?_);exact BD (by omega) (Am rfl)
   unfold iter;rw [aa];rw [if_pos ai] at O;exact⟨_,rfl,by rw [O],by rw [O],U,rfl⟩
  ·first
    | (exfalso;omega)
    | (
     have ab:i2<ys.length:=by omega
     have ae:K<ys.length:=by omega
     have aa:IG F (a:Int) ((i:Int),(j:Int),ys)=some (.more (((i2+1:Nat):Int),((K - 1:Nat):Int),(ys.set i2 ys[K]).set K ys[i2])):=by
      refine AY.Ll ?_
      unfold IG
      refine AM W ?_
      refine AM Z ?_
      refine Bj (by omega) ?_
      refine Bu (m:=K) rfl ae ?_
      refine Bu (m:=i2) rfl ab ?_
      refine AV ((i2+1:Nat):Int) (by simp) (by omega) (by omega) ?_
      refine AV ((K - 1:Nat):Int) (by omega) (by omega) (by omega) ?_
      exact Am rfl
     unfold iter;rw [aa]
     rw [if_neg ai] at O
     refine(ak (i2+1) (K - 1) fuel ((ys.set i2 ys[K]).set K ys[i2]) (by omega) (by omega) (by omega) (by omega) (by omega) (by simpa using hb) (by simpa using V) ((U.set (U.get ae)).set (U.get ab))).Ai ?_
     rintro r ⟨k1,aj,au,av⟩
     rw [Iz ab ae,← O] at k1 aj
     exact⟨k1,aj,au,by simpa using av⟩)
theorem UO{F a:Nat}{j p3:Nat}{xs ys:List PT}{K O:PT}(he:(xs.set a K).set p3 O=ys)(U:a<ys.length)(V:j<ys.length)(W:ys.length<900)(Z:KO ys)(i:Nat)(hi:i≤j+2):
  Ku F xs (a:Int) (p3:Int) K O (j:Int) (i:Int)=some (if(decide (i≤j)&&AN ys.toArray[i]! ys.toArray[a]!)=true then .more ((i+1:Nat):Int) else .done (i:Int)):=by
 rw [← Q7 (F:=F) (q1:=0) (q2:=0) U V W Z i hi];unfold Ku Jf;simp only [Int.toNat_natCast,he]
theorem Tr{F a i p3:Nat}{xs ys:List PT}{K O:PT}(he:(xs.set a K).set p3 O=ys)(U:a<ys.length)(V:ys.length<900)(W:KO ys)(hi:1≤i)(j:Nat)(Z:j<ys.length):
  Ko F xs (a:Int) (p3:Int) K O (i:Int) (j:Int)=some (if(decide (i≤j)&& !AN ys.toArray[j]! ys.toArray[a]!)=true then .more ((j - 1:Nat):Int) else .done (j:Int)):=by
 rw [← P1 (F:=F) (q1:=0) (q2:=0) U V W hi j Z];unfold Ko Jl;simp only [Int.toNat_natCast,he]
theorem Te(a:Nat):∀(n i j:Nat) (d:Array PT),j+1 - i≤n→(partLoop AN a i j d).1≤j:=by
  intro n
  induction n with
  | zero=>?_
  | succ n V=>?_
  all_goals
    intro i j d Z;have K:=partLoop_eq AN a i j d;have W:=scanUp_ge (fun x=>AN x d[a]!) d j i;generalize aa:scanUp (fun x=>AN x d[a]!) d j i=i2 at W K;have hle:=scanDown_le (fun x=> !AN x d[a]!) d i2 j;generalize ab:scanDown (fun x=> !AN x d[a]!) d i2 j=O at hle K;by_cases U:i2>O
    ·rw [K,if_pos U];exact hle
    ·first
        | (exfalso;omega)
        | (rw [K,if_neg U]
           have:=V (i2+1) (O - 1) (swp d i2 O) (by omega)
           omega)
theorem WQ{F a b pv:Nat}(aq:2000<F){xs:List PT}(aD:a≤pv)(aE:pv<b)(hb:b≤xs.length)(aF:xs.length<900)(ab:KO xs):
  AY (f185 F xs (a:Int) (b:Int) (pv:Int)) (fun r=>r.1=(((partition AN xs.toArray a b pv).1:Nat):Int)∧r.2.1=(partition AN xs.toArray a b pv).2.1∧r.2.2.toArray=(partition AN xs.toArray a b pv).2.2∧KO r.2.2∧r.2.2.length=xs.length):=by
 have ae:a<xs.length:=by omega
 have ag:pv<xs.length:=by omega
 obtain⟨ys,V⟩:∃ys,(xs.set a xs[pv]).set pv xs[a]=ys:=⟨_,rfl⟩;have O:KO ys:=by rw [← V];exact(ab.set (ab.get ag)).set (ab.get ae)
 have an:ys.length=xs.length:=by rw [← V];simp
 have ar:ys.toArray=swp xs.toArray a pv:=by rw [← V,Iz ae ag]
 have Z:a<ys.length:=by omega
 have ao:b - 1<ys.length:=by omega
 unfold f185;refine Bu (m:=pv) rfl ag (Bu (m:=a) rfl ae ?_);refine AV ((a+1:Nat):Int) (by simp) (by omega) (by omega) (AV ((b - 1:Nat):Int) (by omega) (by omega) (by omega) ?_);have au:iter (Ku F xs (a:Int) (pv:Int) xs[pv] xs[a] ((b - 1:Nat):Int)) F ((a+1:Nat):Int)=some ((scanUp (fun x=>AN x ys.toArray[a]!) ys.toArray (b - 1) (a+1):Nat):Int):=
  PM (by omega) (fun av aw=>UO V Z ao (by omega) O av aw) (b - 1+1 - (a+1)) (a+1) F (by omega) (by omega) (by omega)
 refine AM au ?_;have ay:=scanUp_ge (fun x=>AN x ys.toArray[a]!) ys.toArray (b - 1) (a+1);have U:partition AN xs.toArray a b pv=if scanUp (fun x=>AN x ys.toArray[a]!) ys.toArray (b - 1) (a+1)>scanDown (fun x=> !AN x ys.toArray[a]!) ys.toArray (scanUp (fun x=>AN x ys.toArray[a]!) ys.toArray (b - 1) (a+1)) (b - 1) then
   (scanDown (fun x=> !AN x ys.toArray[a]!) ys.toArray (scanUp (fun x=>AN x ys.toArray[a]!) ys.toArray (b - 1) (a+1)) (b - 1),true,swp ys.toArray (scanDown (fun x=> !AN x ys.toArray[a]!) ys.toArray (scanUp (fun x=>AN x ys.toArray[a]!) ys.toArray (b - 1) (a+1)) (b - 1)) a) else
   ((partLoop AN a (scanUp (fun x=>AN x ys.toArray[a]!) ys.toArray (b - 1) (a+1)+1) (scanDown (fun x=> !AN x ys.toArray[a]!) ys.toArray (scanUp (fun x=>AN x ys.toArray[a]!) ys.toArray (b - 1) (a+1)) (b - 1) - 1) (swp ys.toArray (scanUp (fun x=>AN x ys.toArray[a]!) ys.toArray (b - 1) (a+1)) (scanDown (fun x=> !AN x ys.toArray[a]!) ys.toArray (scanUp (fun x=>AN x ys.toArray[a]!) ys.toArray (b - 1) (a+1)) (b - 1)))).1,false,
    swp (partLoop AN a (scanUp (fun x=>AN x ys.toArray[a]!) ys.toArray (b - 1) (a+1)+1) (scanDown (fun x=> !AN x ys.toArray[a]!) ys.toArray (scanUp (fun x=>AN x ys.toArray[a]!) ys.toArray (b - 1) (a+1)) (b - 1) - 1) (swp ys.toArray (scanUp (fun x=>AN x ys.toArray[a]!) ys.toArray (b - 1) (a+1)) (scanDown (fun x=> !AN x ys.toArray[a]!) ys.toArray (scanUp (fun x=>AN x ys.toArray[a]!) ys.toArray (b - 1) (a+1)) (b - 1)))).2
     (partLoop AN a (scanUp (fun x=>AN x ys.toArray[a]!) ys.toArray (b - 1) (a+1)+1) (scanDown (fun x=> !AN x ys.toArray[a]!) ys.toArray (scanUp (fun x=>AN x ys.toArray[a]!) ys.toArray (b - 1) (a+1)) (b - 1) - 1) (swp ys.toArray (scanUp (fun x=>AN x ys.toArray[a]!) ys.toArray (b - 1) (a+1)) (scanDown (fun x=> !AN x ys.toArray[a]!) ys.toArray (scanUp (fun x=>AN x ys.toArray[a]!) ys.toArray (b - 1) (a+1)) (b - 1)))).1 a):=by
  rw [ar];rfl
 generalize aG:scanUp (fun x=>AN x ys.toArray[a]!) ys.toArray (b - 1) (a+1)=i2 at ay U ⊢;have az:iter (Ko F xs (a:Int) (pv:Int) xs[pv] xs[a] (i2:Int)) F ((b - 1:Nat):Int)=some ((scanDown (fun x=> !AN x ys.toArray[a]!) ys.toArray i2 (b - 1):Nat):Int):=
  Pq (n:=ys.length) (by omega) (fun aA aB=>Tr V Z (by omega) O (by omega) aA aB) (b - 1) F ao (by omega)
 refine AM az ?_;have hle:=scanDown_le (fun x=> !AN x ys.toArray[a]!) ys.toArray i2 (b - 1);generalize aH:scanDown (fun x=> !AN x ys.toArray[a]!) ys.toArray i2 (b - 1)=K at hle U ⊢;have W:K<ys.length:=by omega
 simp only [Int.toNat_natCast,V];refine By (fun h=>?_) (fun h=>?_)
 ·have ah:i2>K:=by omega
  rw [if_pos ah] at U;refine Bu (m:=a) rfl Z (Bu (m:=K) rfl W ?_);refine Am ?_;rw [U];exact⟨rfl,rfl,Iz W Z,(O.set (O.get Z)).set (O.get W),by simp [an]⟩
 ·have ah:¬i2>K:=by omega
  have ai:i2<ys.length:=by omega
  rw [if_neg ah] at U;refine Bu (m:=K) rfl W (Bu (m:=i2) rfl ai ?_);refine AV ((i2+1:Nat):Int) (by simp) (by omega) (by omega) (AV ((K - 1:Nat):Int) (by omega) (by omega) (by omega) ?_);refine AI (WY (F:=F) aq (show a<b by omega) (K - 1+1 - (i2+1)) (i2+1) (K - 1) F ((ys.set i2 ys[K]).set K ys[i2]) (by omega) (by omega) (by omega) (by omega) (by omega) (by simp;omega) (by simp;omega) ((O.set (O.get W)).set (O.get ai))) ?_;rintro r ⟨k1,aj,aa,ap⟩;rw [Iz ai W] at k1 aj;have aC:=Te a _ (i2+1) (K - 1) (swp ys.toArray i2 K) (Nat.le_refl _);obtain⟨aI,ak⟩:=r;simp only at k1 aj aa ap ⊢;subst k1;rw [← aj] at U;have hlen:ak.length=ys.length:=by simpa using ap
  generalize (partLoop AN a (i2+1) (K - 1) (swp ys.toArray i2 K)).1=pm at aC U ⊢;have al:pm<ak.length:=by omega
  have am:a<ak.length:=by omega
  refine Bu (m:=a) rfl am (Bu (m:=pm) rfl al ?_);refine Am ?_;rw [U];exact⟨rfl,rfl,Iz al am,(aa.set (aa.get am)).set (aa.get al),by simp [hlen,an]⟩
end Pal
namespace Pal
open Go.Sort
theorem WT(F:Nat):∀n:Nat,n<13→∃l,f163 F (Da (n:Int))=some l:=by
 intro n K
 match n,K with
 | 0,_=>exact⟨_,rfl⟩
 | 1,_=>exact⟨_,rfl⟩
 | 2,_=>exact⟨_,rfl⟩
 | 3,_=>exact⟨_,rfl⟩
 | 4,_=>exact⟨_,rfl⟩
 | 5,_=>exact⟨_,rfl⟩
 | 6,_=>exact⟨_,rfl⟩
 | 7,_=>exact⟨_,rfl⟩
 | 8,_=>exact⟨_,rfl⟩
 | 9,_=>exact⟨_,rfl⟩
 | 10,_=>exact⟨_,rfl⟩
 | 11,_=>exact⟨_,rfl⟩
 | 12,_=>exact⟨_,rfl⟩
 | n+13,h=>omega
theorem U6(F:Nat):f163 F (Da ((13:Nat):Int))=some 4:=rfl
def Is(xs:List PT)(d:Array PT)(ys:List PT):Prop:=ys.toArray=d∧KO ys∧ys.length=xs.length
theorem Pz{F a b:Nat}{l:Int}{xs:List PT}(K:2000<F)(O:a≤b)(ag:b≤a+12)(hb:b≤xs.length)(ah:xs.length<900)(U:KO xs):
  AY (Ig F xs (a:Int) (b:Int) l) (Is xs (insertionSort AN xs.toArray a b)):=by
 unfold Ig;refine AI (S:=fun r=>∃ys,r=Sum.inl ys∧Is xs (insertionSort AN xs.toArray a b) ys) ?_ ?_
 ·obtain⟨V,rfl⟩:∃k,F=k+1:=⟨F - 1,by omega⟩;obtain⟨ys,W,Z,aa,ab⟩:=Q4 K hb (by omega) U O;have ae:LU (V+1) xs (a:Int) (b:Int) l ()=some (.done (Sum.inl ys)):=by
   refine AY.Ll ?_;unfold LU;refine AV ((b - a:Nat):Int) (by omega) (by omega) (by omega) (BD (by omega) ?_);exact AM W (Am rfl)
  unfold iter;rw [ae];exact⟨_,rfl,ys,rfl,Z,aa,ab⟩
 ·rintro r ⟨ys,rfl,h⟩;exact Am h
theorem NJ{F a b:Nat}{l:Int}{wb wp:Bool}{xs:List PT}(K:2000<F)(O:a≤b)(ab:b≤a+12)(hb:b≤xs.length)(ae:xs.length<900)(U:KO xs):
  AY (He F l ((a:Int),(b:Int),wb,wp,xs)) (fun st=>∃ys,st= .done (Sum.inl ys)∧Is xs (insertionSort AN xs.toArray a b) ys):=by
 obtain⟨ys,V,W,Z,aa⟩:=Q4 K hb (by omega) U O;unfold He;refine AI (S:=fun r=>r=Sum.inl ys) ?_ ?_
 ·refine AV ((b - a:Nat):Int) (by dsimp only;omega) (by omega) (by omega) (BD (by omega) ?_);exact AM V (Am rfl)
 ·rintro r rfl;exact Am ⟨ys,rfl,W,Z,aa⟩
theorem Ty{F n:Nat}{l:Int}{xs:List PT}(O:2000<F)(aa:n=xs.length)(ab:n≤12)(U:KO xs):
  AY (f162 F xs 0 (n:Int) l) (Is xs (insertionSort AN xs.toArray 0 n)):=by
 unfold f162;refine AI (S:=fun r=>∃ys,r=Sum.inl ys∧Is xs (insertionSort AN xs.toArray 0 n) ys) ?_ ?_
 ·obtain⟨K,rfl⟩:∃k,F=k+1:=⟨F - 1,by omega⟩;obtain⟨st,V,ys,rfl,W⟩:=NJ (F:=K+1) (a:=0) (b:=n) (l:=l) (wb:=true) (wp:=true) (xs:=xs) O (by omega) (by omega) (by omega) (by omega) U;have Z:He (K+1) l (0,(n:Int),true,true,xs)=some (.done (Sum.inl ys)):=V;unfold iter;rw [Z];exact⟨_,rfl,ys,rfl,W⟩
 ·rintro r ⟨ys,rfl,h⟩;exact Am h
theorem UQ{S A:Type}{body:S→Option (Bl S A)}{F:Nat}{s s':S}(h:body s=some (.more s')){Q:A→Prop}(k:AY (iter body F s') Q):AY (iter body (F+1) s) Q:=by
 unfold iter;rw [h];exact k
theorem UH{S A:Type}{body:S→Option (Bl S A)}{F:Nat}{s:S}{Q:A→Prop}(h:AY (body s) (fun st=>∃a,st= .done a∧Q a)):AY (iter body (F+1) s) Q:=by
 obtain⟨st,K,a,rfl,O⟩:=h;unfold iter;rw [K];exact⟨a,rfl,O⟩
set_option maxHeartbeats 1000000 in
theorem Wn{F:Nat}{xs:List PT}(bb:3000<F)(aI:xs.length=13)(an:KO xs):
  AY (f162 F xs 0 ((13:Nat):Int) 4) (Is xs (pdq AN xs.toArray 0 13 4 true true)):=by
 have aJ:xs.toArray.size=13:=by simpa using aI
 obtain⟨s1,B1,bc,s2,bd,ao,be,bf⟩:=rd_facts (lt:=AN) (d:=xs.toArray) (a:=0) (b:=13) (limit:=4) (wb:=true) (wp:=true) Mc partialInsertionSort_holds reverseRange_holds (by omega) (by rw [aJ];omega) (.inl rfl);have ap:¬(13 - 0≤12):=by omega
 have aB:=Wq (F:=F) (a:=0) (b:=13) (xs:=xs) (by omega) (by omega) (by omega) (by omega) an;have aK:choosePivot AN xs.toArray 0 13=(rd AN xs.toArray 0 13 4 true true).c:=rfl;rw [aK] at aB;generalize K:rd AN xs.toArray 0 13 4 true true=R at*;have aL:R.lim=4:=by rw [← K];rfl
 have aM:R.c.2= .decreasing→R.d2=reverseRange xs.toArray 0 13∧R.pivot=(13 - 1) - (R.c.1 - 0)∧R.hint= .increasing:=by
  intro h;rw [← K] at h ⊢;exact rd_dec h
 have aN:R.c.2≠ .decreasing→R.d2=xs.toArray∧R.pivot=R.c.1∧R.hint=R.c.2:=by
  intro h;rw [← K] at h ⊢;exact rd_not h
 have aO:R.hint= .increasing→R.pi=partialInsertionSort AN R.d2 0 13:=by
  intro h;rw [← K] at h ⊢;exact rd_pi_yes (by simp [h])
 have aP:R.hint≠ .increasing→R.pi=(R.d2,false):=by
  intro h;rw [← K] at h ⊢;exact rd_pi_no (by simp [h])
 have aQ:AY (if Ib R.c.2=2 then(f182 F xs 0 ((13:Nat):Int)).bind fun aR=>(Au (((13:Nat):Int) - 1)).bind fun aS=>(Au (((R.c.1:Nat):Int) - 0)).bind fun aT=>(Au (aS - aT)).bind fun aU=>some (aU,(1:Int),aR) else some (((R.c.1:Nat):Int),Ib R.c.2,xs))
   (fun q=>q.1=((R.pivot:Nat):Int)∧q.2.1=Ib R.hint∧Is xs R.d2 q.2.2):=by
  by_cases hd:R.c.2= .decreasing
  ·obtain⟨ae,e2,W⟩:=aM hd;refine BD (by rw [hd];rfl) (AI (VW (F:=F) (a:=0) (b:=13) (xs:=xs) (by omega) (by omega) (by omega) (by omega) an) ?_);rintro ys ⟨k1,U,V⟩;refine AV 12 (by omega) (by omega) (by omega) (AV ((R.c.1:Nat):Int) (by omega) (by omega) (by omega) ?_);refine AV ((12 - R.c.1:Nat):Int) (by omega) (by omega) (by omega) (Am ⟨?_,?_,?_,U,V⟩)
   ·rw [e2];rfl
   ·rw [W];rfl
   ·rw [ae];exact k1
  ·obtain⟨ae,e2,W⟩:=aN hd;refine Bj (by intro h;cases aq:R.c.2 <;> rw [aq] at h hd <;> first | (exact hd rfl) | (cases h)) ?_
   refine Am ⟨?_,?_,?_,an,rfl⟩
   ·rw [e2]
   ·rw [W]
   ·rw [ae]
 unfold f162;refine AI (S:=fun r=>∃ys,r=Sum.inl ys∧Is xs (pdq AN xs.toArray 0 13 4 true true) ys) ?_ (by rintro r ⟨ys,rfl,h⟩;exact Am h);have aV:∀(Z:List PT),Is xs R.pi.1 Z→R.pi.2=false→
   AY ((f185 F Z 0 ((13:Nat):Int) ((R.pivot:Nat):Int)).bind fun O=>(Au (O.1 - 0)).bind fun aC=>(Au (((13:Nat):Int) - O.1)).bind fun aD=>(Ho (13:Int) (8)).bind fun aE=>
     Option.bind (
      if aC<aD then(
       (Ig F O.2.2 0 O.1 4).bind fun aW=>
       (Au (O.1+1)).bind fun aX=>
       some (aX,((13:Nat):Int),decide (aE≤aC),aW)
      ) else(
       (Au (O.1+1)).bind fun aY=>
       (Ig F O.2.2 aY ((13:Nat):Int) 4).bind fun aZ=>
       some ((0:Int),O.1,decide (aE≤aD),aZ)
      )
     ) fun al=>
     some (al.1,al.2.1,al.2.2.1,O.2.1,al.2.2.2))
    (fun st=>AY (He F 4 st) (fun q=>∃a,q= .done a∧∃ys,a=Sum.inl ys∧Is xs (pdq AN xs.toArray 0 13 4 true true) ys)):=by
  intro Z a0 aF;obtain⟨z1,a1,bg⟩:=a0;have bh:Z.length=13:=by omega
  refine AI (WQ (F:=F) (a:=0) (b:=13) (pv:=R.pivot) (xs:=Z) (by omega) (by omega) ao.2 (by omega) (by omega) a1) ?_;rw [z1];have aa:=partition_holds AN Mc R.pi.1 0 13 R.pivot ao.1 ao.2 (by omega);have ai:=fun ar=>pdq_left (lt:=AN) (d:=xs.toArray) (a:=0) (b:=13) (limit:=4) (wb:=true) (wp:=true) ap (by omega) (by rw [K];exact aF) (by simp) (by rw [K];exact⟨aa.1,aa.2.1⟩) ar;have aj:=fun ar=>pdq_right (lt:=AN) (d:=xs.toArray) (a:=0) (b:=13) (limit:=4) (wb:=true) (wp:=true) ap (by omega) (by rw [K];exact aF) (by simp) (by rw [K];exact⟨aa.1,aa.2.1⟩) ar;rw [K] at ai aj;rw [aL] at ai aj;generalize partition AN R.pi.1 0 13 R.pivot=PA at aa ai aj ⊢;obtain⟨m,bi,d4⟩:=PA;rintro⟨bj,a2,ab⟩ ⟨k1,U,V,au,a3⟩;simp only at k1 U V au a3 aa ai aj ⊢;subst k1 U;have hm:m<13:=aa.2.1;have bl:ab.length=13:=by omega
  refine AV (m:Int) (by omega) (by omega) (by omega) (AV ((13 - m:Nat):Int) (by omega) (by omega) (by omega) ?_);refine AM (b:=1) rfl ?_;by_cases aG:m - 0<13 - m
  ·refine AI (S:=fun q=>∃us,q=(((m+1:Nat):Int),((13:Nat):Int),decide ((1:Int)≤(m:Int)),us)∧Is ab (insertionSort AN ab.toArray 0 m) us) ?_ ?_
   ·refine BD (by omega) (AI (Pz (F:=F) (a:=0) (b:=m) (l:=4) (xs:=ab) (by omega) (by omega) (by omega) (by omega) (by omega) au) ?_);intro us av;exact AV ((m+1:Nat):Int) (by simp) (by omega) (by omega) (Am ⟨us,rfl,av⟩)
   ·rintro q ⟨us,rfl,u1,aw,a4⟩;refine Am ?_;refine(NJ (F:=F) (a:=m+1) (b:=13) (l:=4) (xs:=us) (by omega) (by omega) (by omega) (by omega) (by omega) aw).Ai ?_;rintro st ⟨ys,rfl,v1,v2,a5⟩;refine⟨_,rfl,ys,rfl,?_,v2,by omega⟩;rw [v1,u1,V,ai aG,pdq_small (by omega),pdq_small (by omega)]
  ·refine AI (S:=fun q=>∃us,q=((0:Int),(m:Int),decide ((1:Int)≤((13 - m:Nat):Int)),us)∧Is ab (insertionSort AN ab.toArray (m+1) 13) us) ?_ ?_
   ·refine Bj (by omega) (AV ((m+1:Nat):Int) (by simp) (by omega) (by omega) ?_);refine AI (Pz (F:=F) (a:=m+1) (b:=13) (l:=4) (xs:=ab) (by omega) (by omega) (by omega) (by omega) (by omega) au) ?_;intro us av;exact Am ⟨us,rfl,av⟩
   ·rintro q ⟨us,rfl,u1,aw,a4⟩;refine Am ?_;have:=NJ (F:=F) (a:=0) (b:=m) (l:=4) (wb:=decide ((1:Int)≤((13 - m:Nat):Int))) (wp:=a2) (xs:=us) (by omega) (by omega) (by omega) (by omega) (by omega) aw;refine AY.Ai this ?_;rintro st ⟨ys,rfl,v1,v2,a5⟩;refine⟨_,rfl,ys,rfl,?_,v2,by omega⟩;rw [v1,u1,V,aj aG,pdq_small (by omega),pdq_small (by omega)]
 have a6:AY (He F 4 (0,((13:Nat):Int),true,true,xs)) (fun st=>(∃a,st= .done a∧∃ys,a=Sum.inl ys∧Is xs (pdq AN xs.toArray 0 13 4 true true) ys)∨
   ∃s',st= .more s'∧AY (He F 4 s') (fun q=>∃a,q= .done a∧∃ys,a=Sum.inl ys∧Is xs (pdq AN xs.toArray 0 13 4 true true) ys)):=by
  unfold He;refine AI (S:=fun r=>(∃ys,r=Sum.inl ys∧Is xs (pdq AN xs.toArray 0 13 4 true true) ys)∨∃s',r=Sum.inr s'∧AY (He F 4 s') (fun q=>∃a,q= .done a∧∃ys,a=Sum.inl ys∧Is xs (pdq AN xs.toArray 0 13 4 true true) ys)) ?_ ?_
  ·refine AV 13 (by dsimp only;omega) (by omega) (by omega) (Bj (by omega) ?_);refine Bj (by omega) (AI (S:=fun _=>True) (Bj (by simp) (Am trivial)) fun _ _=>?_);refine AM aB (AI aQ ?_);rintro⟨q1,q2,ag⟩ ⟨ae,e2,W⟩;simp only at ae e2 W ⊢;subst ae e2;refine AM (b:=true) (by simp) (AM (b:=decide (Ib R.hint=1)) (by simp) ?_);have a7:AY (if(decide (Ib R.hint=1))=true then(f183 F ag 0 ((13:Nat):Int)).bind fun ay=>if ay.1=true then some (Sum.inl ay.2) else some (Sum.inr ay.2) else some (Sum.inr ag))
     (fun r=>(R.pi.2=true∧∃ys,r=Sum.inl ys∧Is xs R.pi.1 ys)∨(R.pi.2=false∧∃ys,r=Sum.inr ys∧Is xs R.pi.1 ys)):=by
    by_cases hh:R.hint= .increasing
    ·refine BD (by rw [hh];rfl) ?_;obtain⟨k1,U,V⟩:=W;obtain⟨az,g2⟩:=Wm (F:=F) (a:=0) (b:=13) (xs:=ag) (by omega) (by omega) (by omega) (by omega) (by omega) U;rw [k1] at az g2;rw [← aO hh] at az g2;refine AM az (By (fun h=>?_) (fun h=>?_))
     ·exact Am (.inl ⟨h,ag,rfl,by rw [g2];exact k1,U,V⟩)
     ·exact Am (.inr ⟨by simpa using h,ag,rfl,by rw [g2];exact k1,U,V⟩)
    ·refine Bj (by intro h;cases aq:R.hint <;> rw [aq] at h hh <;> first | (exact hh rfl) | (simp [Ib] at h)) ?_
     rw [aP hh];exact Am (.inr ⟨rfl,ag,rfl,W⟩)
   refine AI a7 ?_;rintro r (⟨p2,ys,rfl,aA⟩ | ⟨p2,Z,rfl,a8⟩)
   ·refine Am (.inl ⟨ys,rfl,?_⟩);rw [pdq_done ap (by omega) (by rw [K];exact p2),K];exact aA
   ·rw [Sum.elim_inr];refine AI (S:=fun c=>c=false) (Bj (by omega) (Am rfl)) ?_;rintro c rfl;refine Bj (by simp) ?_;obtain⟨s',ah,ak⟩:=aV Z a8 p2;have bm:∀{α β:Type} (o:Option α) (f:α→Option β) (g:β→(List PT)⊕(Int×Int×Bool×Bool×List PT)),True:=fun _ _ _=>trivial;refine AY.of_eq (a:=Sum.inr s') ?_ (.inr ⟨s',rfl,ak⟩);have key:∀(o:Option (Int×Int×Bool×Bool×List PT)),o=some s'→(o.bind fun x=>some (Sum.inr x:List PT⊕(Int×Int×Bool×Bool×List PT)))=some (Sum.inr s'):=fun o a9=>by rw [a9];rfl
    refine Eq.trans ?_ (key _ ah);simp only [Option.bind_assoc,Option.bind_some]
  ·rintro r (⟨ys,rfl,aA⟩ | ⟨s',rfl,ba⟩)
   ·exact Am (.inl ⟨_,rfl,ys,rfl,aA⟩)
   ·exact Am (.inr ⟨s',rfl,ba⟩)
 obtain⟨bn,aH⟩:∃k,F=k+2:=⟨F - 2,by omega⟩;obtain⟨st,ah,ak | ak⟩:=a6
 ·obtain⟨a,rfl,am⟩:=ak;rw [aH] at ah ⊢;unfold iter;rw [ah];exact⟨a,rfl,am⟩
 ·obtain⟨s',rfl,am⟩:=ak;rw [aH] at ah am ⊢;exact UQ ah (UH am)
end Pal
namespace Pal
open Go Go.Conc Go.Proofs
open Go.Proofs.Tryz
variable {J:Judge Tryz.prog}{E:LH}
def Qs(fuel:Nat)(p1:Int)(K:Int)(U:Unit):Option (Bl Unit Unit):= Option.bind (if p1<K then(none) else(some false)) fun O=> if O=true then((Au (K - 1)).bind fun V=> (Au (K - 1)).bind fun W=> none) else(some (.done ()))
def QG(fuel:Nat)(p1:Int)(p2:Int)(K:Int):Option (Bl Int Unit):= if K<p2 then(Option.bind (iter (Qs fuel p1 K) fuel ()) fun U=> (Au (K+1)).bind fun O=> some (.more O)) else(some (.done ()))
def OX(fuel:Nat)(p1:Int)(p2:Int):Option Unit:= (Au (p1+1)).bind fun K=> Option.bind (iter (QG fuel p1 p2) fuel K) fun O=> some ()
theorem VK{p1:Int}{p2:Int}{fuel:Nat}{r:Unit}(V:OX fuel p1 p2=some r):AQ J 178 [nS,iV p1,iV p2,(fV 134)] E [] (fun w E' B'=>w= .tuple #[]∧B'= []):=by
 refine Bc func178 fun Q a0 cs H ak al=>?_;unfold OX at V;obtain⟨a1,am,an⟩:=bs V;refine zg 3 rfl (Ba am rfl rfl rfl ?_);obtain⟨a2,ao,ap⟩:=bs an;refine zg 2 rfl (Cu [] [] (fun a3 aq ar=>?_) (fun au=>?_))
 ·obtain rfl:=oi ap;exact JL.fin (v:= .tuple #[]) rfl rfl (B9.list func178 rfl (vs:= []) trivial) (al aq rfl ⟨rfl,rfl⟩ ar)
 ·refine JL.block (CC ao (fun K=> []) (fun K=> [(0,.slice none 0 0),(1,iV p1),(2,iV p2),(3,(fV 134)),(8,iV K)]) Aq ak ?_);rintro K a4 W Z av ⟨a5,O⟩ aw;have aa:=O;unfold QG at aa;refine zg 7 rfl (AK aa (fun ay az=>?_) (fun ay aA=>?_))
  ·obtain⟨a6,aB,aC⟩:=bs az;refine zg 8 rfl (Cu [] [(0,.slice none 0 0),(1,iV p1),(2,iV p2),(3,(fV 134)),(8,iV K)] (fun a7 aD aE=>?_) (fun aF=>?_))
   ·obtain⟨aG,aH,aI⟩:=bs aC;refine zg 3 rfl (Ba aH rfl rfl rfl ?_);refine zg 2 rfl ?_;obtain rfl:=oi aI;exact aw aG (W.Ac aD) aE rfl O
   ·refine JL.block (CC aB (fun ab=> []) (fun ab=> [(0,.slice none 0 0),(1,iV p1),(2,iV p2),(3,(fV 134)),(8,iV K),(9,iV K)]) Aq Z ?_);rintro ab ae aJ aK aL ⟨a8,ag⟩ a9;have ah:=ag;unfold Qs at ah;refine zg 2 rfl (DG 17 fun ht=>?_);refine Bi ht rfl [0,1,2,3] rfl ?_;obtain⟨aM,ai,aN⟩:=bs ah;refine FW 0 #[true,true,true,true,true,true,true,true,true,true,true,true,true,true,true,true,true] (fun L s=>∃(aj:LH),Jm ae H aj [] [(0,.slice none 0 0),(1,iV p1),(2,iV p2),(3,(fV 134)),(8,iV K),(9,iV K),(34,.bool aM)] L s) ?_ ?_
    ·rintro _ _ ⟨aj,rfl,rfl,aO,aP⟩;refine AT.fin (by decide+kernel) (BM aN (fun aQ aR=>?_) (fun aQ aS=>?_))
     ·refine zg 3 rfl (DG 16 fun ht=>?_);refine Bi ht rfl [0,1,2,3] rfl ?_;obtain⟨ba,aT,aU⟩:=bs aR;refine BC 4 ht rfl rfl (fun ρ h s' hs=>C8 (h _ _ rfl) (h _ _ rfl) aT) (Bi ht rfl [5,6] rfl ?_);obtain⟨bb,aV,aW⟩:=bs aU;refine BC 7 ht rfl rfl (fun ρ h s' hs=>C8 (h _ _ rfl) (h _ _ rfl) aV) ?_;cases aW
     ·refine JL.exit rfl ?_;obtain rfl:=oi aS;obtain rfl:=aL _ ag;exact aF (aJ.Ac aO) aP rfl
    ·intro aX;refine FT (q:=p1<K) (i:=21) rfl (fun U=>?_) (fun U=>?_)
     ·have aY:=ip ai U;refine Bi ht rfl [4,5,6] rfl ?_;cases aY
     ·have aZ:=im ai U;refine Bi ht rfl [4,5,6,7,8,9,10,11,12,13,14,15,16] rfl ?_;obtain rfl:=oi aZ;refine DD ?_ (aX _ _ ⟨ae,rfl,rfl,Aq,aK⟩);exact⟨rfl,rfl,rfl,rfl,rfl,rfl,rfl,trivial⟩
  ·refine JL.exit rfl ?_;obtain rfl:=oi aA;obtain rfl:=av _ O;exact au W Z rfl
def QE(fuel:Nat)(p1:Int)(p2:Int)(p3:Int)(O:Unit):Option (Bl Unit ((Unit)⊕(Unit))):= (Au (p2 - p1)).bind fun K=> if K≤12 then((OX fuel p1 p2).bind fun U=> some (.done (Sum.inl ()))) else(if p3=0 then(none) else(none))
def O0(fuel:Nat)(p1:Int)(p2:Int)(p3:Int):Option Unit:= Option.bind (iter (QE fuel p1 p2 p3) fuel ()) fun K=> Sum.elim (fun r=>some r) (fun O=> none) K
theorem Ws{p1:Int}{p2:Int}{p3:Int}{fuel:Nat}{r:Unit}(K:O0 fuel p1 p2 p3=some r):AQ J 162 [nS,iV p1,iV p2,iV p3,(fV 134)] E [] (fun w E' B'=>w= .tuple #[]∧B'= []):=by
 refine Bc func162 fun Q az cs H W Z=>?_;unfold O0 at K;obtain⟨aA,aa,ab⟩:=bs K;refine zg 8 rfl (Bs (fun L s=>False) ?_ ?_)
 ·intro _ _ ae;exact ae.elim
 ·intro aB;refine JL.block (CC aa (fun O=> []) (fun O=> [(0,.slice none 0 0),(1,iV p1),(2,iV p2),(3,iV p3),(4,(fV 134)),(10,.bool true),(11,.bool true)]) Aq W ?_);rintro O aC ag ah ai ⟨aD,U⟩ aE;have V:=U;unfold QE at V;obtain⟨aF,aj,ak⟩:=bs V;refine zg 5 rfl (B7 aj rfl rfl rfl ?_);refine zg 8 rfl (AK ak (fun al am=>?_) (fun al an=>?_))
  ·obtain⟨aG,ao,ap⟩:=bs am;refine zg 6 rfl (BH (VK ao) rfl rfl Nz ah fun aH aq ar=>?_);refine JL.done ?_;obtain rfl:=oi ap;obtain rfl:=ai _ U;have au:=elim_inl ab;obtain rfl:=oi au;exact AF func162 rfl rfl (Z (ag.Ac aq) rfl ⟨rfl,rfl⟩ ar)
  ·refine zg 7 rfl (AK an (fun av aw=>?_) (fun av ay=>?_))
   ·refine zg 6 rfl ?_;cases aw
   ·refine zg 5 rfl (AA (v:= .bool false) rfl (fun ρ h=>Yl.not (c:=true) (h _ _ rfl)) ?_);refine zg 9 rfl ?_;cases ay
def SG(fuel:Nat):Option Unit:= (f163 fuel (Da ((0:Nat):Int))).bind fun K=> (O0 fuel 0 ((0:Nat):Int) K).bind fun O=> some ()
theorem VE{fuel:Nat}{r:Unit}(K:SG fuel=some r):AQ J 133 [nS,(fV 134)] E [] (fun w E' B'=>w= .tuple #[]∧B'= []):=by
 refine Bc func133 fun Q ai cs H O U=>?_;unfold SG at K;refine zg 3 rfl (Bp underlying130 rfl rfl rfl ?_);refine zg 6 rfl (AA (v:= .int .u64 ((Da ((0:Nat):Int):Nat):Int)) rfl (fun ρ h=>Yl.Da underlying3 underlying156 (h _ _ rfl)) ?_);obtain⟨aj,V,W⟩:=bs K;refine BH (RN V) rfl rfl (A2 func163 rfl) O fun ak Z aa=>?_;obtain⟨al,ab,ae⟩:=bs W;refine zg 1 rfl (BH (Ws ab) rfl rfl Lx aa fun am ag ah=>?_);refine JL.done ?_;obtain rfl:=oi ae;exact JL.fin (v:= .tuple #[]) rfl rfl (B9.list func133 rfl (vs:= []) trivial) (U (Z.Ac ag) rfl ⟨rfl,rfl⟩ ah)
end Pal
namespace Pal
open Go Go.Conc Go.Proofs Go.Sort
theorem T1:∀(ys K:List PT),K.Perm ys→ys.Pairwise (fun p q=>p.1<q.1)→K.Pairwise (fun p q=>p.1≤q.1)→K=ys:=by
 intro ys
 induction ys with
 | nil=>intro K h _ _;exact h.eq_nil
 | cons y ys Z=>
  intro K h O U;cases K with
  | nil=>exact absurd h.symm.eq_nil (by simp)
  | cons z K=>
   rw [List.pairwise_cons] at O U;have V:z∈y::ys:=h.mem_iff.1 (by simp);have W:y∈z::K:=h.mem_iff.2 (by simp);have e:z=y:=by
    rcases List.mem_cons.1 V with e | V
    ·exact e
    ·rcases List.mem_cons.1 W with e | W
     ·exact e.symm
     ·have:=O.1 z V;have:=U.1 y W;omega
   subst e;rw [Z K ((List.perm_cons z).1 h) O.2 U.2]
theorem W1{F:Nat}{xs ys:List PT}(ah:3000<F)(ao:xs.length≤13)(W:KO xs)(ai:ys.Perm xs)(hs:ys.Pairwise (fun p q=>p.1<q.1)):f133 F xs=some ys:=by
 have fin:∀(d:Array PT) (K:List PT),PermIn 0 xs.toArray.size xs.toArray d→SortedIn AN 0 xs.toArray.size d→K.toArray=d→K=ys:=by
  rintro d K Z aj rfl;have aa:K.Perm xs:=by
   have ab:=Z.2.2;have O:=Z.1;simp only [List.size_toArray] at O ab;have e2:(K.toArray.extract 0 xs.length).toList=K:=by simp [← O]
   have ak:(xs.toArray.extract 0 xs.length).toList=xs:=by simp
   rwa [e2,ak] at ab
  refine T1 ys K (aa.trans ai.symm) hs ?_;rw [List.pairwise_iff_getElem];intro i j hi ae al;have h:=aj i j (Nat.zero_le _) al (by simpa using (aa.length_eq▸ae));rw [Gt hi,Gt ae] at h;simpa [AN] using h
 have h:AY (f133 F xs) (fun K=>K=ys):=by
  unfold f133;rcases Nat.lt_or_ge xs.length 13 with ag | ag
  ·obtain⟨l,O⟩:=WT F xs.length ag;refine AM O (AI (Ty (F:=F) (n:=xs.length) (l:=l) (by omega) rfl (by omega) W) ?_);rintro K ⟨k1,am,an⟩;obtain⟨V,g2⟩:=insertionSort_holds Mc xs.toArray 0 xs.length (Nat.zero_le _) (by simp);exact Am (fin _ K (by simpa using V) (by simpa using g2) k1)
  ·have U:xs.length=13:=by omega
   refine AM (b:=4) (by rw [U];exact U6 F) ?_;rw [U];refine AI (Wn (F:=F) (xs:=xs) ah U W) ?_;rintro K ⟨k1,am,an⟩;obtain⟨V,g2⟩:=pdq_sorts AN Mc xs.toArray 0 13 4 true true (Nat.zero_le _) (by simp [U]) (.inl rfl);have e:xs.toArray.size=13:=by simpa using U
   exact Am (fin _ K (by rw [e];exact V) (by rw [e];exact g2) k1)
 obtain⟨K,O,rfl⟩:=h;exact O
theorem Xj{J:Judge Tryz.prog}{E:LH}{a:Option Addr}{c:Nat}{g:Seg}{xs ys:List PT}(U:xs.length≤13)(V:KO xs)(O:ys.Perm xs)(hs:ys.Pairwise (fun p q=>p.1<q.1))(W:OL 133 (rP rI (rP rI (rL (rP rI (rP (rL rI) (rN .u16)))))) E a c g xs):
  AQ J 133 [.slice a xs.length c,.func (.func 134) #[] #[]] E g (fun w E' B'=>w= .tuple #[]∧OL 133 (rP rI (rP rI (rL (rP rI (rP (rL rI) (rN .u16)))))) E' a c B' ys):=by
 rcases W.cases with⟨rfl,rfl,rfl,rfl⟩ | ⟨bk,f,rfl,rfl,hW⟩
 ·obtain rfl:ys= []:=O.eq_nil;refine(VE (fuel:=10) (r:=()) rfl).Ai ?_;rintro w E' B' hle ⟨K,rfl⟩;exact⟨K,OL.nil⟩
 ·refine(Xn hW (fuel:=4000) (W1 (by omega) U V O hs)).Ai ?_;rintro w E' B' hle ⟨aa,K,rfl,Z⟩;exact⟨K,Z.1⟩
end Pal
namespace Pal
open Go Go.Conc Go.Proofs
open Go.Proofs.Tryz
open Go.Conc.Lib Go.ConcR.Gen
def C9(qs:Nat→Int×List (BZ)):List (Bo):=((List.range 13).filter (fun j=>decide (0<(qs j).2.length))).map (partOf qs)
theorem Wx
  {E:LH} {k1 an:Nat} {ao ap aq:Ap} {ar au av:Nat} {aw:Lv_} {U:BR} {ab:A4} (ae:At E k1 an (([sV ao U.1 ar,sV ap U.2.1 au]:Lv_)++aw)) (aC:Ao (rL rI) E ao ar U.1) (aD:Ao (rL rI) E ap au U.2.1) (aE:(rA 13 (rN .u16)).r E aw U.2.2) (aF:Ao BJ E aq av ab) {fuel:Nat} {qs:Nat→Int×List (BZ)} (aG:∀j,j<13→GA fuel U ab ((j:Nat):Int)=some (qs j)):
  AQ (DN Tryz.prog) 102 [pV k1 an,.slice aq ab.length av] E [] (fun w E' B'=>∃a c,w= .slice a (C9 qs).length c∧B'= []∧Ao Cn E' a c (C9 qs)):=by
 refine OE func102 rfl rfl fun Q bg cs H aH aI=>zg 2 rfl (Cs aH fun aJ bh aK ag aL=>?_);refine Cs aL fun aM bi ay aN aO=>?_;refine DC (S':= []) (by simp) aO fun aP=>zg 4 rfl (JS.makeChan rfl rfl rfl underlying162 (CP type133) aP fun ch aQ=>?_);refine CO aQ (DY type162) fun rc aR=>?_;refine JS.store (v:= .chan (some ch)) (off:=0) 1 rfl rfl rfl aR rfl rfl (Bq type162) (by simp [Value.cells,CM]) rfl (Nat.le_of_ble_eq_true rfl) fun aS=>Dp 1 aS rfl fun V ah ai aT=>zg 3 rfl (CO aT (DY type171) fun wg aU=>?_);refine DC (S':= [[(ch,.chan 0 #[] false 0 0 false)],[(wg,.cells #[.int .u64 0,.int .u32 0] 171 (0,0))]]) (by simp [Value.cells]) aU fun aa=>zg 7 rfl (I5 ?_);refine Ie [(2,pV aJ 0),(3,pV aM 0),(5,pV rc 0),(6,pV wg 0),(11,iV ((0:Nat):Int))] rfl ?_;have aV:=aK.Ac ay;have W:=aV.Ac ah;have aj:=Nd.iff.1 aa;intro T aW;let F:Fam:=⟨wg,ch,171,13,fun j=>decide (0<(qs j).2.length),fun kk v E=>kk<13∧∃a c,v= .agg #[iV ((kk:Nat):Int),iV (qs kk).1,.slice a (qs kk).2.length c]∧Ao Dm E a c (qs kk).2,fun g s=>(DN Tryz.prog).ok Q g s⟩;refine VU F (Nat.le_of_ble_eq_true rfl) (show 13<2147483647 by omega) ?_ ?_ (No (j:=1) aa rfl) (No (j:=0) aa rfl) ?_ (fun g s h=>h)
 ·rintro kk v bj bl ak ⟨Z,a,c,aX,ae⟩;exact⟨Z,a,c,aX,ae.Ai ak⟩
 ·intro e;have:=aj.1;simp at this;exact this e.symm
 have aY:=TN aa;show Way Tryz.prog true (Stop Tryz.prog F (.Fi 0)) _ (⟨(Ak V H [[(ch,.chan 0 #[] false 0 0 false)],[(wg,.cells #[.int .u64 0,.int .u32 0] 171 (0,0))]]).E,H6 (Ak V H [[(ch,.chan 0 #[] false 0 0 false)],[(wg,.cells #[.int .u64 0,.int .u32 0] 171 (0,0))]]).H wg ch,false⟩:St);rw [show(Ak V H [[(ch,.chan 0 #[] false 0 0 false)],[(wg,.cells #[.int .u64 0,.int .u32 0] 171 (0,0))]]).E=V from rfl,aY];have aZ:Ar V H []:=trivial;refine UA (F:=F) rfl (ae.Ai W) (aC.Ai W) (aD.Ai W) (Rp.Ai _ W aE) (aF.Ai W) (ag.Ai (ay.Ac ah)) (aN.Ai ah) ai aG (fun j _=>rfl) (fun j a0 E' a c a1=>⟨a0,a,c,rfl,a1⟩) (fun az al bm=>?_) 13 0 rfl (by decide) V Aq aZ T aW;refine zg 9 rfl ?_;refine AA (v:= .func (.func 131) #[] ([.pointer (some F.sA),pV rc 0]:Lv_).toArray) rfl (fun ρ h=>Iy (by simp) (by simp [h (.tmp 6) _ rfl,h (.tmp 5) _ rfl])) ?_;have aA:=UM (F:=F) (show 13<2147483648 by omega) (ai.Ai al);refine JL.GG (fi:= #[]) rfl rfl rfl rfl rfl rfl rfl (by first | exact aA | (simp only [List.append_toArray,List.nil_append,Array.append_empty,Array.empty_append];exact aA)) ?_
 refine zg 8 rfl (AA (v:= .chan (some ch)) rfl (fun ρ h=>Yl.load Ls (h _ _ rfl) (At.KS (j:=0) (ai.Ai al) rfl)) ?_);refine zg 2 rfl (I5 ?_);refine Ie [(8,.slice none 0 0),(18,.chan (some ch))] rfl ?_;have a2:Ar az H [[]]:=trivial;refine Uk (F:=F) (Q:=Q) rfl (fun g s h=>h) (qs:=qs) (fun kk v E' h=>h.2) (fun K bn a c g a3 aj aB a4 a5 a6=>?_) 13 [] [] az none 0 [] rfl List.nodup_nil (by simp) (by decide) Aq OL.nil a2;have am:(C9 qs).Perm (K.map (partOf qs)):=by
  unfold C9;refine List.Perm.map _ ?_;refine(List.perm_ext_iff_of_nodup (List.nodup_range.filter _) aj).2 fun x=>?_;constructor
  ·intro O;simp at O;exact a4 x O.1 (by simpa [F] using O.2)
  ·intro O;have Z:=aB x O;simp;exact⟨Z.1,by simpa [F] using Z.2⟩
 have a7:(C9 qs).Pairwise (fun p q=>p.1<q.1):=by
  unfold C9;rw [List.pairwise_map];refine List.Pairwise.filter _ (List.Pairwise.imp ?_ List.pairwise_lt_range);intro a b ak;exact Int.ofNat_lt.2 ak
 have hlen:(K.map (partOf qs)).length≤13:=by
  rw [← am.length_eq];unfold C9;rw [List.length_map];exact Nat.le_trans (List.length_filter_le _ _) (by simp)
 have a8:KO (K.map (partOf qs)):=by
  intro x O;obtain⟨j,ag,rfl⟩:=List.mem_map.1 O;have Z:=(aB j ag).1;simp only [partOf];omega
 have a9:(K.map (partOf qs)).length=(C9 qs).length:=am.length_eq.symm;refine zg 3 rfl ?_;refine N5 (vs:= [.slice a (K.map (partOf qs)).length c,.func (.func 134) #[] #[]]) 0 (Xj hlen a8 am a7 a5) rfl rfl rfl (A2 func133 rfl) rfl a6 rfl ?_;rintro _ bo g' ba ⟨rfl,bb⟩ bc;refine zg 6 rfl ?_;refine Ca 0 bb bc rfl fun bp bd be bf=>?_;refine JL.ret (v:= .slice a (K.map (partOf qs)).length c) rfl rfl (B9.list func102 rfl (vs:= [.slice a (K.map (partOf qs)).length c]) ⟨rfl,trivial⟩) ?_;exact aI _ _ _ [] ((((W.Ac al).Ac a3).Ac ba).Ac bd) (by simp) ⟨a,c,by rw [a9],rfl,be⟩ bf
end Pal
namespace Pal
open Go Go.Conc Go.Proofs
open Go.Proofs.Tryz
open Go.Conc.Lib Go.ConcR.Gen
def Jq(fuel:Nat)(K:BR)(O:A4):Option (List (Bo)):=
 if(List.range 13).all (fun j=>(GA fuel K O ((j:Nat):Int)).isSome)=true then some (C9 fun j=>(GA fuel K O ((j:Nat):Int)).getD (0,[])) else none
theorem QP
  {E:LH} {k1 V:Nat} {W Z aa:Ap} {ab ae ag:Nat} {ah:Lv_} {K:BR} {O:A4} (al:At E k1 V (([sV W K.1 ab,sV Z K.2.1 ae]:Lv_)++ah)) (am:Ao (rL rI) E W ab K.1) (an:Ao (rL rI) E Z ae K.2.1) (ao:(rA 13 (rN .u16)).r E ah K.2.2) (ap:Ao BJ E aa ag O) {fuel:Nat} {r:List (Bo)} (U:Jq fuel K O=some r):
  AQ (DN Tryz.prog) 102 [pV k1 V,.slice aa O.length ag] E [] (fun w E' B'=>∃(ai:Ap) (aj:Nat),w= .slice ai r.length aj∧B'= []∧Ao Cn E' ai aj r):=by
 unfold Jq at U;split at U
 ·rename_i ak;cases U;refine(Wx al am an ao ap (fuel:=fuel) (qs:=fun j=>(GA fuel K O ((j:Nat):Int)).getD (0,[])) fun j aq=>?_).Ai ?_
  ·rw [List.all_eq_true] at ak;obtain⟨q,ar⟩:=Option.isSome_iff_exists.1 (ak j (List.mem_range.2 aq));rw [ar];rfl
  ·rintro w E' B' _ ⟨a,c,au,av,aw⟩;exact⟨a,c,au,av,aw⟩
 ·cases U
end Pal
namespace Pal
open Go Go.Conc Go.Proofs
open Go.Proofs.Tryz
def KD(fuel:Nat)(O:Bo)(K:Int×(List BZ)×Int):Option (Bl (Int×(List BZ)×Int) (Int×(List BZ))):= if K.2.2<(O.2.2.length:Int) then((ix O.2.2 K.2.2).bind fun V=> (Ii fuel K.1 K.2.1 V O.2.1).bind fun U=> (Au (K.2.2+1)).bind fun W=> some (.more (U.1,U.2,W))) else(some (.done (K.1,K.2.1)))
def Mt(fuel:Nat)(O:(List Bo))(K:Int×(List BZ)×Int):Option (Bl (Int×(List BZ)×Int) (Int×(List BZ))):= if K.2.2<(O.length:Int) then((ix O K.2.2).bind fun V=> Option.bind (iter (KD fuel V) fuel (K.1,K.2.1,0)) fun U=> (Au (K.2.2+1)).bind fun W=> some (.more (U.1,U.2,W))) else(some (.done (K.1,K.2.1)))
def f93(fuel:Nat)(p0:BR)(p1:A4):Option ((Int×(List BZ))):= (Jq fuel p0 p1).bind fun K=> Option.bind (iter (Mt fuel K) fuel (0,[],0)) fun O=> some O
theorem Ni{E:LH}{k1:Nat}{aH:Nat}{aI:Ap}{aJ:Nat}{aK:Ap}{aL:Nat}{aM:Lv_}{aN:Ap}{aO:Nat}{p0:BR}{p1:A4}(a3:At E k1 aH (([sV aI p0.1 aJ,sV aK p0.2.1 aL]:Lv_)++aM))(a4:Ao (rL rI) E aI aJ p0.1)(a5:Ao (rL rI) E aK aL p0.2.1)(a6:(rA 13 (rN .u16)).r E aM p0.2.2)(a7:Ao BJ E aN aO p1){fuel:Nat}{r:(Int×(List BZ))}(aP:f93 fuel p0 p1=some r):AQ (DN Tryz.prog) 93 [pV k1 aH,sV aN p1 aO] E [] (fun w E' B'=>∃(aQ:Ap) (aR:Nat),w= .agg #[iV r.1,sV aQ r.2 aR]∧B'= []∧Ao Dm E' aQ aR r.2):=by
 refine Bc func93 fun Q cp cs H a8 a9=>?_;unfold f93 at aP;refine zg 2 rfl (CO a8 FQ fun O ba=>?_);refine zg 3 rfl (CO ba FQ fun U bb=>?_);obtain⟨aa,bc,bd⟩:=bs aP;refine zg 6 rfl (BO (QP a3 a4 a5 a6 a7 bc) rfl rfl (A2 func102 rfl) bb ?_);rintro _ aw _ be ⟨ay,az,rfl,rfl,bf⟩ bg;refine Bp underlying130 rfl rfl rfl ?_;obtain⟨K,bh,bi⟩:=bs bd;refine zg 2 rfl (Bs (fun L s=>∃(aA:LH) (V:Ap) (W:Nat) (aB:Seg),Jn aw H aA [bX O #[iV 0,nS] 97,bX U #[iV K.1,sV V K.2 W] 97,aB] [(4,pV O 0),(5,pV U 0)] L s (OL 104 Dm aA V W aB K.2)) ?_ ?_)
 ·rintro _ _ ⟨aA,V,W,aB,rfl,rfl,bj,aS,bl⟩;refine zg 2 rfl (AA rfl (fun ρ h=>FX (vs:= [iV K.1,sV V K.2 W]) HU Dh (h _ _ rfl) (F9 (off:=0) 1 aS rfl rfl)) ?_);refine BQ 0 aS Dh fun bm=>?_;refine JL.done (Ca 2 bl bm rfl fun cq bn bo bp=>?_);refine JS.drop 1 bp rfl fun aT=>?_;obtain rfl:=oi bi;refine JL.ret (v:= .agg #[iV K.1,sV V K.2 W]) rfl rfl (B9.list func93 rfl (vs:= [.agg #[iV K.1,sV V K.2 W]]) ⟨⟨_,rfl,Ld.many (vs:= [iV K.1,sV V K.2 W]) HU Dh (F9 (off:=0) 0 aT rfl rfl)⟩,trivial⟩) (ID 0 aT rfl fun bq=>?_);exact a9 ((be.Ac bj).Ac bn) rfl ⟨V,W,rfl,rfl,bo⟩ bq
 ·intro br;refine JL.block (CG bh (fun L s Z=>∃(aj:LH) (ab:Ap) (ae:Nat) (ag:Seg),Jn aw H aj [bX O #[iV 0,nS] 97,bX U #[iV Z.1,sV ab Z.2.1 ae] 97,ag] [(4,pV O 0),(5,pV U 0),(12,sV ay aa az),(13,iV (aa.length:Int)),(14,iV Z.2.2)] L s (OL 104 Dm aj ab ae ag Z.2.1)) ⟨aw,none,0,[],rfl,rfl,Aq,bg,OL.nil⟩ ?_);rintro _ _ Z ⟨aj,ab,ae,ag,rfl,rfl,aC,aU,aV⟩ bu ⟨cr,aD⟩ bv;have aW:=aD;unfold Mt at aW;refine zg 5 rfl (AK aW (fun bw bx=>?_) (fun bw bz=>?_))
  ·obtain⟨aX,bA,bB⟩:=bs bx;refine zg 5 rfl (Cb (bf.Ai aC) bA underlying130 AP ?_);rintro ct cu _ ⟨_,_,rfl,rfl,⟨_,_,rfl,rfl,⟨bC,bD,rfl,bE⟩⟩⟩ bF;refine Cm bF Ch AP rfl rfl (CO aU HV fun bG bH=>?_);refine BQ 3 bH AP fun bI=>?_;refine Dp 3 bI rfl fun aE aF aY bJ=>zg 3 rfl (BF underlying133 Dh rfl rfl rfl ?_);refine JL.fl 2 aY underlying97 Dy EE ?_;refine Bp underlying95 rfl rfl rfl ?_;obtain⟨ah,bK,bL⟩:=bs bB;refine zg 2 rfl (Bs (fun L s=>∃(ak:LH) (al:Ap) (am:Nat) (an:Seg),Jn aE H ak [bX O #[iV 0,nS] 97,bX U #[iV ah.1,sV al ah.2 am] 97,an] [(4,pV O 0),(5,pV U 0),(12,sV ay aa az),(13,iV (aa.length:Int)),(14,iV Z.2.2)] L s (OL 104 Dm ak al am an ah.2)) ?_ ?_)
   ·rintro _ _ ⟨ak,al,am,an,rfl,rfl,bM,bN,bO⟩;obtain⟨bP,bQ,bR⟩:=bs bL;refine zg 2 rfl (Ba bQ rfl rfl rfl ?_);refine zg 2 rfl ?_;obtain rfl:=oi bR;exact Ay (bv _ _ (ah.1,ah.2,bP) ⟨ak,al,am,an,rfl,rfl,((aC.Ac aF).Ac bM),bN,bO⟩ aD) rfl
   ·intro bS;refine JL.block (CG bK (fun L s ai=>∃(ao:LH) (ap:Ap) (aq:Nat) (ar:Seg),Jn aE H ao [bX O #[iV 0,nS] 97,bX U #[iV ai.1,sV ap ai.2.1 aq] 97,ar] [(4,pV O 0),(5,pV U 0),(7,pV bG 0),(12,sV ay aa az),(13,iV (aa.length:Int)),(14,iV Z.2.2),(20,sV bC aX.2.2 bD),(21,iV (aX.2.2.length:Int)),(22,iV ai.2.2)] L s (OL 104 Dm ao ap aq ar ai.2.1)) ⟨aE,ab,ae,ag,rfl,rfl,Aq,bJ,(aV.Ai aF)⟩ ?_);rintro _ _ ai ⟨ao,ap,aq,ar,rfl,rfl,au,aZ,a0⟩ bT ⟨cv,aG⟩ bU;have a1:=aG;unfold KD at a1;refine zg 5 rfl (AK a1 (fun bV bW=>?_) (fun bV bY=>?_))
    ·obtain⟨bZ,b0,b1⟩:=bs bW;refine zg 5 rfl (Cb (bE.Ai (aF.Ac au)) b0 underlying95 Ci ?_);rintro cw cy _ ⟨_,_,rfl,rfl,⟨_,_,rfl,⟨cz,cA,rfl,b2⟩,rfl⟩⟩ b3;refine Cm b3 FO Ci rfl rfl (CO aZ GM fun cB b4=>?_);refine BQ 3 b4 Ci fun b5=>?_;refine Dp 3 b5 rfl fun cC av b6 b7=>zg 2 rfl (Cm b6 FO Ci rfl rfl ?_);refine BF underlying133 Dh rfl rfl rfl (JL.fl 1 (aY.Ai (au.Ac av)) underlying97 AW Bx ?_);obtain⟨a2,b8,b9⟩:=bs b1;refine Kl 1 2 rfl rfl b7 fun ca=>BY 1 (X9 (age:=0) (a0.Ai av) (tr:=bZ) (b2.Ai av) b8) rfl rfl (A2 func122 rfl) ca rfl ?_;rintro _ cb _ cc ⟨cd,ce,cf,rfl,rfl,cg⟩ ci;refine Fg 1 rfl ci fun ck=>?_;obtain⟨cm,cn,co⟩:=bs b9;refine zg 3 rfl (Ba cn rfl rfl rfl ?_);refine zg 2 rfl ?_;obtain rfl:=oi co;exact Ay (bU _ _ (a2.1,a2.2,cm) ⟨cb,cd,ce,cf,rfl,rfl,((au.Ac av).Ac cc),ck,cg⟩ aG) rfl
    ·refine JL.exit rfl ?_;obtain rfl:=oi bY;obtain rfl:=bT _ aG;exact Ay (bS _ _ ⟨ao,ap,aq,ar,rfl,rfl,au,aZ,a0⟩) rfl
  ·refine JL.exit rfl ?_;obtain rfl:=oi bz;obtain rfl:=bu _ aD;exact Ay (br _ _ ⟨aj,ab,ae,ag,rfl,rfl,aC,aU,aV⟩) rfl
def f78(fuel:Nat)(p0:Bt)(p1:A4)(p2:Int)(p3:Bool):Option ((Option BR)×(Int×(List BZ))×Int):= (f69 fuel p0 p1).bind fun O=> if O≠0 then(some (none,(0,[]),O)) else((Au ((p1.length:Int) - 1)).bind fun V=> (f101 fuel p2 (-1) V).bind fun W=> if W=true then(some (none,(0,[]),3)) else((f92 fuel p0).bind fun Z=> (Z).bind fun U=> (f93 fuel U p1).bind fun K=> Option.bind (if(K.2.length:Int)=0 then(some (!p3)) else(some false)) fun aa=> if aa=true then(some (none,K,11)) else(some (some U,K,0))))
theorem KN{E:LH}{an:Ap}{c2:Nat}{ao:Ap}{ap:Nat}{aq:Ap}{ar:Nat}{p0:Bt}{p1:A4}{p2:Int}{p3:Bool}(au:Ao (rL rI) E an c2 p0.1)(av:Ao (rL rI) E ao ap p0.2)(aw:Ao BJ E aq ar p1){fuel:Nat}{r:(Option BR)×(Int×(List BZ))×Int}(ay:f78 fuel p0 p1 p2 p3=some r):AQ (DN Tryz.prog) 78 [.agg #[sV an p0.1 c2,sV ao p0.2 ap],sV aq p1 ar,iV p2,.bool p3] E [] (fun w E' B'=>∃(az:Value) (aA:Ap) (aB:Nat),w= .tuple #[az,.agg #[iV r.2.1.1,sV aA r.2.1.2 aB],iV r.2.2]∧B'= []∧JR (rP (rL (rL rI)) (rP (rL (rL rI)) (rA 13 (rN .u16)))) E' az r.1∧Ao Dm E' aA aB r.2.1.2):=by
 refine Bc func78 fun Q bI cs H aY ag=>?_;unfold f78 at ay;refine zg 2 rfl (Cs aY fun bJ bK O aC aZ=>?_);refine zg 1 rfl (CO aZ FQ fun aD a0=>?_);refine zg 5 rfl (Cm aC Cy Cc rfl rfl ?_);obtain⟨aE,a1,a2⟩:=bs ay;refine zg 1 rfl (BH (KZ (au.Ai O) (av.Ai O) (aw.Ai O) a1) rfl rfl J1 a0 fun bL V aF=>?_);refine zg 7 rfl (AK a2 (fun a3 a4=>?_) (fun a3 a5=>?_))
 ·refine zg 2 rfl (AA (v:= .agg #[iV 0,nS]) rfl (fun ρ h=>Dc [(0,1),(1,1)] h FQ underlying97 ⟨rfl,Bq type3,rfl,Bq type95,trivial⟩ rfl rfl) ?_);refine zg 2 rfl (BQ 2 aF Dh fun aG=>?_);refine zg 2 rfl ?_;obtain rfl:=oi a4;refine JL.ret (v:= .tuple #[.pointer none,.agg #[iV 0,nS],iV aE]) rfl rfl (B9.list func78 rfl (vs:= [.pointer none,.agg #[iV 0,nS],iV aE]) ⟨rfl,⟨_,rfl,Ld.many (vs:= [iV 0,nS]) HU Dh (F9 (off:=0) 2 aG rfl rfl)⟩,rfl,trivial⟩) (ID 2 aG rfl fun a6=>?_);exact ag (O.Ac V) rfl ⟨.pointer none,none,0,rfl,rfl,rfl,Ao.nil⟩ a6
 ·refine zg 6 rfl (Bp underlying25 rfl rfl rfl ?_);obtain⟨bM,a7,a8⟩:=bs a5;refine B7 a7 rfl rfl rfl ?_;obtain⟨bN,a9,ba⟩:=bs a8;refine BH (IJ a9) rfl rfl Ir aF fun bO ab aH=>JL.done (BM ba (fun bb bc=>?_) (fun bb bd=>?_))
  ·refine zg 2 rfl (AA (v:= .agg #[iV 0,nS]) rfl (fun ρ h=>Dc [(0,1),(1,1)] h FQ underlying97 ⟨rfl,Bq type3,rfl,Bq type95,trivial⟩ rfl rfl) ?_);refine zg 1 rfl (BQ 2 aH Dh fun aI=>?_);refine zg 2 rfl ?_;obtain rfl:=oi bc;refine JL.ret (v:= .tuple #[.pointer none,.agg #[iV 0,nS],iV 3]) rfl rfl (B9.list func78 rfl (vs:= [.pointer none,.agg #[iV 0,nS],iV 3]) ⟨rfl,⟨_,rfl,Ld.many (vs:= [iV 0,nS]) HU Dh (F9 (off:=0) 2 aI rfl rfl)⟩,rfl,trivial⟩) (ID 2 aI rfl fun be=>?_);exact ag ((O.Ac V).Ac ab) rfl ⟨.pointer none,none,0,rfl,rfl,rfl,Ao.nil⟩ be
  ·refine zg 3 rfl (Cm (aC.Ai (V.Ac ab)) Cy Cc rfl rfl ?_);obtain⟨bP,bf,bg⟩:=bs bd;refine BO (M4 (au.Ai ((O.Ac V).Ac ab)) (av.Ai ((O.Ac V).Ac ab)) bf) rfl rfl Ly aH ?_;rintro bQ bR _ aj ⟨_,rfl,rfl,bh⟩ bi;obtain⟨ak,bj,bl⟩:=bs bg;have aJ:=bh;refine zg 6 rfl ?_;rw [bj] at aJ;obtain⟨ah,ai,_,rfl,aK,⟨_,_,rfl,⟨bm,bn,rfl,aL⟩,⟨_,aM,rfl,⟨aN,aO,rfl,aP⟩,aQ⟩⟩⟩:=aJ;obtain⟨K,bo,bp⟩:=bs bl;refine BO (Ni aK aL aP aQ (aw.Ai (((O.Ac V).Ac ab).Ac aj)) bo) rfl rfl LA bi ?_;rintro _ bS _ ae ⟨W,Z,rfl,rfl,aR⟩ bq;refine CO bq FQ fun br bu=>?_;refine BQ 7 bu Dh fun bv=>?_;refine Dp 7 bv rfl fun al aa am aS=>zg 4 rfl (JL.fl 1 am underlying97 Dy EE ?_);refine Bp underlying95 rfl rfl rfl ?_;obtain⟨bw,bx,bz⟩:=bs bp;refine zg 2 rfl (Gb [] (fun L s=>∃(aT:LH),Jm al H aT [bX aD #[iV 0,nS] 97] [(9,pV aD 0),(12,pV ah ai),(13,pV br 0),(39,.bool bw)] L s) ?_ ?_)
   ·rintro _ _ ⟨aT,rfl,rfl,U,aU⟩;refine JL.done (BM bz (fun bA bB=>?_) (fun bA bC=>?_))
    ·refine JL.seq (DG 2 fun ht=>?_);refine HF 0 ht (am.Ai U) HU Dh rfl rfl rfl (Cv 1 ht rfl rfl ?_);refine Co [2,3] (BQ 0 aU Dh fun aV=>?_);refine zg 2 rfl ?_;obtain rfl:=oi bB;refine JL.ret (v:= .tuple #[.pointer none,.agg #[iV K.1,sV W K.2 Z],iV 11]) rfl rfl (B9.list func78 rfl (vs:= [.pointer none,.agg #[iV K.1,sV W K.2 Z],iV 11]) ⟨rfl,⟨_,rfl,Ld.many (vs:= [iV K.1,sV W K.2 Z]) HU Dh (F9 (off:=0) 0 aV rfl rfl)⟩,rfl,trivial⟩) (ID 0 aV rfl fun bD=>?_);exact ag ((((((O.Ac V).Ac ab).Ac aj).Ac ae).Ac aa).Ac U) rfl ⟨.pointer none,W,Z,rfl,rfl,rfl,(aR.Ai (aa.Ac U))⟩ bD
    ·refine zg 2 rfl (DG 3 fun ht=>?_);refine Cv 0 ht rfl rfl (HF 1 ht (am.Ai U) HU Dh rfl rfl rfl ?_);refine Cv 2 ht rfl rfl (Co [3,4] ?_);refine BQ 0 aU Dh fun aW=>?_;refine zg 2 rfl ?_;obtain rfl:=oi bC;refine JL.ret (v:= .tuple #[pV ah ai,.agg #[iV K.1,sV W K.2 Z],iV 0]) rfl rfl (B9.list func78 rfl (vs:= [pV ah ai,.agg #[iV K.1,sV W K.2 Z],iV 0]) ⟨rfl,⟨_,rfl,Ld.many (vs:= [iV K.1,sV W K.2 Z]) HU Dh (F9 (off:=0) 0 aW rfl rfl)⟩,rfl,trivial⟩) (ID 0 aW rfl fun bE=>?_);exact ag ((((((O.Ac V).Ac ab).Ac aj).Ac ae).Ac aa).Ac U) rfl ⟨pV ah ai,W,Z,rfl,rfl,⟨_,_,_,rfl,(aK.Ai ((ae.Ac aa).Ac U)),⟨[sV bm ak.1 bn],(([sV aN ak.2.1 aO]:Lv_)++aM),rfl,⟨_,_,rfl,(aL.Ai ((ae.Ac aa).Ac U))⟩,⟨[sV aN ak.2.1 aO],aM,rfl,⟨_,_,rfl,(aP.Ai ((ae.Ac aa).Ac U))⟩,(Rp.Ai _ ((ae.Ac aa).Ac U) aQ)⟩⟩⟩,(aR.Ai (aa.Ac U))⟩ bE
   ·intro aX;refine Ew 36 bx (fun bF bG=>?_) (fun bF bH=>?_)
    ·refine zg 1 rfl (AA (v:= .bool (!p3)) rfl (fun ρ h=>Yl.not (h _ _ rfl)) ?_);refine zg 1 rfl ?_;obtain rfl:=oi bG;exact Ay (aX _ _ ⟨al,rfl,rfl,Aq,aS⟩) rfl
    ·refine zg 3 rfl ?_;obtain rfl:=oi bH;exact Ay (aX _ _ ⟨al,rfl,rfl,Aq,aS⟩) rfl
def f47(fuel:Nat)(p0:Bt)(p1:A4):Option (Int×Int):= (f78 fuel p0 p1 (-1) false).bind fun K=> some (K.2.1.1,K.2.2)
theorem YI{E:LH}{O:Ap}{c2:Nat}{U:Ap}{V:Nat}{W:Ap}{Z:Nat}{p0:Bt}{p1:A4}(ab:Ao (rL rI) E O c2 p0.1)(ae:Ao (rL rI) E U V p0.2)(ag:Ao BJ E W Z p1){fuel:Nat}{r:Int×Int}(aa:f47 fuel p0 p1=some r):AQ (DN Tryz.prog) 47 [.agg #[sV O p0.1 c2,sV U p0.2 V],sV W p1 Z] E [] (fun w E' B'=>w= .tuple #[iV r.1,iV r.2]∧B'= []):=by
 refine Bc func47 fun Q aw cs H ah ai=>?_;unfold f47 at aa;refine zg 2 rfl (Cs ah fun ay az K aj ak=>?_);refine zg 5 rfl (Cm aj Cy Cc rfl rfl ?_);obtain⟨aA,al,am⟩:=bs aa;refine zg 1 rfl (BO (KN (ab.Ai K) (ae.Ai K) (ag.Ai K) al) rfl rfl J0 ak ?_);rintro _ aB _ an ⟨aC,aD,aE,rfl,rfl,aF,aG⟩ ao;refine zg 4 rfl (CO ao FQ fun aH ap=>?_);refine zg 1 rfl (BQ 3 ap Dh fun aq=>?_);refine Dp 3 aq rfl fun aI ar au av=>zg 4 rfl (JL.fl 0 au underlying97 AW Bx ?_);refine zg 4 rfl ?_;obtain rfl:=oi am;exact AF func47 rfl rfl (ai ((K.Ac an).Ac ar) rfl ⟨rfl,rfl⟩ av)
def f28(fuel:Nat)(p0:Bt)(p1:A4):Option (Int×Int):= (f78 fuel p0 p1 (-1) true).bind fun K=> some ((K.2.1.2.length:Int),K.2.2)
theorem YD{E:LH}{O:Ap}{c2:Nat}{U:Ap}{V:Nat}{W:Ap}{Z:Nat}{p0:Bt}{p1:A4}(ab:Ao (rL rI) E O c2 p0.1)(ae:Ao (rL rI) E U V p0.2)(ag:Ao BJ E W Z p1){fuel:Nat}{r:Int×Int}(aa:f28 fuel p0 p1=some r):AQ (DN Tryz.prog) 28 [.agg #[sV O p0.1 c2,sV U p0.2 V],sV W p1 Z] E [] (fun w E' B'=>w= .tuple #[iV r.1,iV r.2]∧B'= []):=by
 refine Bc func28 fun Q aw cs H ah ai=>?_;unfold f28 at aa;refine zg 2 rfl (Cs ah fun ay az K aj ak=>?_);refine zg 5 rfl (Cm aj Cy Cc rfl rfl ?_);obtain⟨aA,al,am⟩:=bs aa;refine zg 1 rfl (BO (KN (ab.Ai K) (ae.Ai K) (ag.Ai K) al) rfl rfl J0 ak ?_);rintro _ aB _ an ⟨aC,aD,aE,rfl,rfl,aF,aG⟩ ao;refine zg 4 rfl (CO ao FQ fun aH ap=>?_);refine zg 1 rfl (BQ 3 ap Dh fun aq=>?_);refine Dp 3 aq rfl fun aI ar au av=>zg 4 rfl (JL.fl 1 au underlying97 Dy EE ?_);refine Bp underlying95 rfl rfl rfl (zg 4 rfl ?_);obtain rfl:=oi am;exact AF func28 rfl rfl (ai ((K.Ac an).Ac ar) rfl ⟨rfl,rfl⟩ av)
def f30(fuel:Nat)(p0:Bt)(p1:A4):Option (Int×(List Int)×Int):= (f78 fuel p0 p1 (-1) false).bind fun K=> if K.2.2≠0 then(some (0,[],K.2.2)) else((ix K.2.1.2 (0)).bind fun O=> (ix K.2.1.2 (0)).bind fun U=> some (O.1,U.2.1,0))
theorem YO{E:LH}{U:Ap}{c2:Nat}{V:Ap}{W:Nat}{Z:Ap}{aa:Nat}{p0:Bt}{p1:A4}(am:Ao (rL rI) E U c2 p0.1)(an:Ao (rL rI) E V W p0.2)(ao:Ao BJ E Z aa p1){fuel:Nat}{r:Int×(List Int)×Int}(ab:f30 fuel p0 p1=some r):AQ (DN Tryz.prog) 30 [.agg #[sV U p0.1 c2,sV V p0.2 W],sV Z p1 aa] E [] (fun w E' B'=>∃(ae:Ap) (ag:Nat),w= .tuple #[iV r.1,sV ae r.2.1 ag,iV r.2.2]∧B'= []∧Ao rI E' ae ag r.2.1):=by
 refine Bc func30 fun Q aM cs H ap ah=>?_;unfold f30 at ab;refine zg 2 rfl (Cs ap fun aN aO K aq ar=>?_);refine zg 6 rfl (Cm aq Cy Cc rfl rfl ?_);obtain⟨aP,au,av⟩:=bs ab;refine zg 1 rfl (BO (KN (am.Ai K) (an.Ai K) (ao.Ai K) au) rfl rfl J0 ar ?_);rintro _ aQ _ ai ⟨aR,aS,aT,rfl,rfl,aU,aj⟩ aw;refine zg 4 rfl (CO aw FQ fun aV ay=>?_);refine zg 1 rfl (BQ 3 ay Dh fun az=>?_);refine Dp 3 az rfl fun aW O ak al=>zg 8 rfl (AK av (fun aA aB=>?_) (fun aA aC=>?_))
 ·refine zg 7 rfl ?_;obtain rfl:=oi aB;exact AF func30 rfl rfl (ah ((K.Ac ai).Ac O) rfl ⟨none,0,rfl,rfl,Ao.nil⟩ al)
 ·refine zg 2 rfl (DG 11 fun ht=>?_);refine B6 0 ht underlying97 Dy rfl rfl rfl rfl (CI 1 ht 1 ak EE rfl rfl rfl rfl ?_);obtain⟨aX,aD,aE⟩:=bs aC;refine Du 2 (aj.Ai O) aD ht underlying95 Ci ?_;rintro aY aZ _ ⟨_,_,rfl,rfl,⟨_,_,rfl,⟨a0,a1,rfl,a2⟩,rfl⟩⟩ aF;refine B6 3 ht underlying104 AW rfl rfl rfl rfl (CI 4 ht 0 aF Bx rfl rfl rfl rfl ?_);refine B6 5 ht underlying97 Dy rfl rfl rfl rfl (CI 6 ht 1 ak EE rfl rfl rfl rfl ?_);obtain⟨a3,aG,aH⟩:=bs aE;refine Du 7 (aj.Ai O) aG ht underlying95 Ci ?_;rintro a4 a5 _ ⟨_,_,rfl,rfl,⟨_,_,rfl,⟨aI,aJ,rfl,aK⟩,rfl⟩⟩ aL;refine B6 8 ht underlying104 BV rfl rfl rfl rfl (CI 9 ht 1 aL C4 rfl rfl rfl rfl ?_);refine Cv 10 ht rfl rfl (Co [11,12] ?_);refine zg 3 rfl ?_;obtain rfl:=oi aH;exact AF func30 rfl rfl (ah ((K.Ac ai).Ac O) rfl ⟨aI,aJ,rfl,rfl,aK⟩ al)
def MS(fuel:Nat)(p2:Int)(O:(List Bo))(K:(List Int)×Int):Option (Bl ((List Int)×Int) ((List Int))):= if K.2<(O.length:Int) then((ix O K.2).bind fun U=> Option.bind (if U.2.1≤p2 then((room K.1 U.1).bind fun V=> some V) else(some K.1)) fun W=> (Au (K.2+1)).bind fun Z=> some (.more (W,Z))) else(some (.done K.1))
def f43(fuel:Nat)(p0:Bt)(p1:A4)(p2:Int):Option ((List Int)×Int):= (f69 fuel p0 p1).bind fun K=> if K≠0 then(some ([],K)) else((f101 fuel p2 0 4).bind fun U=> if U=true then(some ([],1)) else((f92 fuel p0).bind fun V=> (V).bind fun W=> (Jq fuel W p1).bind fun Z=> Option.bind (iter (MS fuel p2 Z) fuel ([],0)) fun O=> if(O.length:Int)=0 then(some ([],11)) else(some (O,0))))
theorem Sr{E:LH}{aA:Ap}{c2:Nat}{aB:Ap}{aC:Nat}{aD:Ap}{aE:Nat}{p0:Bt}{p1:A4}{p2:Int}(aF:Ao (rL rI) E aA c2 p0.1)(aG:Ao (rL rI) E aB aC p0.2)(aH:Ao BJ E aD aE p1){fuel:Nat}{r:(List Int)×Int}(aI:f43 fuel p0 p1 p2=some r):AQ (DN Tryz.prog) 43 [.agg #[sV aA p0.1 c2,sV aB p0.2 aC],sV aD p1 aE,iV p2] E [] (fun w E' B'=>∃(aJ:Ap) (aK:Nat),w= .tuple #[sV aJ r.1 aK,iV r.2]∧B'= []∧Ao rI E' aJ aK r.1):=by
 refine Bc func43 fun Q b9 cs H a0 ab=>?_;unfold f43 at aI;refine zg 2 rfl (Cs a0 fun ca cb K aL a1=>?_);refine zg 6 rfl (Cm aL Cy Cc rfl rfl ?_);obtain⟨cc,a2,a3⟩:=bs aI;refine zg 1 rfl (BH (KZ (aF.Ai K) (aG.Ai K) (aH.Ai K) a2) rfl rfl J1 a1 fun cd O aM=>?_);refine zg 7 rfl (AK a3 (fun a4 a5=>?_) (fun a4 a6=>?_))
 ·refine zg 6 rfl ?_;obtain rfl:=oi a5;exact AF func43 rfl rfl (ab (K.Ac O) rfl ⟨none,0,rfl,rfl,Ao.nil⟩ aM)
 ·obtain⟨ce,a7,a8⟩:=bs a6;refine zg 5 rfl (BH (IJ a7) rfl rfl Ir aM fun cf U aN=>?_);refine JL.done (BM a8 (fun a9 ba=>?_) (fun a9 bb=>?_))
  ·refine zg 5 rfl ?_;obtain rfl:=oi ba;exact AF func43 rfl rfl (ab ((K.Ac O).Ac U) rfl ⟨none,0,rfl,rfl,Ao.nil⟩ aN)
  ·refine zg 8 rfl (Cm (aL.Ai (O.Ac U)) Cy Cc rfl rfl ?_);obtain⟨cg,bc,bd⟩:=bs bb;refine BO (M4 (aF.Ai ((K.Ac O).Ac U)) (aG.Ai ((K.Ac O).Ac U)) bc) rfl rfl Ly aN ?_;rintro ci ck _ an ⟨_,rfl,rfl,be⟩ bf;obtain⟨cm,bg,bh⟩:=bs bd;have aO:=be;refine zg 1 rfl ?_;rw [bg] at aO;obtain⟨cn,co,_,rfl,bi,⟨_,_,rfl,⟨cp,cq,rfl,bj⟩,⟨_,cr,rfl,⟨ct,cu,rfl,bl⟩,bm⟩⟩⟩:=aO;obtain⟨ae,bn,bo⟩:=bs bh;refine BO (QP bi bj bl bm (aH.Ai (((K.Ac O).Ac U).Ac an)) bn) rfl rfl (A2 func102 rfl) bf ?_;rintro _ ao _ aP ⟨aQ,aR,rfl,rfl,bp⟩ bq;refine Bp underlying130 rfl rfl rfl ?_;obtain⟨aS,br,bu⟩:=bs bo;refine zg 2 rfl (Bs (fun L s=>∃(ap:LH) (ag:Ap) (ah:Nat) (aq:Seg),Jn ao H ap [aq] [(9,sV ag aS ah)] L s (OL 3 rI ap ag ah aq aS)) ?_ ?_)
   ·rintro _ _ ⟨ap,ag,ah,aq,rfl,rfl,aT,aU,bv⟩;refine zg 4 rfl (Bp underlying28 rfl rfl rfl ?_);refine zg 2 rfl (AK bu (fun bw bx=>?_) (fun bw bz=>?_))
    ·refine zg 5 rfl (JS.drop 0 aU rfl fun bA=>?_);obtain rfl:=oi bx;exact AF func43 rfl rfl (ab (((((K.Ac O).Ac U).Ac an).Ac aP).Ac aT) rfl ⟨none,0,rfl,rfl,Ao.nil⟩ bA)
    ·refine zg 7 rfl (Ca 0 bv aU rfl fun cv bB bC bD=>?_);obtain rfl:=oi bz;exact AF func43 rfl rfl (ab ((((((K.Ac O).Ac U).Ac an).Ac aP).Ac aT).Ac bB) rfl ⟨ag,ah,rfl,rfl,bC⟩ bD)
   ·intro bE;refine JL.block (CG br (fun L s Z=>∃(ai:LH) (V:Ap) (W:Nat) (aa:Seg),Jn ao H ai [aa] [(2,iV p2),(9,sV V Z.1 W),(23,sV aQ ae aR),(24,iV (ae.length:Int)),(25,iV Z.2)] L s (OL 3 rI ai V W aa Z.1)) ⟨ao,none,0,[],rfl,rfl,Aq,bq,OL.nil⟩ ?_);rintro _ _ Z ⟨ai,V,W,aa,rfl,rfl,ar,aV,au⟩ bF ⟨cw,av⟩ bG;have aW:=av;unfold MS at aW;refine zg 5 rfl (AK aW (fun bH bI=>?_) (fun bH bJ=>?_))
    ·obtain⟨bK,bL,bM⟩:=bs bI;refine zg 5 rfl (Cb (bp.Ai ar) bL underlying130 AP ?_);rintro cy cz _ ⟨_,_,rfl,rfl,⟨_,_,rfl,rfl,⟨cA,cB,rfl,cC⟩⟩⟩ bN;refine Cm bN Ch AP rfl rfl (CO aV HV fun cD bO=>?_);refine BQ 1 bO AP fun bP=>?_;refine Dp 1 bP rfl fun aw ay aX aY=>zg 3 rfl (BF underlying133 Dh rfl rfl rfl ?_);refine JL.fl 1 aX underlying97 AW Bx ?_;obtain⟨az,bQ,bR⟩:=bs bM;refine zg 3 rfl (Bs (fun L s=>∃(aj:LH) (ak:Ap) (al:Nat) (am:Seg),Jn aw H aj [am] [(2,iV p2),(9,sV ak az al),(23,sV aQ ae aR),(24,iV (ae.length:Int)),(25,iV Z.2)] L s (OL 3 rI aj ak al am az)) ?_ ?_)
     ·rintro _ _ ⟨aj,ak,al,am,rfl,rfl,bS,bT,bU⟩;obtain⟨bV,bW,bY⟩:=bs bR;refine zg 2 rfl (Ba bW rfl rfl rfl ?_);refine zg 2 rfl ?_;obtain rfl:=oi bY;exact Ay (bG _ _ (az,bV) ⟨aj,ak,al,am,rfl,rfl,((ar.Ac ay).Ac bS),bT,bU⟩ av) rfl
     ·intro aZ;refine AK bQ (fun bZ b0=>?_) (fun bZ b1=>?_)
      ·refine zg 2 rfl (JL.fl 0 aX underlying133 AW Bx ?_);obtain⟨cE,b2,b3⟩:=bs b0;refine JS.app (pp:=rI) (v:=iV bK.1) (a:=V) (c:=W) 0 b2 rfl rfl rfl rfl (fun _=>rfl) rfl (fun _=>rfl) rfl rfl rfl underlying28 underlying28 underlying28 AW (CP type3) Cz rfl (by decide) (by decide) (by decide) (by decide) (au.Ai ay) rfl aY rfl fun cF b4 b5 b6 b7 b8=>zg 2 rfl ?_;obtain rfl:=oi b3;exact Ay (aZ _ _ ⟨aw,b4,b5,b6,rfl,rfl,Aq,b8,b7⟩) rfl
      ·refine JL.skip ?_;obtain rfl:=oi b1;exact Ay (aZ _ _ ⟨aw,V,W,aa,rfl,rfl,Aq,aY,(au.Ai ay)⟩) rfl
    ·refine JL.exit rfl ?_;obtain rfl:=oi bJ;obtain rfl:=bF _ av;exact Ay (bE _ _ ⟨ai,V,W,aa,rfl,rfl,ar,aV,au⟩) rfl
end Pal
namespace Pal
open Go Go.Conc Go.Proofs
open Go.Proofs.Tryz
variable {J:Judge Tryz.prog}{E:LH}
def M5(fuel:Nat)(p0:A4):Option ((A4)):= (Dl ([]:A4) p0).bind fun K=> some K
theorem V1{ad:Addr}{c2:Nat}{p0:A4}(V:Ao BJ E (some ad) c2 p0){fuel:Nat}{r:(A4)}(K:M5 fuel p0=some r):AQ J 123 [.slice (some ad) p0.length c2] E [] (fun w E' B'=>∃(O:Ap) (U:Nat) (g0:Seg),w= sV O r U∧B'=g0∧OL 27 BJ E' O U g0 r):=by
 refine Bc func123 fun Q am cs H W Z=>?_;unfold M5 at K;refine zg 8 rfl (AA (v:= .bool false) rfl (fun ρ h=>LQ (a:=(some ad)) underlying25 (h _ _ rfl) (h _ _ rfl)) ?_);refine zg 5 rfl (Oo (pp:=BJ) rfl rfl rfl underlying25 CS W fun an g2 aa ab=>?_);obtain⟨ao,ae,ag⟩:=bs K;refine zg 1 rfl (Kt (pp:=BJ) 1 ae rfl rfl rfl rfl rfl rfl rfl underlying25 underlying25 CS (CP type27) F6 rfl (by decide) (by decide) aa V ab rfl fun ah ai aj ak al=>?_);refine zg 2 rfl ?_;obtain rfl:=oi ag;exact AF func123 rfl rfl (Z Aq rfl ⟨ah,ai,aj,rfl,(by first | rfl | simp | (simp [Value.cells])),ak⟩ al)
def Sq(fuel:Nat)(p0:A4):Option ((A4)):= some ([])
theorem VD{c2:Nat}{p0:A4}(Z:Ao BJ E none c2 p0){fuel:Nat}{r:(A4)}(K:Sq fuel p0=some r):AQ J 123 [sV none p0 c2] E [] (fun w E' B'=>∃(O:Ap) (U:Nat) (g0:Seg),w= sV O r U∧B'=g0∧OL 27 BJ E' O U g0 r):=by
 refine Bc func123 fun Q aa cs H V W=>?_;unfold Sq at K;refine zg 8 rfl (AA (v:= .bool true) rfl (fun ρ h=>LQ (a:=none) underlying25 (h _ _ rfl) (h _ _ rfl)) ?_);refine zg 6 rfl ?_;obtain rfl:=oi K;exact AF func123 rfl rfl (W Aq rfl ⟨none,0,[],rfl,rfl,OL.nil⟩ V)
def f123(fuel:Nat)(p0:A4):Option A4:=M5 fuel p0
theorem XJ{O:Ap}{c2:Nat}{p0:A4}(U:Ao BJ E O c2 p0){fuel:Nat}{r:A4}(K:f123 fuel p0=some r):AQ J 123 [.slice O p0.length c2] E [] (fun w E' B'=>∃(V:Ap) (W:Nat) (g0:Seg),w= .slice V r.length W∧B'=g0∧OL 27 BJ E' V W g0 r):=by
 cases O with
 | some ad=>exact V1 U K
 | none=>
  have Z:p0= []:=by
   rcases U.2 with h | ⟨_,_,h,_⟩
   ·exact h.1
   ·cases h
  subst Z;have aa:r= []:=by
   have ab:M5 fuel []=some []:=rfl;unfold f123 at K;rw [ab] at K;exact(Option.some.inj K).symm
  subst aa;exact VD (fuel:=fuel) U rfl
end Pal
namespace Pal
open Go Go.Conc Go.Proofs
open Go.Proofs.Tryz
variable {J:Judge Tryz.prog}{E:LH}
def f125(fuel:Nat)(p0:Int×Int)(p1:Int×Int):Option Int:= (Au (p0.1 - p1.1)).bind fun K=> some K
theorem XD{p0:Int×Int}{p1:Int×Int}{fuel:Nat}{r:Int}(K:f125 fuel p0 p1=some r):AQ J 125 [.agg #[iV p0.1,iV p0.2],.agg #[iV p1.1,iV p1.2]] E [] (fun w E' B'=>w=iV r∧B'= []):=by
 refine Bc func125 fun Q ai cs H U V=>?_;unfold f125 at K;refine zg 2 rfl (Cs U fun aj ak W Z aa=>?_);refine Cs aa fun al am O ab ae=>?_;refine zg 4 rfl (JL.fl 0 (Z.Ai O) underlying27 AW Bx ?_);refine JL.fl 0 ab underlying27 AW Bx ?_;obtain⟨an,ag,ah⟩:=bs K;refine B7 ag rfl rfl rfl (zg 2 rfl ?_);obtain rfl:=oi ah;exact AF func125 rfl rfl (V (W.Ac O) rfl ⟨rfl,rfl⟩ ae)
def Rz(fuel:Nat)(p1:Int)(K:Int×(A4)):Option (Bl (Int×(A4)) ((A4))):= Option.bind (if p1<K.1 then((ix K.2 K.1).bind fun V=> (Au (K.1 - 1)).bind fun W=> (ix K.2 W).bind fun Z=> (f125 fuel V Z).bind fun aa=> some (decide (aa<0))) else(some false)) fun ab=> if ab=true then((Au (K.1 - 1)).bind fun O=> (Au (K.1 - 1)).bind fun ae=> (ix K.2 ae).bind fun U=> (ix K.2 K.1).bind fun ag=> (ix (K.2.set (Int.toNat K.1) U) O).bind fun ai=> (Au (K.1 - 1)).bind fun ah=> some (.more (ah,((K.2.set (Int.toNat K.1) U).set (Int.toNat O) ag)))) else(some (.done K.2))
def Rj(fuel:Nat)(p1:Int)(p2:Int)(K:Int×(A4)):Option (Bl (Int×(A4)) ((A4))):= if K.1<p2 then(Option.bind (iter (Rz fuel p1) fuel K) fun O=> (Au (K.1+1)).bind fun U=> some (.more (U,O))) else(some (.done K.2))
def f168(fuel:Nat)(p0:A4)(p1:Int)(p2:Int):Option ((A4)):= (Au (p1+1)).bind fun K=> Option.bind (iter (Rj fuel p1 p2) fuel (K,p0)) fun O=> some O
theorem RY{K:Nat}{U:Nat}{V:Nat}{aq:Ax}{p0:A4}{p1:Int}{p2:Int}(hW:WL 27 BJ E K U V aq p0){fuel:Nat}{r:(A4)}(az:f168 fuel p0 p1 p2=some r):AQ J 168 [.slice (Bh K) V U,iV p1,iV p2,(fV 125)] E [(K,.cells aq 27 (0,0))] (fun w E' B'=>∃(aA:Ax),w= .tuple #[]∧B'= [(K,.cells aA 27 (0,0))]∧WL 27 BJ E' K U V aA r):=by
 refine Bc func168 fun Q bQ cs H aP aQ=>?_;unfold f168 at az;obtain⟨bR,aR,aS⟩:=bs az;refine zg 3 rfl (Ba aR rfl rfl rfl ?_);obtain⟨aT,aU,aV⟩:=bs aS;refine zg 2 rfl (Bs (fun L s=>∃(ar:LH) (f17:Ax),Jn E H ar [bX K f17 27] [] L s (WL 27 BJ ar K U V f17 aT)) ?_ ?_)
 ·rintro _ _ ⟨ar,f17,rfl,rfl,aW,aX,aY⟩;obtain rfl:=oi aV;exact JL.fin (v:= .tuple #[]) rfl rfl (B9.list func168 rfl (vs:= []) trivial) (aQ aW rfl ⟨f17,rfl,(by first | rfl | simp | (simp [Value.cells])),aY⟩ aX)
 ·intro aZ;refine JL.block (CG aU (fun L s ae=>∃(ab:LH) (f25:Ax),Jn E H ab [bX K f25 27] [(0,.slice (Bh K) V U),(1,iV p1),(2,iV p2),(3,(fV 125)),(8,iV ae.1)] L s (WL 27 BJ ab K U V f25 ae.2)) ⟨E,aq,rfl,rfl,Aq,aP,hW⟩ ?_);rintro _ _ ae ⟨ab,f25,rfl,rfl,aB,aC,aD⟩ a0 ⟨bS,au⟩ a1;have aE:=au;unfold Rj at aE;refine zg 7 rfl (AK aE (fun a2 a3=>?_) (fun a2 a4=>?_))
  ·obtain⟨aF,a5,a6⟩:=bs a3;refine zg 8 rfl (Bs (fun L s=>∃(ak:LH) (f48:Ax),Jn ab H ak [bX K f48 27] [(0,.slice (Bh K) V U),(1,iV p1),(2,iV p2),(3,(fV 125)),(8,iV ae.1)] L s (WL 27 BJ ak K U V f48 aF)) ?_ ?_)
   ·rintro _ _ ⟨ak,f48,rfl,rfl,a7,a8,a9⟩;obtain⟨ba,bb,bc⟩:=bs a6;refine zg 3 rfl (Ba bb rfl rfl rfl ?_);refine zg 2 rfl ?_;obtain rfl:=oi bc;exact Ay (a1 _ _ (ba,aF) ⟨ak,f48,rfl,rfl,(aB.Ac a7),a8,a9⟩ au) rfl
   ·intro bd;refine JL.block (CG a5 (fun L s W=>∃(ah:LH) (f58:Ax),Jn ab H ah [bX K f58 27] [(0,.slice (Bh K) V U),(1,iV p1),(2,iV p2),(3,(fV 125)),(8,iV ae.1),(9,iV W.1)] L s (WL 27 BJ ah K U V f58 W.2)) ⟨ab,f25,rfl,rfl,Aq,aC,aD⟩ ?_);rintro _ _ W ⟨ah,f58,rfl,rfl,aG,ai,O⟩ be ⟨bT,av⟩ bf;have aH:=av;unfold Rz at aH;refine zg 2 rfl (Dv 17 [K] ⟨⟨0,_,rfl⟩,trivial⟩ ai fun ht=>?_);refine Bi ht rfl [0,1,2,3] rfl ?_;obtain⟨bg,aI,bh⟩:=bs aH;refine FW 0 #[true,true,true,true,true,true,true,true,true,true,true,true,true,true,true,true,true] (fun L s=>∃(al:LH),Jm ah H al [bX K f58 27] [(0,.slice (Bh K) V U),(1,iV p1),(2,iV p2),(3,(fV 125)),(8,iV ae.1),(9,iV W.1),(34,.bool bg)] L s) ?_ ?_
    ·rintro _ _ ⟨al,rfl,rfl,ag,am⟩;refine AT.fin (by decide+kernel) (BM bh (fun bi bj=>?_) (fun bi bl=>?_))
     ·refine zg 3 rfl (GR [15,17] [K] mixed rfl ?_);refine Bn 0 rfl rfl (Bn 1 rfl rfl ?_);refine Bn 2 rfl rfl (Bn 3 rfl rfl ?_);obtain⟨aJ,bm,bn⟩:=bs bj;refine GC 4 true rfl rfl (fun ρ h s' hs=>C8 (h _ _ rfl) (h _ _ rfl) bm) (Bn 5 rfl rfl ?_);refine Bn 6 rfl rfl ?_;obtain⟨bU,bo,bp⟩:=bs bn;refine GC 7 true rfl rfl (fun ρ h s' hs=>C8 (h _ _ rfl) (h _ _ rfl) bo) ?_;obtain⟨Z,aK,bq⟩:=bs bp;obtain⟨_,⟨_,_,rfl,rfl,rfl⟩,br⟩:=WL.at (O.Ai ag) aK;refine Cq 8 O.2 aK underlying25 CS ?_;refine Eg 9 [iV Z.1,iV Z.2] 0 am br Iq CS ?_;refine Bn 10 rfl rfl (Bn 11 rfl rfl ?_);obtain⟨aa,an,bu⟩:=bs bq;obtain⟨_,⟨_,_,rfl,rfl,rfl⟩,bv⟩:=WL.at (O.Ai ag) an;refine Cq 12 O.2 an underlying25 CS ?_;refine Eg 13 [iV aa.1,iV aa.2] 0 am bv Iq CS ?_;refine Cq 14 O.2 an underlying25 CS ?_;have aj:=WL.put (x':=Z) (ws':= [iV Z.1,iV Z.2]) (O.Ai ag) O.2 an ⟨_,_,rfl,rfl,rfl⟩;refine Ef 15 0 am CS aj.2 fun bw=>?_;obtain⟨bV,aw,bx⟩:=bs bu;obtain⟨_,⟨_,_,rfl,rfl,rfl⟩,bW⟩:=WL.at aj.1 aw;refine Cq 16 (aj.1).2 aw underlying25 CS ?_;have aL:=WL.put (x':=aa) (ws':= [iV aa.1,iV aa.2]) aj.1 (aj.1).2 aw ⟨_,_,rfl,rfl,rfl⟩;refine Ef 17 0 bw CS aL.2 fun bz=>?_;refine JB.fin (by decide+kernel) ?_;obtain⟨bA,bB,bC⟩:=bs bx;refine zg 3 rfl (B7 bB rfl rfl rfl ?_);refine zg 2 rfl ?_;obtain rfl:=oi bC;exact Ay (bf _ _ (bA,((W.2.set (Int.toNat W.1) Z).set (Int.toNat aJ) aa)) ⟨al,(Be (Be f58 (Int.toNat (W.1)*2) [iV Z.1,iV Z.2]) (Int.toNat (aJ)*2) [iV aa.1,iV aa.2]),rfl,rfl,(aG.Ac ag),bz,aL.1⟩ av) rfl
     ·refine JL.exit rfl ?_;obtain rfl:=oi bl;obtain rfl:=be _ av;exact Ay (bd _ _ ⟨al,f58,rfl,rfl,(aG.Ac ag),am,(O.Ai ag)⟩) rfl
    ·intro aM;refine FT (q:=p1<W.1) (i:=21) rfl (fun ay=>?_) (fun ay=>?_)
     ·have bD:=ip aI ay;refine Bi ht rfl [4,5,6] rfl ?_;obtain⟨ao,aN,bE⟩:=bs bD;obtain⟨_,⟨_,_,rfl,rfl,rfl⟩,bF⟩:=WL.at O aN;refine F0 7 ht (O).2 aN underlying25 CS ?_;refine D2 8 ht [iV ao.1,iV ao.2] 0 ai bF Iq CS ?_;refine Bi ht rfl [9,10] rfl ?_;obtain⟨bY,bG,bH⟩:=bs bE;refine BC 11 ht rfl rfl (fun ρ h s' hs=>C8 (h _ _ rfl) (h _ _ rfl) bG) ?_;obtain⟨ap,aO,bI⟩:=bs bH;obtain⟨_,⟨_,_,rfl,rfl,rfl⟩,bJ⟩:=WL.at O aO;refine F0 12 ht (O).2 aO underlying25 CS ?_;refine D2 13 ht [iV ap.1,iV ap.2] 0 ai bJ Iq CS ?_;obtain⟨bZ,bK,bL⟩:=bs bI;refine Hz (i:=14) ⟨⟨0,_,rfl⟩,trivial⟩ (vs:= [.agg #[iV ao.1,iV ao.2],.agg #[iV ap.1,iV ap.2]]) (XD bK) (by decide+kernel) rfl rfl rfl rfl (A2 func125 rfl) rfl ai ?_;rintro _ bM _ bN ⟨rfl,rfl⟩ bO;refine Bi ht rfl [15,16] rfl ?_;obtain rfl:=oi bL;refine DD ?_ (aM _ _ ⟨bM,rfl,rfl,bN,bO⟩);exact⟨rfl,rfl,rfl,rfl,rfl,rfl,rfl,trivial⟩
     ·have bP:=im aI ay;refine Bi ht rfl [4,5,6,7,8,9,10,11,12,13,14,15,16] rfl ?_;obtain rfl:=oi bP;refine DD ?_ (aM _ _ ⟨ah,rfl,rfl,Aq,ai⟩);exact⟨rfl,rfl,rfl,rfl,rfl,rfl,rfl,trivial⟩
  ·refine JL.exit rfl ?_;obtain rfl:=oi a4;obtain rfl:=a0 _ au;exact Ay (aZ _ _ ⟨ab,f25,rfl,rfl,aB,aC,aD⟩) rfl
def Rh(fuel:Nat)(p1:Int)(K:Int×Int×(A4)):Option (Bl (Int×Int×(A4)) (Int×(A4))):= if K.2.1≤p1 then((f168 fuel K.2.2 K.1 K.2.1).bind fun O=> (Au (K.2.1+20)).bind fun U=> some (.more (K.2.1,U,O))) else(some (.done (K.1,K.2.2)))
def Q6(fuel:Nat)(p1:Int)(K:Int)(O:Int)(U:Unit):Option (Bl Unit Unit):= if O≤p1 then((Au (0+K)).bind fun V=> none) else(some (.done ()))
def Rn(fuel:Nat)(p1:Int)(K:Int):Option (Bl Int Unit):= if K<p1 then((Au (2*K)).bind fun O=> Option.bind (iter (Q6 fuel p1 K O) fuel ()) fun W=> (Au (0+K)).bind fun U=> Option.bind (if U<p1 then(none) else(some ())) fun Z=> (Au (K*2)).bind fun V=> some (.more V)) else(some (.done ()))
def f138(fuel:Nat)(p0:A4)(p1:Int):Option ((A4)):= Option.bind (iter (Rh fuel p1) fuel (0,20,p0)) fun K=> (f168 fuel K.2 K.1 p1).bind fun O=> Option.bind (iter (Rn fuel p1) fuel 20) fun U=> some O
theorem Xt{K:Nat}{O:Nat}{U:Nat}{aa:Ax}{p0:A4}{p1:Int}(hW:WL 27 BJ E K O U aa p0){fuel:Nat}{r:(A4)}(ah:f138 fuel p0 p1=some r):AQ J 138 [.slice (Bh K) U O,iV p1,(fV 125)] E [(K,.cells aa 27 (0,0))] (fun w E' B'=>∃(ai:Ax),w= .tuple #[]∧B'= [(K,.cells ai 27 (0,0))]∧WL 27 BJ E' K O U ai r):=by
 refine Bc func138 fun Q bG cs H ay az=>?_;unfold f138 at ah;obtain⟨aj,aA,aB⟩:=bs ah;refine zg 11 rfl (Bs (fun L s=>∃(ab:LH) (f15:Ax),Jn E H ab [bX K f15 27] [(0,.slice (Bh K) U O),(1,iV p1),(2,(fV 125)),(6,iV 20),(7,iV aj.1)] L s (WL 27 BJ ab K O U f15 aj.2)) ?_ ?_)
 ·rintro _ _ ⟨ab,f15,rfl,rfl,aC,aD,aE⟩;obtain⟨bH,aF,aG⟩:=bs aB;refine zg 6 rfl (BY 0 (RY aE aF) rfl rfl Lw aD rfl ?_);rintro _ bI _ aH ⟨f23,rfl,rfl,aI⟩ aJ;obtain⟨bJ,aK,aL⟩:=bs aG;refine JL.done (Cu [bX K f23 27] [] (fun bK ak aM=>?_) (fun aN=>?_))
  ·obtain rfl:=oi aL;exact JL.fin (v:= .tuple #[]) rfl rfl (B9.list func138 rfl (vs:= []) trivial) (az ((aC.Ac aH).Ac ak) rfl ⟨f23,rfl,(by first | rfl | simp | (simp [Value.cells])),(aI.Ai ak)⟩ aM)
  ·refine JL.block (CC aK (fun V=> [bX K f23 27]) (fun V=> [(0,.slice (Bh K) U O),(1,iV p1),(2,(fV 125)),(6,iV V)]) Aq aJ ?_);rintro V bL al am aO ⟨bM,ae⟩ aP;have an:=ae;unfold Rn at an;refine zg 7 rfl (AK an (fun aQ aR=>?_) (fun aQ aS=>?_))
   ·obtain⟨aT,aU,aV⟩:=bs aR;refine zg 5 rfl (AA rfl (fun ρ h=>II (h _ _ rfl) (h _ _ rfl) aU) ?_);obtain⟨bN,aW,aX⟩:=bs aV;refine zg 4 rfl (Cu [bX K f23 27] [(0,.slice (Bh K) U O),(1,iV p1),(2,(fV 125)),(6,iV V),(7,iV 0)] (fun bO aY aZ=>?_) (fun a0=>?_))
    ·obtain⟨bP,a1,a2⟩:=bs aX;refine zg 5 rfl (Ba a1 rfl rfl rfl ?_);obtain⟨bQ,a3,a4⟩:=bs a2;refine zg 8 rfl (Cu [bX K f23 27] [(0,.slice (Bh K) U O),(1,iV p1),(2,(fV 125)),(6,iV V)] (fun bR a5 a6=>?_) (fun a7=>?_))
     ·obtain⟨a8,a9,ba⟩:=bs a4;refine zg 2 rfl (AA rfl (fun ρ h=>II (h _ _ rfl) (h _ _ rfl) a9) ?_);refine zg 3 rfl ?_;obtain rfl:=oi ba;exact aP a8 ((al.Ac aY).Ac a5) a6 rfl ae
     ·refine AK a3 (fun bb bc=>?_) (fun bb bd=>?_)
      ·refine zg 6 rfl ?_;cases bc
      ·refine JL.skip ?_;obtain rfl:=oi bd;exact a7 Aq aZ rfl
    ·refine JL.block (CC aW (fun ao=> [bX K f23 27]) (fun ao=> [(0,.slice (Bh K) U O),(1,iV p1),(2,(fV 125)),(6,iV V),(7,iV 0),(8,iV aT)]) Aq am ?_);rintro ao bS be bf bg ⟨bT,ap⟩ bU;have aq:=ap;unfold Q6 at aq;refine zg 7 rfl (AK aq (fun bh bi=>?_) (fun bh bj=>?_))
     ·obtain⟨bV,bl,bm⟩:=bs bi;refine zg 8 rfl (Ba bl rfl rfl rfl ?_);refine zg 2 rfl ?_;cases bm
     ·refine JL.exit rfl ?_;obtain rfl:=oi bj;obtain rfl:=bg _ ap;exact a0 be bf rfl
   ·refine JL.exit rfl ?_;obtain rfl:=oi aS;obtain rfl:=aO _ ae;exact aN al am rfl
 ·intro bn;refine JL.block (CG aA (fun L s W=>∃(Z:LH) (f104:Ax),Jn E H Z [bX K f104 27] [(0,.slice (Bh K) U O),(1,iV p1),(2,(fV 125)),(6,iV 20),(7,iV W.1),(8,iV W.2.1)] L s (WL 27 BJ Z K O U f104 W.2.2)) ⟨E,aa,rfl,rfl,Aq,ay,hW⟩ ?_);rintro _ _ W ⟨Z,f104,rfl,rfl,ar,au,av⟩ bo ⟨bW,ag⟩ bp;have aw:=ag;unfold Rh at aw;refine zg 7 rfl (AK aw (fun bq br=>?_) (fun bq bu=>?_))
  ·obtain⟨bv,bw,bx⟩:=bs br;refine zg 8 rfl (BY 0 (RY av bw) rfl rfl Lw au rfl ?_);rintro _ bz _ bA ⟨f119,rfl,rfl,bB⟩ bC;obtain⟨bD,bE,bF⟩:=bs bx;refine zg 9 rfl (Ba bE rfl rfl rfl ?_);refine zg 3 rfl ?_;obtain rfl:=oi bF;exact Ay (bp _ _ (W.2.1,bD,bv) ⟨bz,f119,rfl,rfl,(ar.Ac bA),bC,bB⟩ ag) rfl
  ·refine JL.exit rfl ?_;obtain rfl:=oi bu;obtain rfl:=bo _ ag;exact Ay (bn _ _ ⟨Z,f104,rfl,rfl,ar,au,av⟩) rfl
def f124(fuel:Nat)(p0:A4):Option ((A4)):= (f138 fuel p0 (p0.length:Int)).bind fun K=> some K
theorem Xx{K:Nat}{O:Nat}{U:Nat}{V:Ax}{p0:A4}(hW:WL 27 BJ E K O U V p0){fuel:Nat}{r:(A4)}(W:f124 fuel p0=some r):AQ J 124 [.slice (Bh K) U O,(fV 125)] E [(K,.cells V 27 (0,0))] (fun w E' B'=>∃(Z:Ax),w= .tuple #[]∧B'= [(K,.cells Z 27 (0,0))]∧WL 27 BJ E' K O U Z r):=by
 refine Bc func124 fun Q ak cs H aa ab=>?_;unfold f124 at W;refine zg 3 rfl (AA (v:=iV (p0.length:Int)) rfl (fun ρ h=>Rm (hW).2 rfl underlying25 (h _ _ rfl)) ?_);obtain⟨al,ae,ag⟩:=bs W;refine zg 1 rfl (BY 0 (Xt hW ae) rfl rfl (A2 func138 rfl) aa rfl ?_);rintro _ am _ ah ⟨f7,rfl,rfl,ai⟩ aj;refine JL.done ?_;obtain rfl:=oi ag;exact JL.fin (v:= .tuple #[]) rfl rfl (B9.list func124 rfl (vs:= []) trivial) (ab ah rfl ⟨f7,rfl,(by first | rfl | simp | (simp [Value.cells])),ai⟩ aj)
def Q1(fuel:Nat)(p1:Int)(K:Int)(U:Unit):Option (Bl Unit Unit):= Option.bind (if p1<K then(none) else(some false)) fun O=> if O=true then((Au (K - 1)).bind fun V=> (Au (K - 1)).bind fun W=> none) else(some (.done ()))
def QT(fuel:Nat)(p1:Int)(p2:Int)(K:Int):Option (Bl Int Unit):= if K<p2 then(Option.bind (iter (Q1 fuel p1 K) fuel ()) fun U=> (Au (K+1)).bind fun O=> some (.more O)) else(some (.done ()))
def Ng(fuel:Nat)(p1:Int)(p2:Int):Option Unit:= (Au (p1+1)).bind fun K=> Option.bind (iter (QT fuel p1 p2) fuel K) fun O=> some ()
theorem Rc{p1:Int}{p2:Int}{fuel:Nat}{r:Unit}(V:Ng fuel p1 p2=some r):AQ J 168 [nS,iV p1,iV p2,(fV 125)] E [] (fun w E' B'=>w= .tuple #[]∧B'= []):=by
 refine Bc func168 fun Q a0 cs H ak al=>?_;unfold Ng at V;obtain⟨a1,am,an⟩:=bs V;refine zg 3 rfl (Ba am rfl rfl rfl ?_);obtain⟨a2,ao,ap⟩:=bs an;refine zg 2 rfl (Cu [] [] (fun a3 aq ar=>?_) (fun au=>?_))
 ·obtain rfl:=oi ap;exact JL.fin (v:= .tuple #[]) rfl rfl (B9.list func168 rfl (vs:= []) trivial) (al aq rfl ⟨rfl,rfl⟩ ar)
 ·refine JL.block (CC ao (fun K=> []) (fun K=> [(0,.slice none 0 0),(1,iV p1),(2,iV p2),(3,(fV 125)),(8,iV K)]) Aq ak ?_);rintro K a4 W Z av ⟨a5,O⟩ aw;have aa:=O;unfold QT at aa;refine zg 7 rfl (AK aa (fun ay az=>?_) (fun ay aA=>?_))
  ·obtain⟨a6,aB,aC⟩:=bs az;refine zg 8 rfl (Cu [] [(0,.slice none 0 0),(1,iV p1),(2,iV p2),(3,(fV 125)),(8,iV K)] (fun a7 aD aE=>?_) (fun aF=>?_))
   ·obtain⟨aG,aH,aI⟩:=bs aC;refine zg 3 rfl (Ba aH rfl rfl rfl ?_);refine zg 2 rfl ?_;obtain rfl:=oi aI;exact aw aG (W.Ac aD) aE rfl O
   ·refine JL.block (CC aB (fun ab=> []) (fun ab=> [(0,.slice none 0 0),(1,iV p1),(2,iV p2),(3,(fV 125)),(8,iV K),(9,iV K)]) Aq Z ?_);rintro ab ae aJ aK aL ⟨a8,ag⟩ a9;have ah:=ag;unfold Q1 at ah;refine zg 2 rfl (DG 17 fun ht=>?_);refine Bi ht rfl [0,1,2,3] rfl ?_;obtain⟨aM,ai,aN⟩:=bs ah;refine FW 0 #[true,true,true,true,true,true,true,true,true,true,true,true,true,true,true,true,true] (fun L s=>∃(aj:LH),Jm ae H aj [] [(0,.slice none 0 0),(1,iV p1),(2,iV p2),(3,(fV 125)),(8,iV K),(9,iV K),(34,.bool aM)] L s) ?_ ?_
    ·rintro _ _ ⟨aj,rfl,rfl,aO,aP⟩;refine AT.fin (by decide+kernel) (BM aN (fun aQ aR=>?_) (fun aQ aS=>?_))
     ·refine zg 3 rfl (DG 16 fun ht=>?_);refine Bi ht rfl [0,1,2,3] rfl ?_;obtain⟨ba,aT,aU⟩:=bs aR;refine BC 4 ht rfl rfl (fun ρ h s' hs=>C8 (h _ _ rfl) (h _ _ rfl) aT) (Bi ht rfl [5,6] rfl ?_);obtain⟨bb,aV,aW⟩:=bs aU;refine BC 7 ht rfl rfl (fun ρ h s' hs=>C8 (h _ _ rfl) (h _ _ rfl) aV) ?_;cases aW
     ·refine JL.exit rfl ?_;obtain rfl:=oi aS;obtain rfl:=aL _ ag;exact aF (aJ.Ac aO) aP rfl
    ·intro aX;refine FT (q:=p1<K) (i:=21) rfl (fun U=>?_) (fun U=>?_)
     ·have aY:=ip ai U;refine Bi ht rfl [4,5,6] rfl ?_;cases aY
     ·have aZ:=im ai U;refine Bi ht rfl [4,5,6,7,8,9,10,11,12,13,14,15,16] rfl ?_;obtain rfl:=oi aZ;refine DD ?_ (aX _ _ ⟨ae,rfl,rfl,Aq,aK⟩);exact⟨rfl,rfl,rfl,rfl,rfl,rfl,rfl,trivial⟩
  ·refine JL.exit rfl ?_;obtain rfl:=oi aA;obtain rfl:=av _ O;exact au W Z rfl
def QX(fuel:Nat)(p1:Int)(K:Int×Int):Option (Bl (Int×Int) Int):= if K.2≤p1 then((Ng fuel K.1 K.2).bind fun U=> (Au (K.2+20)).bind fun O=> some (.more (K.2,O))) else(some (.done K.1))
def QR(fuel:Nat)(p1:Int)(K:Int)(O:Int)(U:Unit):Option (Bl Unit Unit):= if O≤p1 then((Au (0+K)).bind fun V=> none) else(some (.done ()))
def QM(fuel:Nat)(p1:Int)(K:Int):Option (Bl Int Unit):= if K<p1 then((Au (2*K)).bind fun O=> Option.bind (iter (QR fuel p1 K O) fuel ()) fun W=> (Au (0+K)).bind fun U=> Option.bind (if U<p1 then(none) else(some ())) fun Z=> (Au (K*2)).bind fun V=> some (.more V)) else(some (.done ()))
def OZ(fuel:Nat)(p1:Int):Option Unit:= Option.bind (iter (QX fuel p1) fuel (0,20)) fun K=> (Ng fuel K p1).bind fun O=> Option.bind (iter (QM fuel p1) fuel 20) fun U=> some ()
theorem WJ{p1:Int}{fuel:Nat}{r:Unit}(W:OZ fuel p1=some r):AQ J 138 [nS,iV p1,(fV 125)] E [] (fun w E' B'=>w= .tuple #[]∧B'= []):=by
 refine Bc func138 fun Q bq cs H al am=>?_;unfold OZ at W;obtain⟨an,ao,ap⟩:=bs W;refine zg 11 rfl (Cu [] [(0,.slice none 0 0),(1,iV p1),(2,(fV 125)),(6,iV 20),(7,iV an)] (fun br aq ar=>?_) (fun au=>?_))
 ·obtain⟨bu,av,aw⟩:=bs ap;refine zg 6 rfl (BH (Rc av) rfl rfl Lw ar fun bv ay az=>?_);obtain⟨bw,aA,aB⟩:=bs aw;refine JL.done (Cu [] [] (fun bx aC aD=>?_) (fun aE=>?_))
  ·obtain rfl:=oi aB;exact JL.fin (v:= .tuple #[]) rfl rfl (B9.list func138 rfl (vs:= []) trivial) (am ((aq.Ac ay).Ac aC) rfl ⟨rfl,rfl⟩ aD)
  ·refine JL.block (CC aA (fun K=> []) (fun K=> [(0,.slice none 0 0),(1,iV p1),(2,(fV 125)),(6,iV K)]) Aq az ?_);rintro K bz Z aa aF ⟨bA,U⟩ aG;have ab:=U;unfold QM at ab;refine zg 7 rfl (AK ab (fun aH aI=>?_) (fun aH aJ=>?_))
   ·obtain⟨aK,aL,aM⟩:=bs aI;refine zg 5 rfl (AA rfl (fun ρ h=>II (h _ _ rfl) (h _ _ rfl) aL) ?_);obtain⟨bB,aN,aO⟩:=bs aM;refine zg 4 rfl (Cu [] [(0,.slice none 0 0),(1,iV p1),(2,(fV 125)),(6,iV K),(7,iV 0)] (fun bC aP aQ=>?_) (fun aR=>?_))
    ·obtain⟨bD,aS,aT⟩:=bs aO;refine zg 5 rfl (Ba aS rfl rfl rfl ?_);obtain⟨bE,aU,aV⟩:=bs aT;refine zg 8 rfl (Cu [] [(0,.slice none 0 0),(1,iV p1),(2,(fV 125)),(6,iV K)] (fun bF aW aX=>?_) (fun aY=>?_))
     ·obtain⟨aZ,a0,a1⟩:=bs aV;refine zg 2 rfl (AA rfl (fun ρ h=>II (h _ _ rfl) (h _ _ rfl) a0) ?_);refine zg 3 rfl ?_;obtain rfl:=oi a1;exact aG aZ ((Z.Ac aP).Ac aW) aX rfl U
     ·refine AK aU (fun a2 a3=>?_) (fun a2 a4=>?_)
      ·refine zg 6 rfl ?_;cases a3
      ·refine JL.skip ?_;obtain rfl:=oi a4;exact aY Aq aQ rfl
    ·refine JL.block (CC aN (fun ae=> []) (fun ae=> [(0,.slice none 0 0),(1,iV p1),(2,(fV 125)),(6,iV K),(7,iV 0),(8,iV aK)]) Aq aa ?_);rintro ae bG a5 a6 a7 ⟨bH,ag⟩ bI;have ah:=ag;unfold QR at ah;refine zg 7 rfl (AK ah (fun a8 a9=>?_) (fun a8 ba=>?_))
     ·obtain⟨bJ,bb,bc⟩:=bs a9;refine zg 8 rfl (Ba bb rfl rfl rfl ?_);refine zg 2 rfl ?_;cases bc
     ·refine JL.exit rfl ?_;obtain rfl:=oi ba;obtain rfl:=a7 _ ag;exact aR a5 a6 rfl
   ·refine JL.exit rfl ?_;obtain rfl:=oi aJ;obtain rfl:=aF _ U;exact aE Z aa rfl
 ·refine JL.block (CC ao (fun O=> []) (fun O=> [(0,.slice none 0 0),(1,iV p1),(2,(fV 125)),(6,iV 20),(7,iV O.1),(8,iV O.2)]) Aq al ?_);rintro O bK ai aj bd ⟨bL,V⟩ be;have ak:=V;unfold QX at ak;refine zg 7 rfl (AK ak (fun bf bg=>?_) (fun bf bh=>?_))
  ·obtain⟨bM,bi,bj⟩:=bs bg;refine zg 8 rfl (BH (Rc bi) rfl rfl Lw aj fun bN bl bm=>?_);obtain⟨bn,bo,bp⟩:=bs bj;refine zg 9 rfl (Ba bo rfl rfl rfl ?_);refine zg 3 rfl ?_;obtain rfl:=oi bp;exact be (O.2,bn) (ai.Ac bl) bm rfl V
  ·refine JL.exit rfl ?_;obtain rfl:=oi bh;obtain rfl:=bd _ V;exact au ai aj rfl
def Sw(fuel:Nat):Option Unit:= (OZ fuel ((0:Nat):Int)).bind fun K=> some ()
theorem VV{fuel:Nat}{r:Unit}(K:Sw fuel=some r):AQ J 124 [nS,(fV 125)] E [] (fun w E' B'=>w= .tuple #[]∧B'= []):=by
 refine Bc func124 fun Q ab cs H O U=>?_;unfold Sw at K;refine zg 3 rfl (Bp underlying25 rfl rfl rfl ?_);obtain⟨ae,V,W⟩:=bs K;refine zg 1 rfl (BH (WJ V) rfl rfl (A2 func138 rfl) O fun ag Z aa=>?_);refine JL.done ?_;obtain rfl:=oi W;exact JL.fin (v:= .tuple #[]) rfl rfl (B9.list func124 rfl (vs:= []) trivial) (U Z rfl ⟨rfl,rfl⟩ aa)
theorem WE{J:Judge Tryz.prog}{E:LH}{a:Ap}{c:Nat}{g:Seg}{p0:A4}(V:OL 27 BJ E a c g p0){fuel:Nat}{r:A4}(K:f124 fuel p0=some r):
  AQ J 124 [.slice a p0.length c,.func (.func 125) #[] #[]] E g (fun w E' B'=>w= .tuple #[]∧OL 27 BJ E' a c B' r∧r.length=p0.length):=by
 rcases V.cases with⟨rfl,rfl,rfl,rfl⟩ | ⟨bk,f,rfl,rfl,hW⟩
 ·have W:r= []:=by
   cases fuel with
   | zero=>exact absurd K (by simp [f124,f138,iter])
   | succ fuel=>
    cases fuel with
    | zero=>exact(Option.some.inj (K.symm.trans (by rfl:f124 1 []=some []))).trans rfl
    | succ fuel=>exact(Option.some.inj (K.symm.trans (by rfl:f124 (fuel+2) []=some []))).trans rfl
  subst W;refine(VV (fuel:=10) (r:=()) rfl).Ai ?_;rintro w E' B' hle ⟨O,rfl⟩;exact⟨O,OL.nil,rfl⟩
 ·refine(Xx hW K).Ai ?_;rintro w E' B' hle ⟨Z,O,rfl,U⟩;exact⟨O,U.1,U.2⟩
end Pal
namespace Pal
open Go Go.Conc Go.Proofs
open Go.Proofs.Tryz
def f94(fuel:Nat)(p0:A4)(p1:A4):Option ((A4)):= (Dl p0 p1).bind fun K=> (f123 fuel K).bind fun O=> (f124 fuel O).bind fun U=> some U
theorem Yr{E:LH}{K:Ap}{c2:Nat}{O:Ap}{U:Nat}{p0:A4}{p1:A4}(Z:Ao BJ E K c2 p0)(al:Ao BJ E O U p1){fuel:Nat}{r:(A4)}(ae:f94 fuel p0 p1=some r):AQ (DN Tryz.prog) 94 [sV K p0 c2,sV O p1 U] E [] (fun w E' B'=>∃(ag:Ap) (ah:Nat),w= sV ag r ah∧B'= []∧Ao BJ E' ag ah r):=by
 refine Bc func94 fun Q aJ cs H am an=>?_;unfold f94 at ae;refine zg 8 rfl (Bp underlying25 rfl rfl rfl ?_);refine zg 1 rfl (Bp underlying25 rfl rfl rfl ?_);refine AA (v:= .slice K p0.length p0.length) rfl (fun ρ h=>TD (Ao.spot Z) (And.left Z) underlying25 CS (h _ _ rfl) (h _ _ rfl) (h _ _ rfl)) ?_;obtain⟨ai,ao,ap⟩:=bs ae;refine zg 1 rfl (TJ (pp:=BJ) ao rfl rfl rfl rfl rfl rfl rfl underlying25 underlying25 CS (CP type27) F6 rfl (by decide) (by decide) Z al am fun aK aj ak aq ar au=>?_);obtain⟨aL,av,aw⟩:=bs ap;refine zg 5 rfl (BO (XJ ar av) rfl rfl (A2 func123 rfl) au ?_);rintro _ aM _ ay ⟨V,W,aN,rfl,rfl,az⟩ aA;obtain⟨aa,aB,aC⟩:=bs aw;refine zg 5 rfl (BY 2 (WE az aB) rfl rfl (A2 func124 rfl) aA rfl ?_);rintro _ aO aP aD ⟨rfl,aE,ab⟩ aF;refine GV (L':= [(17,.tuple #[]),(0,.slice K p0.length c2),(1,.slice O p1.length U),(4,.slice none 0 0),(6,.slice K p0.length c2),(7,.slice K p0.length c2),(8,iV (p0.length:Int)),(9,.slice K p0.length c2),(10,iV (p0.length:Int)),(11,.slice K p0.length p0.length),(12,.slice O p1.length U),(13,.slice aj ai.length ak),(5,.slice V aa.length W),(14,.slice aj ai.length ak),(15,.slice V aa.length W),(16,.slice V aa.length W)]) ⟨rfl,rfl,rfl,rfl,rfl,rfl,rfl,rfl,rfl,rfl,rfl,rfl,by rw [ab];rfl,rfl,by rw [ab];rfl,by rw [ab];rfl,trivial⟩ ?_;refine zg 6 rfl (Ca 2 aE aF rfl fun aQ aG aH aI=>?_);obtain rfl:=oi aC;exact AF func94 rfl rfl (an (((aq.Ac ay).Ac aD).Ac aG) rfl ⟨V,W,rfl,rfl,aH⟩ aI)
def f37(fuel:Nat)(p0:Bt)(p1:A4)(p2:A4):Option (Bool×Int):= (f69 fuel p0 p1).bind fun O=> if O≠0 then(some (false,O)) else((f69 fuel p0 p2).bind fun U=> if U≠0 then(some (false,U)) else((f92 fuel p0).bind fun aa=> (aa).bind fun K=> (f93 fuel K p1).bind fun V=> (f93 fuel K p2).bind fun W=> Option.bind (if(V.2.length:Int)=0 then(some true) else(some (decide ((W.2.length:Int)=0)))) fun ab=> if ab=true then(some (false,0)) else((f94 fuel p1 p2).bind fun ae=> (f93 fuel K ae).bind fun Z=> Option.bind (if 0<(Z.2.length:Int) then((Au (V.1+W.1)).bind fun ag=> some (decide (Z.1≤ag))) else(some false)) fun ah=> some (ah,0))))
theorem YV{E:LH}{aB:Ap}{c2:Nat}{aC:Ap}{aD:Nat}{ai:Ap}{aj:Nat}{ak:Ap}{al:Nat}{p0:Bt}{p1:A4}{p2:A4}(am:Ao (rL rI) E aB c2 p0.1)(an:Ao (rL rI) E aC aD p0.2)(ao:Ao BJ E ai aj p1)(ap:Ao BJ E ak al p2){fuel:Nat}{r:Bool×Int}(aE:f37 fuel p0 p1 p2=some r):AQ (DN Tryz.prog) 37 [.agg #[sV aB p0.1 c2,sV aC p0.2 aD],sV ai p1 aj,sV ak p2 al] E [] (fun w E' B'=>w= .tuple #[.bool r.1,iV r.2]∧B'= []):=by
 refine Bc func37 fun Q bZ cs H aS ah=>?_;unfold f37 at aE;refine zg 2 rfl (Cs aS fun b0 b1 K aq aT=>?_);refine zg 6 rfl (Cm aq Cy Cc rfl rfl ?_);obtain⟨b2,aU,aV⟩:=bs aE;refine zg 1 rfl (BH (KZ (am.Ai K) (an.Ai K) (ao.Ai K) aU) rfl rfl J1 aT fun b3 O aF=>?_);refine zg 7 rfl (AK aV (fun aW aX=>?_) (fun aW aY=>?_))
 ·refine zg 6 rfl ?_;obtain rfl:=oi aX;exact AF func37 rfl rfl (ah (K.Ac O) rfl ⟨rfl,rfl⟩ aF)
 ·refine zg 4 rfl (Cm (aq.Ai O) Cy Cc rfl rfl ?_);obtain⟨b4,aZ,a0⟩:=bs aY;refine zg 1 rfl (BH (KZ (am.Ai (K.Ac O)) (an.Ai (K.Ac O)) (ap.Ai (K.Ac O)) aZ) rfl rfl J1 aF fun b5 V a1=>?_);refine CB (S':= [[],[],[],[]]) rfl a1 fun aG=>zg 7 rfl (AK a0 (fun a2 a3=>?_) (fun a2 a4=>?_))
  ·refine zg 6 rfl ?_;obtain rfl:=oi a3;exact AF func37 rfl rfl (ah ((K.Ac O).Ac V) rfl ⟨rfl,rfl⟩ aG)
  ·refine zg 3 rfl (Cm (aq.Ai (O.Ac V)) Cy Cc rfl rfl ?_);obtain⟨b6,a5,a6⟩:=bs a4;refine BO (M4 (am.Ai ((K.Ac O).Ac V)) (an.Ai ((K.Ac O).Ac V)) a5) rfl rfl Ly aG ?_;rintro b7 b8 _ ag ⟨_,rfl,rfl,a7⟩ a8;obtain⟨b9,a9,ba⟩:=bs a6;have aH:=a7;refine zg 6 rfl ?_;rw [a9] at aH;obtain⟨bb,bc,_,rfl,ar,⟨_,_,rfl,⟨ca,cb,rfl,au⟩,⟨_,cc,rfl,⟨cd,ce,rfl,av⟩,aw⟩⟩⟩:=aH;obtain⟨cf,bd,be⟩:=bs ba;refine BO (Ni ar au av aw (ao.Ai (((K.Ac O).Ac V).Ac ag)) bd) rfl rfl LA a8 ?_;rintro _ cg _ U ⟨ci,ck,rfl,rfl,cm⟩ bf;obtain⟨cn,bg,bh⟩:=bs be;refine zg 2 rfl (BO (Ni (ar.Ai U) (au.Ai U) (av.Ai U) (Rp.Ai _ U aw) (ap.Ai ((((K.Ac O).Ac V).Ac ag).Ac U)) bg) rfl rfl LA bf ?_);rintro _ co _ aa ⟨cp,cq,rfl,rfl,cr⟩ bi;refine CB (S':= [[],[],[],[],[],[],[]]) rfl bi fun bj=>CO bj FQ fun bl bm=>?_;refine CO bm FQ fun aI bn=>?_;refine BQ 7 bn Dh fun bo=>?_;refine Dp 7 bo rfl fun ct ab aJ bp=>CB (S':= [[],[],[],[],[],[],[],[],[(aI,.cells #[iV 0,nS] 97 (0,0))]]) rfl bp fun bq=>BQ 8 bq Dh fun br=>?_;refine Dp 8 br rfl fun ay W aK aL=>zg 4 rfl (JL.fl 1 (aJ.Ai W) underlying97 Dy EE ?_);refine Bp underlying95 rfl rfl rfl ?_;obtain⟨bu,bv,bw⟩:=bs bh;refine zg 2 rfl (Gb [] (fun L s=>∃(aM:LH),Jm ay H aM [] [(1,sV ai p1 aj),(2,sV ak p2 al),(10,pV bb bc),(11,pV bl 0),(12,pV aI 0),(43,.bool bu)] L s) ?_ ?_)
   ·rintro _ _ ⟨aM,rfl,rfl,Z,aN⟩;refine JL.done (BM bw (fun bx bz=>?_) (fun bx bA=>?_))
    ·refine zg 5 rfl ?_;obtain rfl:=oi bz;exact AF func37 rfl rfl (ah ((((((((K.Ac O).Ac V).Ac ag).Ac U).Ac aa).Ac ab).Ac W).Ac Z) rfl ⟨rfl,rfl⟩ aN)
    ·obtain⟨cu,bB,bC⟩:=bs bA;refine zg 6 rfl (BO (Yr (ao.Ai ((((((((K.Ac O).Ac V).Ac ag).Ac U).Ac aa).Ac ab).Ac W).Ac Z)) (ap.Ai ((((((((K.Ac O).Ac V).Ac ag).Ac U).Ac aa).Ac ab).Ac W).Ac Z)) bB) rfl rfl (A2 func94 rfl) aN ?_);rintro _ cv _ ae ⟨cw,cy,rfl,rfl,bD⟩ bE;obtain⟨cz,bF,bG⟩:=bs bC;refine BO (Ni (ar.Ai (((((U.Ac aa).Ac ab).Ac W).Ac Z).Ac ae)) (au.Ai (((((U.Ac aa).Ac ab).Ac W).Ac Z).Ac ae)) (av.Ai (((((U.Ac aa).Ac ab).Ac W).Ac Z).Ac ae)) (Rp.Ai _ (((((U.Ac aa).Ac ab).Ac W).Ac Z).Ac ae) aw) bD bF) rfl rfl LA bE ?_;rintro _ cA _ az ⟨cB,cC,rfl,rfl,cD⟩ bH;refine CB (S':= [[],[]]) rfl bH fun bI=>CO bI FQ fun cE bJ=>?_;refine BQ 2 bJ Dh fun bK=>?_;refine Dp 2 bK rfl fun cF aA aO aP=>zg 3 rfl (JL.fl 1 aO underlying97 Dy EE ?_);refine Bp underlying95 rfl rfl rfl ?_;obtain⟨bL,bM,bN⟩:=bs bG;refine zg 2 rfl (CV 14 2 [] [(62,.bool bL)] (fun cG bO bP=>?_) (fun aQ=>?_))
     ·refine zg 3 rfl ?_;obtain rfl:=oi bN;exact AF func37 rfl rfl (ah ((((((((((((K.Ac O).Ac V).Ac ag).Ac U).Ac aa).Ac ab).Ac W).Ac Z).Ac ae).Ac az).Ac aA).Ac bO) rfl ⟨rfl,rfl⟩ bP)
     ·refine Ew 53 bM (fun bQ bR=>?_) (fun bQ bS=>?_)
      ·refine JL.fl 0 aO underlying97 AW Bx ?_;refine JL.fl 0 (aJ.Ai ((((W.Ac Z).Ac ae).Ac az).Ac aA)) underlying97 AW Bx ?_;refine JL.fl 0 (aK.Ai (((Z.Ac ae).Ac az).Ac aA)) underlying97 AW Bx ?_;obtain⟨cH,bT,bU⟩:=bs bR;refine Ba bT rfl rfl rfl (zg 2 rfl ?_);obtain rfl:=oi bU;exact aQ Aq aP rfl
      ·refine zg 9 rfl ?_;obtain rfl:=oi bS;exact aQ Aq aP rfl
   ·intro aR;refine Ew 38 bv (fun bV bW=>?_) (fun bV bY=>?_)
    ·refine zg 5 rfl ?_;obtain rfl:=oi bW;exact Ay (aR _ _ ⟨ay,rfl,rfl,Aq,aL⟩) rfl
    ·refine JL.fl 1 aK underlying97 Dy EE ?_;refine Bp underlying95 rfl rfl rfl (zg 2 rfl ?_);obtain rfl:=oi bY;exact Ay (aR _ _ ⟨ay,rfl,rfl,Aq,aL⟩) rfl
end Pal
namespace Pal
open Go Go.Conc Go.Proofs
open Go.Proofs.Tryz
def Nh:List Nat:= [0,1,1,2,1,2,2,3,1,2,2,3,2,3,3,4,1,2,2,3,2,3,3,4,2,3,3,4,3,4,4,5,1,2,2,3,2,3,3,4,2,3,3,4,3,4,4,5,2,3,3,4,3,4,4,5,3,4,4,5,4,5,5,6,1,2,2,3,2,3,3,4,2,3,3,4,3,4,4,5,2,3,3,4,3,4,4,5,3,4,4,5,4,5,5,6,2,3,3,4,3,4,4,5,3,4,4,5,4,5,5,6,3,4,4,5,4,5,5,6,4,5,5,6,5,6,6,7,1,2,2,3,2,3,3,4,2,3,3,4,3,4,4,5,2,3,3,4,3,4,4,5,3,4,4,5,4,5,5,6,2,3,3,4,3,4,4,5,3,4,4,5,4,5,5,6,3,4,4,5,4,5,5,6,4,5,5,6,5,6,6,7,2,3,3,4,3,4,4,5,3,4,4,5,4,5,5,6,3,4,4,5,4,5,5,6,4,5,5,6,5,6,6,7,3,4,4,5,4,5,5,6,4,5,5,6,5,6,6,7,4,5,5,6,5,6,6,7,5,6,6,7,6,7,7,8]
def f86(fuel:Nat)(p0:Nat):Option Int:= (Lb Nh ((((p0>>>8):Nat):Int))).bind fun K=> (JK p0 (255)).bind fun O=> (Lb Nh ((((O):Nat):Int))).bind fun U=> (Au ((((K+U) % 256):Nat):Int)).bind fun V=> some V
theorem YU{E:LH}{p0:Nat}{fuel:Nat}{r:Int}(K:f86 fuel p0=some r):AQ (DN Tryz.prog) 86 [uV p0] E [] (fun w E' B'=>w=iV r∧B'= []):=by
 refine Bc func86 fun Q am cs H V W=>?_;unfold f86 at K;refine zg 5 rfl (DG 6 fun ht=>?_);refine Cv 0 ht rfl rfl (BC (v:= .int .u16 ((p0>>>8:Nat):Int)) 1 ht rfl rfl (fun ρ h s' hs=>Vd 8 (h _ _ rfl) (h _ _ rfl) (by decide)) ?_);obtain⟨O,Z,aa⟩:=bs K;refine BC (v:= .int .u8 ((O:Nat):Int)) 2 ht rfl rfl (fun ρ h s' hs=>N2 (l:=Nh) (by decide+kernel) underlying9 (h _ _ rfl) (h _ _ rfl) Z) (Cv 3 ht rfl rfl ?_);obtain⟨ab,ae,ag⟩:=bs aa;refine BC (v:= uV ab) 4 ht rfl rfl (fun ρ h s' hs=>NW (h _ _ rfl) (h _ _ rfl) ae) ?_;obtain⟨U,ah,ai⟩:=bs ag;refine BC (v:= .int .u8 ((U:Nat):Int)) 5 ht rfl rfl (fun ρ h s' hs=>N2 (l:=Nh) (by decide+kernel) underlying9 (h _ _ rfl) (h _ _ rfl) ah) (Co [6,7,8] ?_);refine AA (v:= .int .u8 (((O+U) % 256:Nat):Int)) rfl (fun ρ h=>Vn (h _ _ rfl) (h _ _ rfl)) ?_;obtain⟨aj,ak,al⟩:=bs ai;refine AA (v:=iV aj) rfl (fun ρ h=>RB underlying5 underlying3 (h _ _ rfl) ak) (zg 2 rfl ?_);obtain rfl:=oi al;exact AF func86 rfl rfl (W Aq rfl ⟨rfl,rfl⟩ V)
end Pal
namespace Pal
open Go Go.Conc Go.Proofs
open Go.Proofs.Tryz
def f85(fuel:Nat)(p0:Nat):Option Int:= (f86 fuel p0).bind fun K=> some K
theorem Sv{E:LH}{p0:Nat}{fuel:Nat}{r:Int}(K:f85 fuel p0=some r):AQ (DN Tryz.prog) 85 [uV p0] E [] (fun w E' B'=>w=iV r∧B'= []):=by
 refine Bc func85 fun Q ab cs H O U=>?_;unfold f85 at K;obtain⟨ae,V,W⟩:=bs K;refine zg 7 rfl (BH (YU V) rfl rfl (A2 func86 rfl) O fun ag Z aa=>?_);refine zg 2 rfl ?_;obtain rfl:=oi W;exact AF func85 rfl rfl (U Z rfl ⟨rfl,rfl⟩ aa)
end Pal
namespace Pal
open Go Go.Conc Go.Proofs
open Go.Proofs.Tryz
def Kv(fuel:Nat)(V:BZ)(U:(List Int))(K:(List Nat)×Int):Option (Bl ((List Nat)×Int) ((List Nat))):= if K.2<(U.length:Int) then((ix U K.2).bind fun O=> (ix K.1 O).bind fun W=> (f90 fuel W V.1).bind fun Z=> (ix K.1 O).bind fun ab=> (Au (K.2+1)).bind fun aa=> some (.more ((K.1.set (Int.toNat O) Z),aa))) else(some (.done K.1))
def MI(fuel:Nat)(O:(Option BR)×(Int×(List BZ))×Int)(V:BR)(W:Int×Int×Int)(K:(List Nat)×Int):Option (Bl ((List Nat)×Int) ((List Nat))):= if K.2<(O.2.1.2.length:Int) then((ix O.2.1.2 K.2).bind fun U=> (f88 fuel V U W.2.2).bind fun Z=> (f89 fuel Z).bind fun aa=> Option.bind (iter (Kv fuel U aa) fuel (K.1,0)) fun ab=> (Au (K.2+1)).bind fun ae=> some (.more (ab,ae))) else(some (.done K.1))
def MT(fuel:Nat)(O:(List Nat))(K:Int×Int):Option (Bl (Int×Int) Int):= if K.2<8 then((ix O K.2).bind fun U=> (f85 fuel U).bind fun V=> (Au (K.2+1)).bind fun W=> some (.more (max K.1 V,W))) else(some (.done K.1))
def MM(fuel:Nat)(V:(Option BR)×(Int×(List BZ))×Int)(W:BR)(K:Int×Int×Int):Option (Bl (Int×Int×Int) (Int×Int)):= if K.2.2<7 then(Option.bind (iter (MI fuel V W K) fuel ((List.replicate 8 (0:Nat)),0)) fun Z=> Option.bind (iter (MT fuel Z) fuel (0,0)) fun O=> Option.bind (if O<K.2.1 then(some (K.2.2,O)) else(some (K.1,K.2.1))) fun U=> (Au (K.2.2+1)).bind fun aa=> some (.more (U.1,U.2,aa))) else(some (.done (K.1,K.2.1)))
def f35(fuel:Nat)(p0:Bt)(p1:A4):Option (Int×Int×Int):= (f78 fuel p0 p1 (-1) false).bind fun K=> if K.2.2≠0 then(some (0,0,K.2.2)) else((f87 fuel K.2.1.2).bind fun U=> (f85 fuel U).bind fun V=> (K.1).bind fun W=> Option.bind (iter (MM fuel K W) fuel ((-1),V,0)) fun O=> if O.1<0 then(some (0,0,11)) else(some (O.1,O.2,0)))
theorem Sy{E:LH}{aU:Ap}{c2:Nat}{aV:Ap}{aW:Nat}{aX:Ap}{aY:Nat}{p0:Bt}{p1:A4}(bv:Ao (rL rI) E aU c2 p0.1)(bw:Ao (rL rI) E aV aW p0.2)(bx:Ao BJ E aX aY p1){fuel:Nat}{r:Int×Int×Int}(aZ:f35 fuel p0 p1=some r):AQ (DN Tryz.prog) 35 [.agg #[sV aU p0.1 c2,sV aV p0.2 aW],sV aX p1 aY] E [] (fun w E' B'=>w= .tuple #[iV r.1,iV r.2.1,iV r.2.2]∧B'= []):=by
 refine Bc func35 fun Q dL cs H bz aG=>?_;unfold f35 at aZ;refine zg 2 rfl (Cs bz fun dM dN ag bA bB=>?_);refine zg 6 rfl (Cm bA Cy Cc rfl rfl ?_);obtain⟨ah,bC,bD⟩:=bs aZ;refine zg 1 rfl (BO (KN (bv.Ai ag) (bw.Ai ag) (bx.Ai ag) bC) rfl rfl J0 bB ?_);rintro _ dO _ aH ⟨dP,aI,aJ,rfl,rfl,bE,a0⟩ bF;refine zg 4 rfl (CO bF FQ fun U bG=>?_);refine zg 1 rfl (BQ 3 bG Dh fun bH=>?_);refine Dp 3 bH rfl fun dQ ai a1 a2=>zg 8 rfl (AK bD (fun bI bJ=>?_) (fun bI bK=>?_))
 ·refine zg 7 rfl ?_;obtain rfl:=oi bJ;exact AF func35 rfl rfl (aG ((ag.Ac aH).Ac ai) rfl ⟨rfl,rfl⟩ a2)
 ·refine zg 8 rfl (JL.fl 1 a1 underlying97 Dy EE ?_);obtain⟨bL,bM,bN⟩:=bs bK;refine BH (Yq (a0.Ai ai) bM) rfl rfl (A2 func87 rfl) a2 fun dR an bO=>?_;obtain⟨dS,bP,bQ⟩:=bs bN;refine Kh (vs:= [uV bL]) (Sv bP) rfl rfl rfl rfl (A2 func85 rfl) rfl bO ?_;rintro _ dT _ ao ⟨rfl,rfl⟩ bR;obtain⟨dU,bS,bT⟩:=bs bQ;have a3:=(bE.Ai ((ai.Ac an).Ac ao));refine zg 11 rfl ?_;rw [bS] at a3;obtain⟨V,W,_,rfl,bU,⟨_,_,rfl,⟨dV,dW,rfl,bV⟩,⟨_,dX,rfl,⟨dY,dZ,rfl,bW⟩,bY⟩⟩⟩:=a3;obtain⟨a4,bZ,b0⟩:=bs bT;refine Cu [] [(4,iV a4.1),(10,iV a4.2)] (fun ea a5 a6=>?_) (fun b1=>?_)
  ·refine zg 6 rfl (AK b0 (fun b2 b3=>?_) (fun b2 b4=>?_))
   ·refine zg 6 rfl ?_;obtain rfl:=oi b3;exact AF func35 rfl rfl (aG (((((ag.Ac aH).Ac ai).Ac an).Ac ao).Ac a5) rfl ⟨rfl,rfl⟩ a6)
   ·refine zg 9 rfl ?_;obtain rfl:=oi b4;exact AF func35 rfl rfl (aG (((((ag.Ac aH).Ac ai).Ac an).Ac ao).Ac a5) rfl ⟨rfl,rfl⟩ a6)
  ·refine JL.block (CC bZ (fun K=> []) (fun K=> [(4,iV K.1),(7,pV V W),(8,pV U 0),(9,(fV 85)),(10,iV K.2.1),(35,iV K.2.2)]) Aq bR ?_);rintro K aw Z a7 b5 ⟨eb,aK⟩ b6;have a8:=aK;unfold MM at a8;refine zg 5 rfl (AK a8 (fun b7 b8=>?_) (fun b7 b9=>?_))
   ·refine zg 10 rfl (CO a7 (DY type114) fun O ca=>?_);refine zg 4 rfl (JL.fl 1 (a1.Ai ((an.Ac ao).Ac Z)) underlying97 Dy EE ?_);refine Bp underlying95 rfl rfl rfl ?_;obtain⟨cb,cc,cd⟩:=bs b8;refine zg 2 rfl (Bs (fun L s=>∃(aL:LH) (ap:Lv_),Jn aw H aL [bX O (([]:Lv_)++ap).toArray 114] [(4,iV K.1),(7,pV V W),(8,pV U 0),(9,(fV 85)),(10,iV K.2.1),(11,iV K.2.2),(12,pV O 0),(35,iV K.2.2)] L s ((rA 8 (rN .u16)).r aL ap cb)) ?_ ?_)
    ·rintro _ _ ⟨aL,ap,rfl,rfl,ce,a9,ba⟩;refine zg 7 rfl (AA (v:= .agg ap.toArray) rfl (fun ρ h=>Kg (kk:=8) (pp:=(rN .u16)) ba (DZ underlying114) (Bq type114) (h _ _ rfl) (LZ (l:= []) 0 a9 rfl)) ?_);obtain⟨cf,cg,ci⟩:=bs cd;refine zg 2 rfl (Cu [] [(4,iV K.1),(7,pV V W),(8,pV U 0),(9,(fV 85)),(10,iV K.2.1),(11,iV K.2.2),(17,iV cf),(35,iV K.2.2)] (fun ec ck bb=>?_) (fun cm=>?_))
     ·obtain⟨ay,cn,co⟩:=bs ci;refine zg 6 rfl (Cu [] [(4,iV ay.1),(7,pV V W),(8,pV U 0),(9,(fV 85)),(10,iV ay.2),(35,iV K.2.2)] (fun ed cp cq=>?_) (fun bc=>?_))
      ·obtain⟨cr,ct,cu⟩:=bs co;refine zg 2 rfl (Ba ct rfl rfl rfl ?_);refine zg 2 rfl ?_;obtain rfl:=oi cu;exact b6 (ay.1,ay.2,cr) (((Z.Ac ce).Ac ck).Ac cp) cq rfl aK
      ·refine AK cn (fun cv cw=>?_) (fun cv cy=>?_)
       ·refine zg 6 rfl ?_;obtain rfl:=oi cw;exact bc Aq bb rfl
       ·refine JL.skip ?_;obtain rfl:=oi cy;exact bc Aq bb rfl
     ·refine JL.block (JS.drop 0 a9 rfl fun cz=>?_);refine CC cg (fun aj=> []) (fun aj=> [(4,iV K.1),(7,pV V W),(8,pV U 0),(9,(fV 85)),(10,iV K.2.1),(11,iV K.2.2),(17,iV aj.1),(35,iV K.2.2),(65,.agg ap.toArray),(66,iV aj.2)]) Aq cz ?_;rintro aj ee aM bd cA ⟨ef,aN⟩ cB;have be:=aN;unfold MT at be;refine zg 5 rfl (AK be (fun cC cD=>?_) (fun cC cE=>?_))
      ·obtain⟨cF,cG,cH⟩:=bs cD;refine zg 5 rfl (Xr (Rp.Ai _ aM ba) cG rfl rfl rfl rfl rfl underlying114 El GK ?_ (fun _=>rfl));rintro _ rfl;obtain⟨bf,cI,cJ⟩:=bs cH;refine zg 6 rfl (Kh (vs:= [uV cF]) (Sv cI) rfl rfl rfl rfl (A2 func85 rfl) rfl bd ?_);rintro _ eg _ cK ⟨rfl,rfl⟩ cM;refine AA (v:=iV (max aj.1 bf)) rfl (fun ρ h=>Yl.max2 (h _ _ rfl) (h _ _ rfl)) ?_;obtain⟨cN,cO,cP⟩:=bs cJ;refine zg 4 rfl (Ba cO rfl rfl rfl ?_);refine zg 2 rfl ?_;obtain rfl:=oi cP;exact cB (max aj.1 bf,cN) (aM.Ac cK) cM rfl aN
      ·refine JL.exit rfl ?_;obtain rfl:=oi cE;obtain rfl:=cA _ aN;exact cm aM bd rfl
    ·intro cQ;refine JL.block (CG cc (fun L s aq=>∃(az:LH) (ar:Lv_),Jn aw H az [bX O (([]:Lv_)++ar).toArray 114] [(4,iV K.1),(7,pV V W),(8,pV U 0),(9,(fV 85)),(10,iV K.2.1),(11,iV K.2.2),(12,pV O 0),(35,iV K.2.2),(39,sV aI ah.2.1.2 aJ),(40,iV (ah.2.1.2.length:Int)),(41,iV aq.2)] L s ((rA 8 (rN .u16)).r az ar aq.1)) ⟨aw,(List.replicate 8 (uV 0):Lv_),rfl,rfl,Aq,ca,(Jt (E:=aw) (pp:=(rN .u16)) rfl)⟩ ?_);rintro _ _ aq ⟨az,ar,rfl,rfl,aa,bg,bh⟩ cR ⟨eh,aO⟩ cT;have bi:=aO;unfold MI at bi;refine zg 5 rfl (AK bi (fun cV cW=>?_) (fun cV cX=>?_))
     ·obtain⟨cY,cZ,c0⟩:=bs cW;refine zg 5 rfl (Cb (a0.Ai ((((ai.Ac an).Ac ao).Ac Z).Ac aa)) cZ underlying95 Ci ?_);rintro ei ej _ ⟨_,_,rfl,rfl,⟨_,_,rfl,⟨ek,el,rfl,c1⟩,rfl⟩⟩ c3;refine Cm c3 FO Ci rfl rfl (CO bg GM fun c4 c5=>?_);refine BQ 1 c5 Ci fun c6=>?_;refine Dp 1 c6 rfl fun em ab bj c7=>zg 4 rfl (Cm bj FO Ci rfl rfl ?_);obtain⟨en,c8,c9⟩:=bs c0;refine zg 1 rfl (BH (YJ (bU.Ai ((Z.Ac aa).Ac ab)) (bV.Ai ((Z.Ac aa).Ac ab)) (bW.Ai ((Z.Ac aa).Ac ab)) (Rp.Ai _ ((Z.Ac aa).Ac ab) bY) (c1.Ai ab) c8) rfl rfl (A2 func88 rfl) c7 fun eo aP da=>?_);obtain⟨bl,db,dc⟩:=bs c9;refine BO (IL db) rfl rfl It da ?_;rintro _ aQ _ aR ⟨dd,de,rfl,rfl,df⟩ dg;refine Bp underlying28 rfl rfl rfl ?_;obtain⟨bm,dh,di⟩:=bs dc;refine zg 2 rfl (Bs (fun L s=>∃(aA:LH) (aB:Lv_),Jn aQ H aA [bX O (([]:Lv_)++aB).toArray 114] [(4,iV K.1),(7,pV V W),(8,pV U 0),(9,(fV 85)),(10,iV K.2.1),(11,iV K.2.2),(12,pV O 0),(35,iV K.2.2),(39,sV aI ah.2.1.2 aJ),(40,iV (ah.2.1.2.length:Int)),(41,iV aq.2)] L s ((rA 8 (rN .u16)).r aA aB bm)) ?_ ?_)
      ·rintro _ _ ⟨aA,aB,rfl,rfl,dj,dk,dl⟩;obtain⟨dm,dn,dp⟩:=bs di;refine zg 2 rfl (Ba dn rfl rfl rfl ?_);refine zg 2 rfl ?_;obtain rfl:=oi dp;exact Ay (cT _ _ (bm,dm) ⟨aA,aB,rfl,rfl,((((aa.Ac ab).Ac aP).Ac aR).Ac dj),dk,dl⟩ aO) rfl
      ·intro dq;refine JL.block (CG dh (fun L s au=>∃(aC:LH) (ak:Lv_),Jn aQ H aC [bX O (([]:Lv_)++ak).toArray 114] [(4,iV K.1),(7,pV V W),(8,pV U 0),(9,(fV 85)),(10,iV K.2.1),(11,iV K.2.2),(12,pV O 0),(14,pV c4 0),(35,iV K.2.2),(39,sV aI ah.2.1.2 aJ),(40,iV (ah.2.1.2.length:Int)),(41,iV aq.2),(49,sV dd bl de),(50,iV (bl.length:Int)),(51,iV au.2)] L s ((rA 8 (rN .u16)).r aC ak au.1)) ⟨aQ,ar,rfl,rfl,Aq,dg,(Rp.Ai _ ((ab.Ac aP).Ac aR) bh)⟩ ?_);rintro _ _ au ⟨aC,ak,rfl,rfl,aD,av,al⟩ dr ⟨ep,aS⟩ dt;have bn:=aS;unfold Kv at bn;refine zg 5 rfl (AK bn (fun du dv=>?_) (fun du dw=>?_))
       ·obtain⟨am,dx,dy⟩:=bs dv;refine zg 5 rfl (Cb (df.Ai aD) dx underlying28 AW ?_);rintro eq er _ rfl dz;refine BW 0 dz Bx rfl rfl rfl (zg 2 rfl ?_);refine Dv 7 [O] ⟨⟨0,_,rfl⟩,trivial⟩ av fun ht=>Bi ht rfl [0,1] rfl ?_;obtain⟨bo,bp,dA⟩:=bs dy;obtain⟨_,rfl,_,_,dB⟩:=H3 (kk:=8) (pp:=(rN .u16)) al bp;refine BC (v:= .pointer (some ⟨O,0+Int.toNat (am)*1,none⟩)) 2 ht rfl rfl (fun ρ h s' hs=>I7 (kk:=8) (pp:=(rN .u16)) al bp underlying114 El (h _ _ rfl) (h _ _ rfl)) (BC (v:= uV bo) 3 ht rfl rfl (fun ρ h s' hs=>Yl.load GK (h _ _ rfl) (TY (l:= []) 0 av rfl (by simp [A5]) hs (dB 0 _ rfl))) ?_);refine B6 4 ht underlying104 AW rfl rfl rfl rfl (JG.lp 5 ht 0 (bj.Ai ((aP.Ac aR).Ac aD)) av ⟨⟨0,_,rfl⟩,trivial⟩ Bx ?_);obtain⟨ae,dC,dD⟩:=bs dA;refine QW (i:=6) ⟨⟨0,_,rfl⟩,trivial⟩ (vs:= [uV bo,iV cY.1]) (M8 dC) (by decide+kernel) rfl rfl rfl Lz rfl av ?_;rintro _ bq _ aE ⟨rfl,rfl⟩ dE;refine Co [7,8] ?_;obtain⟨et,aT,dF⟩:=bs dD;obtain⟨_,rfl,_,_,eu⟩:=H3 (kk:=8) (pp:=(rN .u16)) (Rp.Ai _ aE al) aT;refine AA (v:= .pointer (some ⟨O,0+Int.toNat (am)*1,none⟩)) rfl (fun ρ h=>I7 (kk:=8) (pp:=(rN .u16)) (Rp.Ai _ aE al) aT underlying114 El (h _ _ rfl) (h _ _ rfl)) ?_;have aF:=OO (us:= [uV ae]) (y:=ae) (Rp.Ai _ aE al) aT rfl;refine J9 (v:= uV ae) (l:= []) (ws:=ak) (us:= [uV ae]) (o:=Int.toNat (am)*1) 0 rfl rfl rfl dE rfl rfl rfl El (by simp [Value.cells,CM]) rfl aF.2 fun br=>?_;replace aF:=aF.1;generalize dG:Hp ak (Int.toNat (am)*1) [uV ae]=bu at br ⊢;have dH:(rA 8 (rN .u16)).r bq bu (au.1.set (Int.toNat am) ae):=by rw [← dG];exact aF
        obtain⟨dI,dJ,dK⟩:=bs dF;refine zg 3 rfl (Ba dJ rfl rfl rfl ?_);refine zg 2 rfl ?_;obtain rfl:=oi dK;exact Ay (dt _ _ ((au.1.set (Int.toNat am) ae),dI) ⟨bq,bu,rfl,rfl,(aD.Ac aE),br,dH⟩ aS) rfl
       ·refine JL.exit rfl ?_;obtain rfl:=oi dw;obtain rfl:=dr _ aS;exact Ay (dq _ _ ⟨aC,ak,rfl,rfl,aD,av,al⟩) rfl
     ·refine JL.exit rfl ?_;obtain rfl:=oi cX;obtain rfl:=cR _ aO;exact Ay (cQ _ _ ⟨az,ar,rfl,rfl,aa,bg,bh⟩) rfl
   ·refine JL.exit rfl ?_;obtain rfl:=oi b9;obtain rfl:=b5 _ aK;exact b1 Z a7 rfl
end Pal
namespace Pal
open Go Go.Conc Go.Proofs
open Go.Proofs.Tryz
def R7(fuel:Nat)(p2:Int)(O:(Option BR)×(Int×(List BZ))×Int)(K:Int×Int):Option (Bl (Int×Int) Int):= if K.2<(O.2.1.2.length:Int) then((ix O.2.1.2 K.2).bind fun U=> (f103 fuel U.2.2 p2).bind fun V=> Option.bind (if V=true then((Au (K.1+1)).bind fun W=> some W) else(some K.1)) fun Z=> (Au (K.2+1)).bind fun aa=> some (.more (Z,aa))) else(some (.done K.1))
def f49(fuel:Nat)(p0:Bt)(p1:A4)(p2:Int):Option (Int×Int):= (f69 fuel p0 p1).bind fun U=> if U≠0 then(some (0,U)) else((Au ((p1.length:Int) - 1)).bind fun V=> (f101 fuel p2 0 V).bind fun W=> if W=true then(some (0,3)) else((f78 fuel p0 p1 p2 false).bind fun K=> if K.2.2≠0 then(some (0,K.2.2)) else(Option.bind (iter (R7 fuel p2 K) fuel (0,0)) fun O=> Option.bind (Option.bind (Option.bind (if 0<O then(some (decide (O<(K.2.1.2.length:Int)))) else(some false)) fun Z=> if Z=true then((Au (0+1)).bind fun aa=> (Au (aa+1)).bind fun ab=> some ab) else(if O=0 then((Au (0+1)).bind fun ae=> some ae) else(some 0))) fun ag=> (Au (ag+1)).bind fun ah=> some ah) fun ai=> some (ai,0))))
theorem Yo{E:LH}{ak:Ap}{c2:Nat}{al:Ap}{am:Nat}{an:Ap}{ao:Nat}{p0:Bt}{p1:A4}{p2:Int}(ap:Ao (rL rI) E ak c2 p0.1)(aq:Ao (rL rI) E al am p0.2)(ar:Ao BJ E an ao p1){fuel:Nat}{r:Int×Int}(au:f49 fuel p0 p1 p2=some r):AQ (DN Tryz.prog) 49 [.agg #[sV ak p0.1 c2,sV al p0.2 am],sV an p1 ao,iV p2] E [] (fun w E' B'=>w= .tuple #[iV r.1,iV r.2]∧B'= []):=by
 refine Bc func49 fun Q cf cs H aN W=>?_;unfold f49 at au;refine zg 2 rfl (Cs aN fun cg ci K av aO=>?_);refine zg 6 rfl (Cm av Cy Cc rfl rfl ?_);obtain⟨ck,aP,aQ⟩:=bs au;refine zg 1 rfl (BH (KZ (ap.Ai K) (aq.Ai K) (ar.Ai K) aP) rfl rfl J1 aO fun cm O aw=>?_);refine zg 7 rfl (AK aQ (fun aR aS=>?_) (fun aR aT=>?_))
 ·refine zg 6 rfl ?_;obtain rfl:=oi aS;exact AF func49 rfl rfl (W (K.Ac O) rfl ⟨rfl,rfl⟩ aw)
 ·refine zg 6 rfl (Bp underlying25 rfl rfl rfl ?_);obtain⟨cn,aU,aV⟩:=bs aT;refine B7 aU rfl rfl rfl ?_;obtain⟨co,aW,aX⟩:=bs aV;refine BH (IJ aW) rfl rfl Ir aw fun cp U ay=>JL.done (BM aX (fun aY aZ=>?_) (fun aY a0=>?_))
  ·refine zg 5 rfl ?_;obtain rfl:=oi aZ;exact AF func49 rfl rfl (W ((K.Ac O).Ac U) rfl ⟨rfl,rfl⟩ ay)
  ·refine zg 3 rfl (Cm (av.Ai (O.Ac U)) Cy Cc rfl rfl ?_);obtain⟨Z,a1,a2⟩:=bs a0;refine zg 2 rfl (BO (KN (ap.Ai ((K.Ac O).Ac U)) (aq.Ai ((K.Ac O).Ac U)) (ar.Ai ((K.Ac O).Ac U)) a1) rfl rfl J0 ay ?_);rintro _ cq _ az ⟨cr,aA,aB,rfl,rfl,ct,a3⟩ a4;refine zg 4 rfl (CO a4 FQ fun aa a5=>?_);refine zg 1 rfl (BQ 5 a5 Dh fun a6=>?_);refine Dp 5 a6 rfl fun cu ab aC aD=>zg 8 rfl (AK a2 (fun a7 a8=>?_) (fun a7 a9=>?_))
   ·refine zg 6 rfl ?_;obtain rfl:=oi a8;exact AF func49 rfl rfl (W ((((K.Ac O).Ac U).Ac az).Ac ab) rfl ⟨rfl,rfl⟩ aD)
   ·refine zg 8 rfl (JL.fl 1 aC underlying97 Dy EE ?_);refine Bp underlying95 rfl rfl rfl ?_;obtain⟨aE,ba,bb⟩:=bs a9;refine zg 2 rfl (Cu [] [(10,pV aa 0),(12,iV aE)] (fun cv aF aG=>?_) (fun bc=>?_))
    ·obtain⟨bd,be,bf⟩:=bs bb;refine zg 5 rfl (Cu [] [(15,iV bd)] (fun cw bg bh=>?_) (fun bi=>?_))
     ·refine zg 6 rfl ?_;obtain rfl:=oi bf;exact AF func49 rfl rfl (W ((((((K.Ac O).Ac U).Ac az).Ac ab).Ac aF).Ac bg) rfl ⟨rfl,rfl⟩ bh)
     ·obtain⟨bj,bl,bm⟩:=bs be;refine zg 2 rfl (Cu [] [(15,iV bj)] (fun cy bn bo=>?_) (fun ae=>?_))
      ·obtain⟨cz,bp,bq⟩:=bs bm;refine zg 3 rfl (Ba bp rfl rfl rfl ?_);refine zg 3 rfl ?_;obtain rfl:=oi bq;exact bi bn bo rfl
      ·obtain⟨br,bu,bv⟩:=bs bl;refine zg 12 rfl (CV 9 1 [] [(12,iV aE),(15,iV 0),(61,.bool br)] (fun cA ag ah=>?_) (fun aH=>?_))
       ·refine zg 2 rfl (BM bv (fun bw bx=>?_) (fun bw bz=>?_))
        ·obtain⟨cB,bA,bB⟩:=bs bx;refine zg 3 rfl (Ba bA rfl rfl rfl ?_);obtain⟨cC,bC,bD⟩:=bs bB;refine zg 5 rfl (Ba bC rfl rfl rfl ?_);refine zg 3 rfl ?_;obtain rfl:=oi bD;exact ae ag ah rfl
        ·refine zg 7 rfl (AK bz (fun bE bF=>?_) (fun bE bG=>?_))
         ·obtain⟨cD,bH,bI⟩:=bs bF;refine zg 3 rfl (Ba bH rfl rfl rfl ?_);refine zg 3 rfl ?_;obtain rfl:=oi bI;exact ae ag ah rfl
         ·refine zg 2 rfl ?_;obtain rfl:=oi bG;exact ae ag ah rfl
       ·refine Ew 55 bu (fun bJ bK=>?_) (fun bJ bL=>?_)
        ·refine zg 1 rfl (JL.fl 1 (aC.Ai aF) underlying97 Dy EE ?_);refine Bp underlying95 rfl rfl rfl (zg 2 rfl ?_);obtain rfl:=oi bK;exact aH Aq aG rfl
        ·refine zg 6 rfl ?_;obtain rfl:=oi bL;exact aH Aq aG rfl
    ·refine JL.block (CC ba (fun V=> []) (fun V=> [(2,iV p2),(10,pV aa 0),(12,iV V.1),(39,sV aA Z.2.1.2 aB),(40,iV (Z.2.1.2.length:Int)),(41,iV V.2)]) Aq aD ?_);rintro V cE ai aI bM ⟨cF,aj⟩ bN;have aJ:=aj;unfold R7 at aJ;refine zg 5 rfl (AK aJ (fun bO bP=>?_) (fun bO bQ=>?_))
     ·obtain⟨cG,bR,bS⟩:=bs bP;refine zg 5 rfl (Cb (a3.Ai (ab.Ac ai)) bR underlying95 Ci ?_);rintro cH cI _ ⟨_,_,rfl,rfl,⟨_,_,rfl,⟨cJ,cK,rfl,cM⟩,rfl⟩⟩ bT;refine Cm bT FO Ci rfl rfl (CO aI GM fun cN bU=>?_);refine BQ 0 bU Ci fun bV=>?_;refine Dp 0 bV rfl fun cO bW bY bZ=>zg 3 rfl (JL.fl 2 bY underlying104 El GK ?_);obtain⟨cP,b0,b1⟩:=bs bS;refine zg 1 rfl (BH (OK b0) rfl rfl NB bZ fun cQ b2 aK=>?_);obtain⟨aL,b3,b4⟩:=bs b1;refine JL.done (Cu [] [(2,iV p2),(10,pV aa 0),(12,iV aL),(39,sV aA Z.2.1.2 aB),(40,iV (Z.2.1.2.length:Int)),(41,iV V.2)] (fun cR b5 b6=>?_) (fun aM=>?_))
      ·obtain⟨b7,b8,b9⟩:=bs b4;refine zg 2 rfl (Ba b8 rfl rfl rfl ?_);refine zg 2 rfl ?_;obtain rfl:=oi b9;exact bN (aL,b7) (((ai.Ac bW).Ac b2).Ac b5) b6 rfl aj
      ·refine BM b3 (fun ca cb=>?_) (fun ca cc=>?_)
       ·obtain⟨cT,cd,ce⟩:=bs cb;refine zg 2 rfl (Ba cd rfl rfl rfl ?_);refine zg 2 rfl ?_;obtain rfl:=oi ce;exact aM Aq aK rfl
       ·refine JL.skip ?_;obtain rfl:=oi cc;exact aM Aq aK rfl
     ·refine JL.exit rfl ?_;obtain rfl:=oi bQ;obtain rfl:=bM _ aj;exact bc ai aI rfl
end Pal
namespace Pal
open Go Go.Conc Go.Proofs
open Go.Proofs.Tryz
def f22(fuel:Nat):Option Bool:= (f71 fuel).bind fun ae=> (f51 fuel ae 4).bind fun U=> (f71 fuel).bind fun ag=> (f57 fuel ag 5).bind fun V=> (f71 fuel).bind fun ah=> (f72 fuel).bind fun ai=> (f43 fuel ah ai 2).bind fun W=> (f71 fuel).bind fun aj=> (f28 fuel aj ([])).bind fun Z=> (f71 fuel).bind fun ak=> (f73 fuel).bind fun al=> (f49 fuel ak al 1).bind fun aa=> (f71 fuel).bind fun am=> (f35 fuel am ([])).bind fun K=> (f71 fuel).bind fun an=> (f72 fuel).bind fun ao=> (f72 fuel).bind fun ap=> (f37 fuel an ao ap).bind fun ab=> (f71 fuel).bind fun aq=> (f73 fuel).bind fun ar=> (f30 fuel aq ar).bind fun O=> Option.bind (if U.2=0 then(some (decide (V.2=0))) else(some false)) fun au=> Option.bind (if au=true then(some (decide (W.2=0))) else(some false)) fun av=> Option.bind (if av=true then(some (decide (Z.2=0))) else(some false)) fun aw=> Option.bind (if aw=true then(some (decide (aa.2=0))) else(some false)) fun ay=> Option.bind (if ay=true then(some (decide (K.2.2=0))) else(some false)) fun az=> Option.bind (if az=true then(some (decide (ab.2=0))) else(some false)) fun aA=> Option.bind (if aA=true then(some (decide (O.2.2=0))) else(some false)) fun aB=> Option.bind (if aB=true then(some (decide (V.1=3))) else(some false)) fun aC=> Option.bind (if aC=true then(some (decide (Z.1=15))) else(some false)) fun aD=> Option.bind (if aD=true then(some (decide (aa.1=1))) else(some false)) fun aE=> Option.bind (if aE=true then(some (decide (K.1=0))) else(some false)) fun aF=> Option.bind (if aF=true then(some (decide (K.2.1=9))) else(some false)) fun aG=> Option.bind (if aG=true then(some ab.1) else(some false)) fun aH=> Option.bind (if aH=true then(some (decide (O.1=3))) else(some false)) fun aI=> Option.bind (if aI=true then((f32 fuel U.1 ([4,5]:List Int)).bind fun aJ=> some aJ) else(some false)) fun aK=> Option.bind (if aK=true then((f32 fuel W.1 ([2,3,4]:List Int)).bind fun aL=> some aL) else(some false)) fun aM=> Option.bind (if aM=true then((f32 fuel O.2.1 ([3,4]:List Int)).bind fun aN=> some aN) else(some false)) fun aO=> some aO
theorem O4{E:LH}{fuel:Nat}{r:Bool}(aS:f22 fuel=some r):AQ (DN Tryz.prog) 22 [] E [] (fun w E' B'=>w= .bool r∧B'= []):=by
 refine Bc func22 fun Q fC cs H bD bE=>?_;unfold f22 at aS;obtain⟨fD,bF,bG⟩:=bs aS;refine zg 6 rfl (BO (Ic bF) rfl rfl HW bD ?_);rintro _ fE _ bH ⟨fF,fG,fH,fI,rfl,rfl,bI,bJ⟩ bK;obtain⟨ae,bL,bM⟩:=bs bG;refine BO (Ys bI bJ bL) rfl rfl (A2 func51 rfl) bK ?_;rintro _ fJ _ bN ⟨ag,ah,rfl,rfl,bO⟩ bP;obtain⟨fK,bQ,bR⟩:=bs bM;refine zg 8 rfl (BO (Ic bQ) rfl rfl HW bP ?_);rintro _ fL _ aT ⟨fM,fN,fO,fP,rfl,rfl,bS,bT⟩ bU;obtain⟨ak,bV,bW⟩:=bs bR;refine BH (YE bS bT bV) rfl rfl (A2 func57 rfl) bU fun fQ aU bY=>?_;obtain⟨fR,bZ,b0⟩:=bs bW;refine zg 8 rfl (BO (Ic bZ) rfl rfl HW bY ?_);rintro _ fS _ aV ⟨fT,fU,fW,fX,rfl,rfl,b1,b2⟩ b3;obtain⟨fY,b4,b5⟩:=bs b0;refine BO (OW b4) rfl rfl ND b3 ?_;rintro _ fZ _ ap ⟨ga,gb,rfl,rfl,b6⟩ b7;obtain⟨V,b8,b9⟩:=bs b5;refine BO (Sr (b1.Ai ap) (b2.Ai ap) b6 b8) rfl rfl (A2 func43 rfl) b7 ?_;rintro _ gc _ aW ⟨aa,ab,rfl,rfl,ca⟩ cb;obtain⟨gd,cc,cd⟩:=bs b9;refine zg 8 rfl (BO (Ic cc) rfl rfl HW cb ?_);rintro _ ge _ aH ⟨gf,gg,gh,gi,rfl,rfl,ce,cf⟩ cg;obtain⟨aj,ci,ck⟩:=bs cd;refine BH (YD ce cf Ao.nil ci) rfl rfl (A2 func28 rfl) cg fun gj aI cm=>?_;obtain⟨gk,cn,co⟩:=bs ck;refine zg 8 rfl (BO (Ic cn) rfl rfl HW cm ?_);rintro _ gl _ aJ ⟨gm,gn,gp,gq,rfl,rfl,cp,cq⟩ cr;obtain⟨gr,ct,cu⟩:=bs co;refine BO (SE ct) rfl rfl (A2 func73 rfl) cr ?_;rintro _ gt _ am ⟨gu,gv,rfl,rfl,cv⟩ cw;obtain⟨ai,cy,cz⟩:=bs cu;refine BH (Yo (cp.Ai am) (cq.Ai am) cv cy) rfl rfl (A2 func49 rfl) cw fun gw aK cA=>?_;obtain⟨gx,cB,cC⟩:=bs cz;refine zg 8 rfl (BO (Ic cB) rfl rfl HW cA ?_);rintro _ gy _ aL ⟨gz,gA,gB,gC,rfl,rfl,cD,cE⟩ cF;obtain⟨O,cG,cH⟩:=bs cC;refine BH (Sy cD cE Ao.nil cG) rfl rfl (A2 func35 rfl) cF fun gD aM cI=>?_;obtain⟨gE,cJ,cK⟩:=bs cH;refine zg 10 rfl (BO (Ic cJ) rfl rfl HW cI ?_);rintro _ gF _ aN ⟨gG,gH,gI,gJ,rfl,rfl,cM,cN⟩ cO;obtain⟨gK,cP,cQ⟩:=bs cK;refine BO (OW cP) rfl rfl ND cO ?_;rintro _ gL _ an ⟨gM,gN,rfl,rfl,cR⟩ cT;obtain⟨gO,cV,cW⟩:=bs cQ;refine BO (OW cV) rfl rfl ND cT ?_;rintro _ gP _ al ⟨gQ,gR,rfl,rfl,cX⟩ cY;obtain⟨U,cZ,c0⟩:=bs cW;refine BH (YV (cM.Ai (an.Ac al)) (cN.Ai (an.Ac al)) (cR.Ai al) cX cZ) rfl rfl (A2 func37 rfl) cY fun gS aO c1=>?_;obtain⟨gT,c2,c3⟩:=bs c0;refine zg 8 rfl (BO (Ic c2) rfl rfl HW c1 ?_);rintro _ gU _ aP ⟨gV,gW,gX,gY,rfl,rfl,c4,c5⟩ c6;obtain⟨gZ,c7,c8⟩:=bs c3;refine BO (SE c7) rfl rfl (A2 func73 rfl) c6 ?_;rintro _ g0 _ ao ⟨g1,g3,rfl,rfl,c9⟩ da;obtain⟨K,db,dc⟩:=bs c8;refine BO (YO (c4.Ai ao) (c5.Ai ao) c9 db) rfl rfl (A2 func30 rfl) da ?_;rintro _ g4 _ aQ ⟨W,Z,rfl,rfl,dd⟩ aX;obtain⟨de,df,dg⟩:=bs dc;refine zg 13 rfl (CV 6 67 [] [(1,sV ag ae.1 ah),(3,iV ak.1),(5,sV aa V.1 ab),(6,iV V.2),(7,iV aj.1),(8,iV aj.2),(9,iV ai.1),(10,iV ai.2),(11,iV O.1),(12,iV O.2.1),(13,iV O.2.2),(14,.bool U.1),(15,iV U.2),(16,iV K.1),(17,sV W K.2.1 Z),(18,iV K.2.2),(71,.bool de)] (fun g5 aq aY=>?_) (fun aZ=>?_))
 ·obtain⟨dh,di,dj⟩:=bs dg;refine zg 1 rfl (CV 10 63 [] [(1,sV ag ae.1 ah),(3,iV ak.1),(5,sV aa V.1 ab),(7,iV aj.1),(8,iV aj.2),(9,iV ai.1),(10,iV ai.2),(11,iV O.1),(12,iV O.2.1),(13,iV O.2.2),(14,.bool U.1),(15,iV U.2),(16,iV K.1),(17,sV W K.2.1 Z),(18,iV K.2.2),(75,.bool dh)] (fun g6 ar a0=>?_) (fun a1=>?_))
  ·obtain⟨dk,dl,dm⟩:=bs dj;refine zg 1 rfl (CV 14 59 [] [(1,sV ag ae.1 ah),(3,iV ak.1),(5,sV aa V.1 ab),(7,iV aj.1),(9,iV ai.1),(10,iV ai.2),(11,iV O.1),(12,iV O.2.1),(13,iV O.2.2),(14,.bool U.1),(15,iV U.2),(16,iV K.1),(17,sV W K.2.1 Z),(18,iV K.2.2),(79,.bool dk)] (fun g7 au a2=>?_) (fun a3=>?_))
   ·obtain⟨dn,dp,dq⟩:=bs dm;refine zg 1 rfl (CV 18 55 [] [(1,sV ag ae.1 ah),(3,iV ak.1),(5,sV aa V.1 ab),(7,iV aj.1),(9,iV ai.1),(11,iV O.1),(12,iV O.2.1),(13,iV O.2.2),(14,.bool U.1),(15,iV U.2),(16,iV K.1),(17,sV W K.2.1 Z),(18,iV K.2.2),(83,.bool dn)] (fun g8 av a4=>?_) (fun a5=>?_))
    ·obtain⟨dr,dt,du⟩:=bs dq;refine zg 1 rfl (CV 22 51 [] [(1,sV ag ae.1 ah),(3,iV ak.1),(5,sV aa V.1 ab),(7,iV aj.1),(9,iV ai.1),(11,iV O.1),(12,iV O.2.1),(14,.bool U.1),(15,iV U.2),(16,iV K.1),(17,sV W K.2.1 Z),(18,iV K.2.2),(87,.bool dr)] (fun g9 aw a6=>?_) (fun a7=>?_))
     ·obtain⟨dv,dw,dx⟩:=bs du;refine zg 1 rfl (CV 26 47 [] [(1,sV ag ae.1 ah),(3,iV ak.1),(5,sV aa V.1 ab),(7,iV aj.1),(9,iV ai.1),(11,iV O.1),(12,iV O.2.1),(14,.bool U.1),(16,iV K.1),(17,sV W K.2.1 Z),(18,iV K.2.2),(91,.bool dv)] (fun ha ay a8=>?_) (fun a9=>?_))
      ·obtain⟨dy,dz,dA⟩:=bs dx;refine zg 1 rfl (CV 30 43 [] [(1,sV ag ae.1 ah),(3,iV ak.1),(5,sV aa V.1 ab),(7,iV aj.1),(9,iV ai.1),(11,iV O.1),(12,iV O.2.1),(14,.bool U.1),(16,iV K.1),(17,sV W K.2.1 Z),(95,.bool dy)] (fun hb az ba=>?_) (fun bb=>?_))
       ·obtain⟨dB,dC,dD⟩:=bs dA;refine zg 1 rfl (CV 34 39 [] [(1,sV ag ae.1 ah),(5,sV aa V.1 ab),(7,iV aj.1),(9,iV ai.1),(11,iV O.1),(12,iV O.2.1),(14,.bool U.1),(16,iV K.1),(17,sV W K.2.1 Z),(99,.bool dB)] (fun hc aA bc=>?_) (fun bd=>?_))
        ·obtain⟨dE,dF,dG⟩:=bs dD;refine zg 1 rfl (CV 38 35 [] [(1,sV ag ae.1 ah),(5,sV aa V.1 ab),(9,iV ai.1),(11,iV O.1),(12,iV O.2.1),(14,.bool U.1),(16,iV K.1),(17,sV W K.2.1 Z),(103,.bool dE)] (fun he aB be=>?_) (fun bf=>?_))
         ·obtain⟨dH,dI,dJ⟩:=bs dG;refine zg 1 rfl (CV 42 31 [] [(1,sV ag ae.1 ah),(5,sV aa V.1 ab),(11,iV O.1),(12,iV O.2.1),(14,.bool U.1),(16,iV K.1),(17,sV W K.2.1 Z),(107,.bool dH)] (fun hf aC bg=>?_) (fun bh=>?_))
          ·obtain⟨dK,dL,dM⟩:=bs dJ;refine zg 1 rfl (CV 46 27 [] [(1,sV ag ae.1 ah),(5,sV aa V.1 ab),(12,iV O.2.1),(14,.bool U.1),(16,iV K.1),(17,sV W K.2.1 Z),(111,.bool dK)] (fun hg aD bi=>?_) (fun bj=>?_))
           ·obtain⟨dN,dO,dP⟩:=bs dM;refine zg 1 rfl (CV 50 23 [] [(1,sV ag ae.1 ah),(5,sV aa V.1 ab),(14,.bool U.1),(16,iV K.1),(17,sV W K.2.1 Z),(115,.bool dN)] (fun hj aE bl=>?_) (fun bm=>?_))
            ·obtain⟨dQ,dR,dS⟩:=bs dP;refine zg 1 rfl (CV 53 20 [] [(1,sV ag ae.1 ah),(5,sV aa V.1 ab),(16,iV K.1),(17,sV W K.2.1 Z),(118,.bool dQ)] (fun hk aF bn=>?_) (fun bo=>?_))
             ·obtain⟨dT,dU,dV⟩:=bs dS;refine zg 1 rfl (CV 57 16 [] [(1,sV ag ae.1 ah),(5,sV aa V.1 ab),(17,sV W K.2.1 Z),(122,.bool dT)] (fun hl aG bp=>?_) (fun bq=>?_))
              ·obtain⟨dW,dX,dY⟩:=bs dV;refine zg 1 rfl (CV 62 11 [] [(5,sV aa V.1 ab),(17,sV W K.2.1 Z),(127,.bool dW)] (fun hm aR br=>?_) (fun bu=>?_))
               ·obtain⟨dZ,ea,eb⟩:=bs dY;refine zg 1 rfl (CV 67 6 [] [(17,sV W K.2.1 Z),(132,.bool dZ)] (fun hn bv bw=>?_) (fun bx=>?_))
                ·obtain⟨ec,ed,ee⟩:=bs eb;refine zg 1 rfl (CV 72 1 [] [(137,.bool ec)] (fun ho ef eg=>?_) (fun bz=>?_))
                 ·refine zg 2 rfl ?_;obtain rfl:=oi ee;exact AF func22 rfl rfl (bE (((((((((((((((((((((((((((((((((((((bH.Ac bN).Ac aT).Ac aU).Ac aV).Ac ap).Ac aW).Ac aH).Ac aI).Ac aJ).Ac am).Ac aK).Ac aL).Ac aM).Ac aN).Ac an).Ac al).Ac aO).Ac aP).Ac ao).Ac aQ).Ac aq).Ac ar).Ac au).Ac av).Ac aw).Ac ay).Ac az).Ac aA).Ac aB).Ac aC).Ac aD).Ac aE).Ac aF).Ac aG).Ac aR).Ac bv).Ac ef) rfl ⟨rfl,rfl⟩ eg)
                 ·refine Dj 133 ed (fun eh ei=>?_) (fun eh ej=>?_)
                  ·refine zg 1 rfl (JS.lit (pp:=rI) [iV 3,iV 4] [3,4] rfl rfl rfl underlying28 AW Cz (by decide) rfl rfl rfl ⟨rfl,rfl,trivial⟩ bw fun hp hq ek el=>?_);refine Ca 0 ek el rfl fun hr bA em en=>?_;obtain⟨hu,eo,ep⟩:=bs ei;refine BH (O5 (dd.Ai ((((((((((((((((aq.Ac ar).Ac au).Ac av).Ac aw).Ac ay).Ac az).Ac aA).Ac aB).Ac aC).Ac aD).Ac aE).Ac aF).Ac aG).Ac aR).Ac bv).Ac bA)) em eo) rfl rfl NG en fun hv eq er=>zg 1 rfl ?_;obtain rfl:=oi ep;exact bz (bA.Ac eq) er rfl
                  ·refine zg 4 rfl ?_;obtain rfl:=oi ej;exact bz Aq bw rfl
                ·refine Dj 128 ea (fun et eu=>?_) (fun et ew=>?_)
                 ·refine zg 1 rfl (JS.lit (pp:=rI) [iV 2,iV 3,iV 4] [2,3,4] rfl rfl rfl underlying28 AW Cz (by decide) rfl rfl rfl ⟨rfl,rfl,rfl,trivial⟩ br fun hw hx ex ey=>?_);refine Ca 0 ex ey rfl fun hy bB ez eA=>?_;obtain⟨hz,eB,eC⟩:=bs eu;refine BH (O5 (ca.Ai (((((((((((((((((((((((((((((aH.Ac aI).Ac aJ).Ac am).Ac aK).Ac aL).Ac aM).Ac aN).Ac an).Ac al).Ac aO).Ac aP).Ac ao).Ac aQ).Ac aq).Ac ar).Ac au).Ac av).Ac aw).Ac ay).Ac az).Ac aA).Ac aB).Ac aC).Ac aD).Ac aE).Ac aF).Ac aG).Ac aR).Ac bB)) ez eB) rfl rfl NG eA fun hA eD eE=>zg 1 rfl ?_;obtain rfl:=oi eC;exact bx (bB.Ac eD) eE rfl
                 ·refine zg 4 rfl ?_;obtain rfl:=oi ew;exact bx Aq br rfl
               ·refine Dj 123 dX (fun eF eG=>?_) (fun eF eH=>?_)
                ·refine zg 1 rfl (JS.lit (pp:=rI) [iV 4,iV 5] [4,5] rfl rfl rfl underlying28 AW Cz (by decide) rfl rfl rfl ⟨rfl,rfl,trivial⟩ bp fun hB hC eI eJ=>?_);refine Ca 0 eI eJ rfl fun hD bC eK eL=>?_;obtain⟨hE,eM,eN⟩:=bs eG;refine BH (O5 (bO.Ai (((((((((((((((((((((((((((((((((aT.Ac aU).Ac aV).Ac ap).Ac aW).Ac aH).Ac aI).Ac aJ).Ac am).Ac aK).Ac aL).Ac aM).Ac aN).Ac an).Ac al).Ac aO).Ac aP).Ac ao).Ac aQ).Ac aq).Ac ar).Ac au).Ac av).Ac aw).Ac ay).Ac az).Ac aA).Ac aB).Ac aC).Ac aD).Ac aE).Ac aF).Ac aG).Ac bC)) eK eM) rfl rfl NG eL fun hF eO eP=>zg 1 rfl ?_;obtain rfl:=oi eN;exact bu (bC.Ac eO) eP rfl
                ·refine zg 4 rfl ?_;obtain rfl:=oi eH;exact bu Aq bp rfl
              ·refine Dj 119 dU (fun eQ eR=>?_) (fun eQ eS=>?_)
               ·refine zg 3 rfl ?_;obtain rfl:=oi eR;exact bq Aq bn rfl
               ·refine zg 3 rfl ?_;obtain rfl:=oi eS;exact bq Aq bn rfl
             ·refine Dj 116 dR (fun eT eU=>?_) (fun eT eV=>?_)
              ·refine zg 2 rfl ?_;obtain rfl:=oi eU;exact bo Aq bl rfl
              ·refine zg 2 rfl ?_;obtain rfl:=oi eV;exact bo Aq bl rfl
            ·refine Dj 112 dO (fun eW eX=>?_) (fun eW eY=>?_)
             ·refine zg 3 rfl ?_;obtain rfl:=oi eX;exact bm Aq bi rfl
             ·refine zg 3 rfl ?_;obtain rfl:=oi eY;exact bm Aq bi rfl
           ·refine Dj 108 dL (fun eZ e0=>?_) (fun eZ e1=>?_)
            ·refine zg 3 rfl ?_;obtain rfl:=oi e0;exact bj Aq bg rfl
            ·refine zg 3 rfl ?_;obtain rfl:=oi e1;exact bj Aq bg rfl
          ·refine Dj 104 dI (fun e3 e4=>?_) (fun e3 e5=>?_)
           ·refine zg 3 rfl ?_;obtain rfl:=oi e4;exact bh Aq be rfl
           ·refine zg 3 rfl ?_;obtain rfl:=oi e5;exact bh Aq be rfl
         ·refine Dj 100 dF (fun e6 e7=>?_) (fun e6 e8=>?_)
          ·refine zg 3 rfl ?_;obtain rfl:=oi e7;exact bf Aq bc rfl
          ·refine zg 3 rfl ?_;obtain rfl:=oi e8;exact bf Aq bc rfl
        ·refine Dj 96 dC (fun e9 fa=>?_) (fun e9 fb=>?_)
         ·refine zg 3 rfl ?_;obtain rfl:=oi fa;exact bd Aq ba rfl
         ·refine zg 3 rfl ?_;obtain rfl:=oi fb;exact bd Aq ba rfl
       ·refine Dj 92 dz (fun fc fd=>?_) (fun fc fe=>?_)
        ·refine zg 3 rfl ?_;obtain rfl:=oi fd;exact bb Aq a8 rfl
        ·refine zg 3 rfl ?_;obtain rfl:=oi fe;exact bb Aq a8 rfl
      ·refine Dj 88 dw (fun ff fg=>?_) (fun ff fh=>?_)
       ·refine zg 3 rfl ?_;obtain rfl:=oi fg;exact a9 Aq a6 rfl
       ·refine zg 3 rfl ?_;obtain rfl:=oi fh;exact a9 Aq a6 rfl
     ·refine Dj 84 dt (fun fj fk=>?_) (fun fj fm=>?_)
      ·refine zg 3 rfl ?_;obtain rfl:=oi fk;exact a7 Aq a4 rfl
      ·refine zg 3 rfl ?_;obtain rfl:=oi fm;exact a7 Aq a4 rfl
    ·refine Dj 80 dp (fun fo fp=>?_) (fun fo fq=>?_)
     ·refine zg 3 rfl ?_;obtain rfl:=oi fp;exact a5 Aq a2 rfl
     ·refine zg 3 rfl ?_;obtain rfl:=oi fq;exact a5 Aq a2 rfl
   ·refine Dj 76 dl (fun fs fu=>?_) (fun fs fv=>?_)
    ·refine zg 3 rfl ?_;obtain rfl:=oi fu;exact a3 Aq a0 rfl
    ·refine zg 3 rfl ?_;obtain rfl:=oi fv;exact a3 Aq a0 rfl
  ·refine Dj 72 di (fun fw fx=>?_) (fun fw fy=>?_)
   ·refine zg 3 rfl ?_;obtain rfl:=oi fx;exact a1 Aq aY rfl
   ·refine zg 3 rfl ?_;obtain rfl:=oi fy;exact a1 Aq aY rfl
 ·refine Ew 68 df (fun fz fA=>?_) (fun fz fB=>?_)
  ·refine zg 3 rfl ?_;obtain rfl:=oi fA;exact aZ Aq aX rfl
  ·refine zg 3 rfl ?_;obtain rfl:=oi fB;exact aZ Aq aX rfl
end Pal
namespace Pal
open Go Go.Conc Go.Proofs
open Go.Proofs.Tryz
variable {J:Judge Tryz.prog}{E:LH}
def MH(fuel:Nat)(V:Int×(B8))(W:(List (List Int))×(List (List Int))×(List Int)×Int×Nat×Int)(K:(List Int)×Int×Nat×(List Int)×Int):Option (Bl ((List Int)×Int×Nat×(List Int)×Int) ((List Int)×B8)):= Option.bind (if 0<K.2.2.2.2 then(some (decide (1<V.1))) else(some false)) fun aa=> if aa=true then((Au (W.2.2.2.2.2 - 1)).bind fun ab=> (f41 fuel (K.1,K.2.1,K.2.2.1) (max (0) ab)).bind fun Z=> (f97 fuel Z.2 6).bind fun O=> Option.bind (if O.1=true then((Au (V.1 - 1)).bind fun ae=> (f41 fuel O.2 ae).bind fun ag=> some ag) else(some (Z.1,O.2.1,O.2.2.1,O.2.2.2))) fun U=> Option.bind (if U.1≠W.2.2.2.2.2 then((f98 fuel K.2.2.2.1 U.1).bind fun ah=> some ah) else(some K.2.2.2.1)) fun ai=> (Au (K.2.2.2.2 - 1)).bind fun aj=> some (.more (U.2.1,U.2.2.1,U.2.2.2,ai,aj))) else(some (.done (K.2.2.2.1,K.1,K.2.1,K.2.2.1)))
def MZ(fuel:Nat)(O:Int×(B8))(K:(List (List Int))×(List (List Int))×(List Int)×Int×Nat×Int):Option (Bl ((List (List Int))×(List (List Int))×(List Int)×Int×Nat×Int) ((List Int)×Int×Nat×Bt)):= if K.2.2.2.2.2<O.1 then((Au (O.1 - 1)).bind fun ae=> (Au (K.2.2.2.2.2+1)).bind fun ag=> (f97 fuel (K.2.2.1,K.2.2.2.1,K.2.2.2.2.1) 3).bind fun U=> Option.bind (if U.1=true then((Au (O.1 - 1)).bind fun aj=> (f96 fuel U.2 K.2.2.2.2.2 aj).bind fun W=> (f98 fuel ([min ae ag]:List Int) W.1).bind fun ak=> some (ak,W.2.1,W.2.2.1,W.2.2.2)) else(some (([min ae ag]:List Int),U.2.1,U.2.2.1,U.2.2.2))) fun ah=> (f97 fuel ah.2 8).bind fun V=> Option.bind (if V.1=true then((Au (O.1 - 1)).bind fun al=> (f41 fuel V.2 al).bind fun Z=> some (([Z.1]:List Int),Z.2.1,Z.2.2.1,Z.2.2.2)) else(some (ah.1,V.2.1,V.2.2.1,V.2.2.2))) fun ai=> (f99 fuel ai.2 ([0,1,1,2]:List Int)).bind fun aa=> Option.bind (iter (MH fuel O K) fuel (aa.2.1,aa.2.2.1,aa.2.2.2,[],aa.1)) fun ab=> (Dl K.1 ([ai.1]:List (List Int))).bind fun am=> (Dl K.2.1 ([ab.1]:List (List Int))).bind fun an=> (Au (K.2.2.2.2.2+1)).bind fun ao=> some (.more (am,an,ab.2.1,ab.2.2.1,ab.2.2.2,ao))) else(some (.done (K.2.2.1,K.2.2.2.1,K.2.2.2.2.1,K.1,K.2.1)))
def f39(fuel:Nat)(p0:B8)(p1:Int):Option ((Bt)×(B8)):= (f96 fuel p0 1 p1).bind fun K=> Option.bind (iter (MZ fuel K) fuel ([],[],K.2.1,K.2.2.1,K.2.2.2,0)) fun O=> some (O.2.2.2,(O.1,O.2.1,O.2.2.1))
theorem YF{bk:Nat}{bK:Ap}{c2:Nat}{p0:B8}{p1:Int}(cT:Ao rI E bK c2 p0.1){fuel:Nat}{r:(Bt)×(B8)}(bL:f39 fuel p0 p1=some r):AQ J 39 [pV bk 0,iV p1] E [(bk,.cells #[sV bK p0.1 c2,iV p0.2.1,.int .u64 ((p0.2.2:Nat):Int)] 92 (0,0))] (fun w E' B'=>∃(bM:Ap) (bN:Nat) (bO:Ap) (bP:Nat) (bQ:Ap) (bR:Nat),w= .agg #[sV bM r.1.1 bN,sV bO r.1.2 bP]∧B'= [(bk,.cells #[sV bQ r.2.1 bR,iV r.2.2.1,.int .u64 ((r.2.2.2:Nat):Int)] 92 (0,0))]∧Ao (rL rI) E' bM bN r.1.1∧Ao (rL rI) E' bO bP r.1.2∧Ao rI E' bQ bR r.2.1):=by
 refine Bc func39 fun Q he cs H cV cW=>?_;unfold f39 at bL;refine zg 2 rfl (CO cV J3 fun U cX=>?_);refine zg 3 rfl (CO cX J3 fun O cY=>?_);obtain⟨am,cZ,c0⟩:=bs bL;refine zg 5 rfl (BY 0 (OU cT cZ) rfl rfl NF cY rfl ?_);rintro _ ba _ c1 ⟨bS,bT,rfl,rfl,c3⟩ c4;refine CB (S':= [[(bk,.cells #[sV bS am.2.1 bT,iV am.2.2.1,.int .u64 ((am.2.2.2:Nat):Int)] 92 (0,0))],[(U,.cells #[nS,nS] 24 (0,0))],[(O,.cells #[nS,nS] 24 (0,0))]]) rfl c4 fun c5=>?_;obtain⟨W,c6,c7⟩:=bs c0;refine zg 7 rfl (Bs (fun L s=>∃(aP:LH) (aQ:Ap) (aR:Nat) (aq:Ap) (ar:Nat) (bb:Seg) (au:Ap) (av:Nat) (bc:Seg),Jn ba H aP [bX bk #[sV aQ W.1 aR,iV W.2.1,.int .u64 ((W.2.2.1:Nat):Int)] 92,bX U #[nS,nS] 24,bX O #[sV aq W.2.2.2.1 ar,sV au W.2.2.2.2 av] 24,bb,bc] [(4,pV U 0),(5,pV O 0)] L s (Ao rI aP aQ aR W.1∧OL 28 (rL rI) aP aq ar bb W.2.2.2.1∧OL 28 (rL rI) aP au av bc W.2.2.2.2)) ?_ ?_)
 ·rintro _ _ ⟨aP,aQ,aR,aq,ar,bb,au,av,bc,rfl,rfl,c8,bU,c9,da,db⟩;refine zg 2 rfl (AA rfl (fun ρ h=>FX (vs:= [sV aq W.2.2.2.1 ar,sV au W.2.2.2.2 av]) Cy Cc (h _ _ rfl) (F9 (off:=0) 2 bU rfl rfl)) ?_);refine BQ 1 bU Cc fun dc=>?_;refine JL.done (Ca 3 da dc rfl fun hf bd dd de=>?_);refine Ca 4 (db.Ai bd) de rfl fun hg be df dg=>CB (S':= [[(bk,.cells #[sV aQ W.1 aR,iV W.2.1,.int .u64 ((W.2.2.1:Nat):Int)] 92 (0,0))],[(U,.cells #[sV aq W.2.2.2.1 ar,sV au W.2.2.2.2 av] 24 (0,0))],[(O,.cells #[sV aq W.2.2.2.1 ar,sV au W.2.2.2.2 av] 24 (0,0))],[],[]]) rfl dg fun dh=>JS.drop 2 dh rfl fun bV=>?_;obtain rfl:=oi c7;refine JL.ret (v:= .agg #[sV aq W.2.2.2.1 ar,sV au W.2.2.2.2 av]) rfl rfl (B9.list func39 rfl (vs:= [.agg #[sV aq W.2.2.2.1 ar,sV au W.2.2.2.2 av]]) ⟨⟨_,rfl,Ld.many (vs:= [sV aq W.2.2.2.1 ar,sV au W.2.2.2.2 av]) Cy Cc (F9 (off:=0) 1 bV rfl rfl)⟩,trivial⟩) (ID 1 bV rfl fun di=>?_);exact cW (((c1.Ac c8).Ac bd).Ac be) rfl ⟨aq,ar,au,av,aQ,aR,rfl,rfl,(dd.Ai be),df,(c9.Ai (bd.Ac be))⟩ di
 ·intro dj;refine JL.block (CG c6 (fun L s K=>∃(aJ:LH) (Z:Ap) (aa:Nat) (ag:Seg) (ab:Ap) (ae:Nat) (ah:Seg) (aY:Ap) (aZ:Nat),Jn ba H aJ [bX bk #[sV aY K.2.2.1 aZ,iV K.2.2.2.1,.int .u64 ((K.2.2.2.2.1:Nat):Int)] 92,bX U #[nS,nS] 24,bX O #[sV Z K.1 aa,sV ab K.2.1 ae] 24,ag,ah] [(0,pV bk 0),(4,pV U 0),(5,pV O 0),(6,iV am.1),(7,iV K.2.2.2.2.2)] L s (OL 28 (rL rI) aJ Z aa ag K.1∧OL 28 (rL rI) aJ ab ae ah K.2.1∧Ao rI aJ aY aZ K.2.2.1)) ⟨ba,none,0,[],none,0,[],bS,bT,rfl,rfl,Aq,c5,OL.nil,OL.nil,c3⟩ ?_);rintro _ _ K ⟨aJ,Z,aa,ag,ab,ae,ah,aY,aZ,rfl,rfl,a0,bW,a1,a2,bY⟩ dk ⟨hj,aS⟩ bf;have bZ:=aS;unfold MZ at bZ;refine zg 7 rfl (AK bZ (fun dl dm=>?_) (fun dl dn=>?_))
  ·obtain⟨bg,dp,dq⟩:=bs dm;refine zg 6 rfl (B7 dp rfl rfl rfl ?_);obtain⟨bh,dr,dt⟩:=bs dq;refine zg 1 rfl (Ba dr rfl rfl rfl ?_);refine AA (v:=iV (min bg bh)) rfl (fun ρ h=>Yl.min2 (h _ _ rfl) (h _ _ rfl)) (JS.lit (pp:=rI) [iV (min bg bh)] [min bg bh] rfl rfl rfl underlying28 AW Cz (by decide) rfl rfl rfl ⟨rfl,trivial⟩ bW fun du dv b0 dw=>?_);obtain⟨bi,dx,dy⟩:=bs dt;refine zg 6 rfl (BY 0 (KV bY dx) rfl rfl J2 dw rfl ?_);rintro _ dz _ an ⟨b1,b2,rfl,rfl,b3⟩ b4;obtain⟨aK,dA,dB⟩:=bs dy;refine JL.done (Bs (fun L s=>∃(a3:LH) (a4:Ap) (a5:Nat) (bj:Ap) (bl:Nat),Jn dz H a3 [bX bk #[sV bj aK.2.1 bl,iV aK.2.2.1,.int .u64 ((aK.2.2.2:Nat):Int)] 92,bX U #[nS,nS] 24,bX O #[sV Z K.1 aa,sV ab K.2.1 ae] 24,ag,ah] [(0,pV bk 0),(4,pV U 0),(5,pV O 0),(6,iV am.1),(7,iV K.2.2.2.2.2),(8,sV a4 aK.1 a5)] L s (Ao rI a3 a4 a5 aK.1∧Ao rI a3 bj bl aK.2.1)) ?_ ?_)
   ·rintro _ _ ⟨a3,a4,a5,bj,bl,rfl,rfl,aA,dC,dD,dE⟩;obtain⟨bm,dF,dG⟩:=bs dB;refine zg 4 rfl (BY 0 (KV dE dF) rfl rfl J2 dC rfl ?_);rintro _ b5 _ aw ⟨b6,b7,rfl,rfl,b8⟩ dH;refine CB (S':= [[(bk,.cells #[sV b6 bm.2.1 b7,iV bm.2.2.1,.int .u64 ((bm.2.2.2:Nat):Int)] 92 (0,0))],[(U,.cells #[nS,nS] 24 (0,0))],[(O,.cells #[sV Z K.1 aa,sV ab K.2.1 ae] 24 (0,0))],ag,ah]) rfl dH fun b9=>?_;obtain⟨aj,dI,dJ⟩:=bs dG;refine JL.done (Bs (fun L s=>∃(a6:LH) (ay:Ap) (az:Nat) (bn:Ap) (bo:Nat),Jn b5 H a6 [bX bk #[sV bn aj.2.1 bo,iV aj.2.2.1,.int .u64 ((aj.2.2.2:Nat):Int)] 92,bX U #[nS,nS] 24,bX O #[sV Z K.1 aa,sV ab K.2.1 ae] 24,ag,ah] [(0,pV bk 0),(4,pV U 0),(5,pV O 0),(6,iV am.1),(7,iV K.2.2.2.2.2),(8,sV ay aj.1 az)] L s (Ao rI a6 ay az aj.1∧Ao rI a6 bn bo aj.2.1)) ?_ ?_)
    ·rintro _ _ ⟨a6,ay,az,bn,bo,rfl,rfl,aB,dK,ca,dL⟩;refine zg 8 rfl (JS.lit (pp:=rI) [iV 0,iV 1,iV 1,iV 2] [0,1,1,2] rfl rfl rfl underlying28 AW Cz (by decide) rfl rfl rfl ⟨rfl,rfl,rfl,rfl,trivial⟩ dK fun hk hl dM dN=>?_);refine Ca 5 dM dN rfl fun hm al dO dP=>?_;obtain⟨bp,dQ,dR⟩:=bs dJ;refine BY 0 (M6 (dL.Ai al) dO dQ) rfl rfl LB dP rfl ?_;rintro _ bq _ ao ⟨cb,cc,rfl,rfl,dS⟩ dT;refine CB (S':= [[(bk,.cells #[sV cb bp.2.1 cc,iV bp.2.2.1,.int .u64 ((bp.2.2.2:Nat):Int)] 92 (0,0))],[(U,.cells #[nS,nS] 24 (0,0))],[(O,.cells #[sV Z K.1 aa,sV ab K.2.1 ae] 24 (0,0))],ag,ah,[]]) rfl dT fun dU=>?_;obtain⟨V,dV,dW⟩:=bs dR;refine zg 2 rfl (Bs (fun L s=>∃(aE:LH) (aL:Ap) (aM:Nat) (aC:Ap) (aD:Nat),Jn bq H aE [bX bk #[sV aC V.2.1 aD,iV V.2.2.1,.int .u64 ((V.2.2.2:Nat):Int)] 92,bX U #[nS,nS] 24,bX O #[sV Z K.1 aa,sV ab K.2.1 ae] 24,ag,ah] [(0,pV bk 0),(4,pV U 0),(5,pV O 0),(6,iV am.1),(7,iV K.2.2.2.2.2),(8,sV ay aj.1 az),(9,sV aL V.1 aM)] L s (Ao rI aE aL aM V.1∧Ao rI aE aC aD V.2.1)) ?_ ?_)
     ·rintro _ _ ⟨aE,aL,aM,aC,aD,rfl,rfl,ap,aT,br,bu⟩;refine Dv 11 [O] ⟨⟨2,_,rfl⟩,trivial⟩ aT fun ht=>B6 0 ht underlying24 Cl rfl rfl rfl rfl (EX 1 ht 0 2 aT CW ?_);refine Cv 2 ht rfl rfl (B6 5 ht underlying24 Cl rfl rfl rfl rfl ?_);refine EX 6 ht 1 2 aT CW ?_;refine Cv 7 ht rfl rfl ?_;obtain⟨bv,bw,dX⟩:=bs dW;obtain⟨bx,bz,bA⟩:=bs dX;refine Kx (i:=3) (j:=8) rfl (by decide+kernel) ?_ ?_
      ·refine Take.lit (pp:=(rL rI)) (jp:=2) [sV ay aj.1 az] ([aj.1]:List (List Int)) aT rfl rfl rfl rfl underlying22 BV EF (by decide) rfl rfl rfl ⟨⟨_,_,rfl,(ca.Ai ((al.Ac ao).Ac ap))⟩,trivial⟩ fun hn cd ce cf=>Kx (i:=4) (j:=8) rfl (by decide+kernel) ?_ ?_
       ·refine Take.app (pp:=(rL rI)) (jp:=2) 3 5 cf rfl bw rfl rfl rfl rfl rfl rfl rfl underlying22 underlying22 BV (CP type28) EF rfl (by decide) (by decide) (a1.Ai ((((((an.Ac aA).Ac aw).Ac aB).Ac al).Ac ao).Ac ap)) ce rfl rfl rfl rfl fun dY dZ ho cg ea eb=>B6 10 ht underlying24 Cl rfl rfl rfl rfl (JG.one (i:=8) rfl (by decide+kernel) ?_);refine Take.lit (pp:=(rL rI)) (jp:=2) [sV aL V.1 aM] ([V.1]:List (List Int)) eb rfl rfl rfl rfl underlying22 BV EF (by decide) rfl rfl rfl ⟨⟨_,_,rfl,br⟩,trivial⟩ fun hp ec ed ee=>JG.one (i:=9) rfl (by decide+kernel) (Take.app (pp:=(rL rI)) (jp:=2) 4 6 ee rfl bz rfl rfl rfl rfl rfl rfl rfl underlying22 underlying22 BV (CP type28) EF rfl (by decide) (by decide) (a2.Ai ((((((an.Ac aA).Ac aw).Ac aB).Ac al).Ac ao).Ac ap)) ed rfl rfl rfl rfl fun ef eg hq ci eh ei=>?_);refine Co [11,12,13] (Fg 3 rfl ei fun ej=>?_);refine JS.drop 3 ej rfl fun ek=>Fg 4 rfl ek fun el=>JS.drop 4 el rfl fun em=>CB (S':= [[(bk,.cells #[sV aC V.2.1 aD,iV V.2.2.1,.int .u64 ((V.2.2.2:Nat):Int)] 92 (0,0))],[(U,.cells #[nS,nS] 24 (0,0))],[(O,.cells #[sV Z K.1 aa,sV ab K.2.1 ae] 24 (0,0))],[],[],cd,ec,cg,ci]) rfl em fun en=>BQ 2 en Cl fun eo=>?_;refine BF underlying24 Cl rfl rfl rfl (BQ 2 eo Cl fun ep=>?_);obtain⟨eq,er,et⟩:=bs bA;refine zg 4 rfl (Ba er rfl rfl rfl ?_);refine zg 2 rfl (JS.drop 5 ep rfl fun eu=>?_);refine JS.drop 6 eu rfl fun ew=>?_;obtain rfl:=oi et;exact Ay (bf _ _ (bv,bx,V.2.1,V.2.2.1,V.2.2.2,eq) ⟨aE,dY,dZ,cg,ef,eg,ci,aC,aD,rfl,rfl,(((((((a0.Ac an).Ac aA).Ac aw).Ac aB).Ac al).Ac ao).Ac ap),ew,ea,eh,bu⟩ aS) rfl
       ·refine Take.lit (pp:=(rL rI)) (jp:=2) [sV aL V.1 aM] ([V.1]:List (List Int)) cf rfl rfl rfl rfl underlying22 BV EF (by decide) rfl rfl rfl ⟨⟨_,_,rfl,br⟩,trivial⟩ fun hr ex ey ez=>JG.one (i:=4) rfl (by decide+kernel) (Take.app (pp:=(rL rI)) (jp:=2) 3 5 ez rfl bw rfl rfl rfl rfl rfl rfl rfl underlying22 underlying22 BV (CP type28) EF rfl (by decide) (by decide) (a1.Ai ((((((an.Ac aA).Ac aw).Ac aB).Ac al).Ac ao).Ac ap)) ce rfl rfl rfl rfl fun eA eB hu ck eC eD=>?_);refine B6 10 ht underlying24 Cl rfl rfl rfl rfl (JG.one (i:=9) rfl (by decide+kernel) ?_);refine Take.app (pp:=(rL rI)) (jp:=2) 4 6 eD rfl bz rfl rfl rfl rfl rfl rfl rfl underlying22 underlying22 BV (CP type28) EF rfl (by decide) (by decide) (a2.Ai ((((((an.Ac aA).Ac aw).Ac aB).Ac al).Ac ao).Ac ap)) ey rfl rfl rfl rfl fun eE eF hv cm eG eH=>Co [11,12,13] (Fg 3 rfl eH fun eI=>?_);refine JS.drop 3 eI rfl fun eJ=>Fg 4 rfl eJ fun eK=>JS.drop 4 eK rfl fun eL=>CB (S':= [[(bk,.cells #[sV aC V.2.1 aD,iV V.2.2.1,.int .u64 ((V.2.2.2:Nat):Int)] 92 (0,0))],[(U,.cells #[nS,nS] 24 (0,0))],[(O,.cells #[sV Z K.1 aa,sV ab K.2.1 ae] 24 (0,0))],[],[],cd,ex,ck,cm]) rfl eL fun eM=>BQ 2 eM Cl fun eN=>?_;refine BF underlying24 Cl rfl rfl rfl (BQ 2 eN Cl fun eO=>?_);obtain⟨eP,eQ,eR⟩:=bs bA;refine zg 4 rfl (Ba eQ rfl rfl rfl ?_);refine zg 2 rfl (JS.drop 5 eO rfl fun eS=>?_);refine JS.drop 6 eS rfl fun eT=>?_;obtain rfl:=oi eR;exact Ay (bf _ _ (bv,bx,V.2.1,V.2.2.1,V.2.2.2,eP) ⟨aE,eA,eB,ck,eE,eF,cm,aC,aD,rfl,rfl,(((((((a0.Ac an).Ac aA).Ac aw).Ac aB).Ac al).Ac ao).Ac ap),eT,eC,eG,bu⟩ aS) rfl
      ·refine Take.lit (pp:=(rL rI)) (jp:=2) [sV aL V.1 aM] ([V.1]:List (List Int)) aT rfl rfl rfl rfl underlying22 BV EF (by decide) rfl rfl rfl ⟨⟨_,_,rfl,br⟩,trivial⟩ fun hw eU eV eW=>JG.one (i:=3) rfl (by decide+kernel) (Take.lit (pp:=(rL rI)) (jp:=2) [sV ay aj.1 az] ([aj.1]:List (List Int)) eW rfl rfl rfl rfl underlying22 BV EF (by decide) rfl rfl rfl ⟨⟨_,_,rfl,(ca.Ai ((al.Ac ao).Ac ap))⟩,trivial⟩ fun hx eX eY eZ=>?_);refine JG.one (i:=4) rfl (by decide+kernel) (Take.app (pp:=(rL rI)) (jp:=2) 3 6 eZ rfl bw rfl rfl rfl rfl rfl rfl rfl underlying22 underlying22 BV (CP type28) EF rfl (by decide) (by decide) (a1.Ai ((((((an.Ac aA).Ac aw).Ac aB).Ac al).Ac ao).Ac ap)) eY rfl rfl rfl rfl fun e0 e1 hy cn e3 e4=>?_);refine B6 10 ht underlying24 Cl rfl rfl rfl rfl (JG.one (i:=9) rfl (by decide+kernel) ?_);refine Take.app (pp:=(rL rI)) (jp:=2) 4 5 e4 rfl bz rfl rfl rfl rfl rfl rfl rfl underlying22 underlying22 BV (CP type28) EF rfl (by decide) (by decide) (a2.Ai ((((((an.Ac aA).Ac aw).Ac aB).Ac al).Ac ao).Ac ap)) eV rfl rfl rfl rfl fun e5 e6 hz co e7 e8=>Co [11,12,13] (Fg 3 rfl e8 fun e9=>?_);refine JS.drop 3 e9 rfl fun fa=>Fg 4 rfl fa fun fb=>JS.drop 4 fb rfl fun fc=>CB (S':= [[(bk,.cells #[sV aC V.2.1 aD,iV V.2.2.1,.int .u64 ((V.2.2.2:Nat):Int)] 92 (0,0))],[(U,.cells #[nS,nS] 24 (0,0))],[(O,.cells #[sV Z K.1 aa,sV ab K.2.1 ae] 24 (0,0))],[],[],eU,eX,cn,co]) rfl fc fun fd=>BQ 2 fd Cl fun fe=>?_;refine BF underlying24 Cl rfl rfl rfl (BQ 2 fe Cl fun ff=>?_);obtain⟨fg,fh,fj⟩:=bs bA;refine zg 4 rfl (Ba fh rfl rfl rfl ?_);refine zg 2 rfl (JS.drop 5 ff rfl fun fk=>?_);refine JS.drop 6 fk rfl fun fm=>?_;obtain rfl:=oi fj;exact Ay (bf _ _ (bv,bx,V.2.1,V.2.2.1,V.2.2.2,fg) ⟨aE,e0,e1,cn,e5,e6,co,aC,aD,rfl,rfl,(((((((a0.Ac an).Ac aA).Ac aw).Ac aB).Ac al).Ac ao).Ac ap),fm,e3,e7,bu⟩ aS) rfl
     ·intro fo;refine JL.block (CG dV (fun L s ai=>∃(aF:LH) (aU:Ap) (aV:Nat) (aG:Ap) (aH:Nat),Jn bq H aF [bX bk #[sV aU ai.1 aV,iV ai.2.1,.int .u64 ((ai.2.2.1:Nat):Int)] 92,bX U #[nS,nS] 24,bX O #[sV Z K.1 aa,sV ab K.2.1 ae] 24,ag,ah] [(0,pV bk 0),(4,pV U 0),(5,pV O 0),(6,iV am.1),(7,iV K.2.2.2.2.2),(8,sV ay aj.1 az),(9,sV aG ai.2.2.2.1 aH),(10,iV ai.2.2.2.2)] L s (Ao rI aF aU aV ai.1∧Ao rI aF aG aH ai.2.2.2.1)) ⟨bq,cb,cc,none,0,rfl,rfl,Aq,dU,dS,Ao.nil⟩ ?_);rintro _ _ ai ⟨aF,aU,aV,aG,aH,rfl,rfl,cp,cq,cr,bB⟩ fp ⟨hA,bC⟩ fq;have ct:=bC;unfold MH at ct;obtain⟨fs,fu,fv⟩:=bs ct;refine zg 6 rfl (Gb [] (fun L s=>∃(bD:LH),Jm aF H bD [bX bk #[sV aU ai.1 aV,iV ai.2.1,.int .u64 ((ai.2.2.1:Nat):Int)] 92,bX U #[nS,nS] 24,bX O #[sV Z K.1 aa,sV ab K.2.1 ae] 24,ag,ah] [(0,pV bk 0),(4,pV U 0),(5,pV O 0),(6,iV am.1),(7,iV K.2.2.2.2.2),(8,sV ay aj.1 az),(9,sV aG ai.2.2.2.1 aH),(10,iV ai.2.2.2.2),(50,.bool fs)] L s) ?_ ?_)
      ·rintro _ _ ⟨bD,rfl,rfl,aI,cu⟩;refine JL.done (BM fv (fun fw fx=>?_) (fun fw fy=>?_))
       ·obtain⟨fz,fA,fB⟩:=bs fx;refine zg 7 rfl (B7 fA rfl rfl rfl ?_);refine AA (v:=iV (max (0) fz)) rfl (fun ρ h=>Yl.max2 (h _ _ rfl) (h _ _ rfl)) ?_;obtain⟨hB,fC,fD⟩:=bs fB;refine BY 0 (HK (cr.Ai aI) fC) rfl rfl Hw cu rfl ?_;rintro _ hC _ bE ⟨hD,hE,rfl,rfl,fE⟩ fF;obtain⟨hF,fG,fH⟩:=bs fD;refine zg 6 rfl (BY 0 (KV fE fG) rfl rfl J2 fF rfl ?_);rintro _ cv _ bF ⟨fI,fJ,rfl,rfl,cw⟩ cy;obtain⟨ak,fK,fL⟩:=bs fH;refine JL.done (Bs (fun L s=>∃(aW:LH) (aN:Ap) (aO:Nat),Jn cv H aW [bX bk #[sV aN ak.2.1 aO,iV ak.2.2.1,.int .u64 ((ak.2.2.2:Nat):Int)] 92,bX U #[nS,nS] 24,bX O #[sV Z K.1 aa,sV ab K.2.1 ae] 24,ag,ah] [(0,pV bk 0),(4,pV U 0),(5,pV O 0),(6,iV am.1),(7,iV K.2.2.2.2.2),(8,sV ay aj.1 az),(9,sV aG ai.2.2.2.1 aH),(10,iV ai.2.2.2.2),(11,iV ak.1)] L s (Ao rI aW aN aO ak.2.1)) ?_ ?_)
        ·rintro _ _ ⟨aW,aN,aO,rfl,rfl,bG,cz,fM⟩;obtain⟨bH,fN,fO⟩:=bs fL;refine zg 6 rfl (Bs (fun L s=>∃(a7:LH) (a8:Ap) (a9:Nat),Jn aW H a7 [bX bk #[sV aN ak.2.1 aO,iV ak.2.2.1,.int .u64 ((ak.2.2.2:Nat):Int)] 92,bX U #[nS,nS] 24,bX O #[sV Z K.1 aa,sV ab K.2.1 ae] 24,ag,ah] [(0,pV bk 0),(4,pV U 0),(5,pV O 0),(6,iV am.1),(7,iV K.2.2.2.2.2),(8,sV ay aj.1 az),(9,sV a8 bH a9),(10,iV ai.2.2.2.2)] L s (Ao rI a7 a8 a9 bH)) ?_ ?_)
         ·rintro _ _ ⟨a7,a8,a9,rfl,rfl,cA,fP,fQ⟩;obtain⟨fR,fS,fT⟩:=bs fO;refine zg 3 rfl (B7 fS rfl rfl rfl ?_);refine zg 2 rfl ?_;obtain rfl:=oi fT;exact Ay (fq _ _ (ak.2.1,ak.2.2.1,ak.2.2.2,bH,fR) ⟨a7,aN,aO,a8,a9,rfl,rfl,(((((cp.Ac aI).Ac bE).Ac bF).Ac bG).Ac cA),fP,(fM.Ai cA),fQ⟩ bC) rfl
         ·intro cB;refine AK fN (fun fU fW=>?_) (fun fU fX=>?_)
          ·obtain⟨hG,fY,fZ⟩:=bs fW;refine zg 3 rfl (BO (SF (bB.Ai (((aI.Ac bE).Ac bF).Ac bG)) fY) rfl rfl (A2 func98 rfl) cz ?_);rintro _ ga _ gb ⟨gc,gd,rfl,rfl,ge⟩ gf;refine CB (S':= [[(bk,.cells #[sV aN ak.2.1 aO,iV ak.2.2.1,.int .u64 ((ak.2.2.2:Nat):Int)] 92 (0,0))],[(U,.cells #[nS,nS] 24 (0,0))],[(O,.cells #[sV Z K.1 aa,sV ab K.2.1 ae] 24 (0,0))],ag,ah,[]]) rfl gf fun gg=>zg 2 rfl ?_;obtain rfl:=oi fZ;exact Ay (cB _ _ ⟨ga,gc,gd,rfl,rfl,gb,gg,ge⟩) rfl
          ·refine JL.skip ?_;obtain rfl:=oi fX;exact Ay (cB _ _ ⟨aW,aG,aH,rfl,rfl,Aq,cz,(bB.Ai (((aI.Ac bE).Ac bF).Ac bG))⟩) rfl
        ·intro cC;refine BM fK (fun gh gi=>?_) (fun gh gj=>?_)
         ·obtain⟨hH,gk,gl⟩:=bs gi;refine zg 3 rfl (B7 gk rfl rfl rfl ?_);obtain⟨bI,gm,gn⟩:=bs gl;refine BY 0 (HK cw gm) rfl rfl Hw cy rfl ?_;rintro _ gp _ gq ⟨cD,cE,rfl,rfl,gr⟩ gt;refine CB (S':= [[(bk,.cells #[sV cD bI.2.1 cE,iV bI.2.2.1,.int .u64 ((bI.2.2.2:Nat):Int)] 92 (0,0))],[(U,.cells #[nS,nS] 24 (0,0))],[(O,.cells #[sV Z K.1 aa,sV ab K.2.1 ae] 24 (0,0))],ag,ah]) rfl gt fun gu=>zg 2 rfl ?_;obtain rfl:=oi gn;exact Ay (cC _ _ ⟨gp,cD,cE,rfl,rfl,gq,gu,gr⟩) rfl
         ·refine JL.skip ?_;obtain rfl:=oi gj;exact Ay (cC _ _ ⟨cv,fI,fJ,rfl,rfl,Aq,cy,cw⟩) rfl
       ·refine JL.exit rfl ?_;obtain rfl:=oi fy;obtain rfl:=fp _ bC;exact Ay (fo _ _ ⟨bD,aG,aH,aU,aV,rfl,rfl,(cp.Ac aI),cu,(bB.Ai aI),(cr.Ai aI)⟩) rfl
      ·intro cF;refine Ew 47 fu (fun gv gw=>?_) (fun gv gx=>?_)
       ·refine zg 3 rfl ?_;obtain rfl:=oi gw;exact Ay (cF _ _ ⟨aF,rfl,rfl,Aq,cq⟩) rfl
       ·refine zg 3 rfl ?_;obtain rfl:=oi gx;exact Ay (cF _ _ ⟨aF,rfl,rfl,Aq,cq⟩) rfl
    ·intro cG;refine BM dI (fun gy gz=>?_) (fun gy gA=>?_)
     ·obtain⟨hI,gB,gC⟩:=bs gz;refine zg 3 rfl (B7 gB rfl rfl rfl ?_);obtain⟨aX,gD,gE⟩:=bs gC;refine BY 0 (HK b8 gD) rfl rfl Hw b9 rfl ?_;rintro _ hJ _ gF ⟨cH,cI,rfl,rfl,gG⟩ gH;refine JS.lit (pp:=rI) [iV aX.1] [aX.1] rfl rfl rfl underlying28 AW Cz (by decide) rfl rfl rfl ⟨rfl,trivial⟩ gH fun gI hK gJ gK=>zg 2 rfl (Ca 5 gJ gK rfl fun gL cJ gM gN=>?_);refine CB (S':= [[(bk,.cells #[sV cH aX.2.1 cI,iV aX.2.2.1,.int .u64 ((aX.2.2.2:Nat):Int)] 92 (0,0))],[(U,.cells #[nS,nS] 24 (0,0))],[(O,.cells #[sV Z K.1 aa,sV ab K.2.1 ae] 24 (0,0))],ag,ah,[]]) rfl gN fun gO=>?_;obtain rfl:=oi gE;exact Ay (cG _ _ ⟨gL,(Bh gI),1,cH,cI,rfl,rfl,(gF.Ac cJ),gO,gM,(gG.Ai cJ)⟩) rfl
     ·refine JL.skip ?_;obtain rfl:=oi gA;exact Ay (cG _ _ ⟨b5,a4,a5,b6,b7,rfl,rfl,Aq,b9,(dD.Ai aw),b8⟩) rfl
   ·intro cK;refine BM dA (fun gP gQ=>?_) (fun gP gR=>?_)
    ·obtain⟨hL,gS,gT⟩:=bs gQ;refine zg 5 rfl (B7 gS rfl rfl rfl ?_);obtain⟨bJ,gU,gV⟩:=bs gT;refine BY 0 (OU b3 gU) rfl rfl NF b4 rfl ?_;rintro _ hM _ cM ⟨cN,cO,rfl,rfl,gW⟩ gX;refine CB (S':= [[(bk,.cells #[sV cN bJ.2.1 cO,iV bJ.2.2.1,.int .u64 ((bJ.2.2.2:Nat):Int)] 92 (0,0))],[(U,.cells #[nS,nS] 24 (0,0))],[(O,.cells #[sV Z K.1 aa,sV ab K.2.1 ae] 24 (0,0))],ag,ah,dv]) rfl gX fun gY=>Ca 5 (b0.Ai (an.Ac cM)) gY rfl fun hN cP gZ g0=>?_;obtain⟨hO,g1,g3⟩:=bs gV;refine BO (SF gZ g1) rfl rfl (A2 func98 rfl) g0 ?_;rintro _ g4 _ cQ ⟨g5,g6,rfl,rfl,g7⟩ g8;refine zg 2 rfl ?_;obtain rfl:=oi g3;exact Ay (cK _ _ ⟨g4,g5,g6,cN,cO,rfl,rfl,((cM.Ac cP).Ac cQ),g8,g7,(gW.Ai (cP.Ac cQ))⟩) rfl
    ·refine JL.skip (Ca 5 (b0.Ai an) b4 rfl fun g9 cR ha hb=>?_);refine CB (S':= [[(bk,.cells #[sV b1 bi.2.1 b2,iV bi.2.2.1,.int .u64 ((bi.2.2.2:Nat):Int)] 92 (0,0))],[(U,.cells #[nS,nS] 24 (0,0))],[(O,.cells #[sV Z K.1 aa,sV ab K.2.1 ae] 24 (0,0))],ag,ah,[]]) rfl hb fun hc=>?_;obtain rfl:=oi gR;exact Ay (cK _ _ ⟨g9,(Bh du),1,b1,b2,rfl,rfl,cR,hc,ha,(b3.Ai cR)⟩) rfl
  ·refine JL.exit rfl ?_;obtain rfl:=oi dn;obtain rfl:=dk _ aS;exact Ay (dj _ _ ⟨aJ,aY,aZ,Z,aa,ag,ab,ae,ah,rfl,rfl,a0,bW,bY,a1,a2⟩) rfl
def MD(fuel:Nat)(p1:Bt)(U:Int×(B8))(K:(List Int)×Int×Nat×Int×Int):Option (Bl ((List Int)×Int×Nat×Int×Int) (Int×B8)):= if K.2.2.2.2<U.1 then((ix p1.1 K.2.2.2.1).bind fun V=> (f99 fuel (K.1,K.2.1,K.2.2.1) V).bind fun O=> (Au (K.2.2.2.2+1)).bind fun W=> some (.more (O.2.1,O.2.2.1,O.2.2.2,O.1,W))) else(some (.done (K.2.2.2.1,K.1,K.2.1,K.2.2.1)))
def My(fuel:Nat)(p1:Bt)(p2:Int)(K:(List Int)×Int×Nat×Int×(List Int)×Int):Option (Bl ((List Int)×Int×Nat×Int×(List Int)×Int) ((List Int)×B8)):= if K.2.2.2.2.2<p2 then((room K.2.2.2.2.1 K.2.2.2.1).bind fun U=> (ix p1.1 K.2.2.2.1).bind fun V=> (f99 fuel (K.1,K.2.1,K.2.2.1) V).bind fun O=> (Au (K.2.2.2.2.2+1)).bind fun W=> some (.more (O.2.1,O.2.2.1,O.2.2.2,O.1,U,W))) else(some (.done (K.2.2.2.2.1,K.1,K.2.1,K.2.2.1)))
def f45(fuel:Nat)(p0:B8)(p1:Bt)(p2:Int):Option (Int×(List Int)×(B8)):= (f41 fuel p0 6).bind fun K=> Option.bind (iter (MD fuel p1 K) fuel (K.2.1,K.2.2.1,K.2.2.2,0,0)) fun O=> Option.bind (iter (My fuel p1 p2) fuel (O.2.1,O.2.2.1,O.2.2.2,O.1,[],0)) fun U=> some (K.1,U.1,U.2)
theorem YL{bk:Nat}{aI:Ap}{c2:Nat}{aJ:Ap}{aK:Nat}{aL:Ap}{aM:Nat}{p0:B8}{p1:Bt}{p2:Int}(a3:Ao rI E aI c2 p0.1)(aN:Ao (rL rI) E aJ aK p1.1)(ci:Ao (rL rI) E aL aM p1.2){fuel:Nat}{r:Int×(List Int)×(B8)}(aO:f45 fuel p0 p1 p2=some r):AQ J 45 [pV bk 0,.agg #[sV aJ p1.1 aK,sV aL p1.2 aM],iV p2] E [(bk,.cells #[sV aI p0.1 c2,iV p0.2.1,.int .u64 ((p0.2.2:Nat):Int)] 92 (0,0))] (fun w E' B'=>∃(aP:Ap) (aQ:Nat) (aR:Ap) (aS:Nat),w= .tuple #[iV r.1,sV aP r.2.1 aQ]∧B'= [(bk,.cells #[sV aR r.2.2.1 aS,iV r.2.2.2.1,.int .u64 ((r.2.2.2.2:Nat):Int)] 92 (0,0))]∧Ao rI E' aP aQ r.2.1∧Ao rI E' aR aS r.2.2.1):=by
 refine Bc func45 fun Q ck cs H a4 a5=>?_;unfold f45 at aO;refine zg 2 rfl (Cs a4 fun aC cm ag aT a6=>?_);obtain⟨ah,a7,a8⟩:=bs aO;refine zg 6 rfl (BY 0 (HK (a3.Ai ag) a7) rfl rfl Hw a6 rfl ?_);rintro _ aD _ W ⟨a9,ba,rfl,rfl,bb⟩ bc;obtain⟨Z,bd,be⟩:=bs a8;refine zg 8 rfl (Bs (fun L s=>∃(U:LH) (ai:Ap) (aj:Nat),Jn aD H U [bX bk #[sV ai Z.2.1 aj,iV Z.2.2.1,.int .u64 ((Z.2.2.2:Nat):Int)] 92] [(0,pV bk 0),(2,iV p2),(4,pV aC 0),(8,iV ah.1),(9,iV Z.1)] L s (Ao rI U ai aj Z.2.1)) ?_ ?_)
 ·rintro _ _ ⟨U,ai,aj,rfl,rfl,aE,bf,bg⟩;obtain⟨V,bh,bi⟩:=bs be;refine zg 9 rfl (Bs (fun L s=>∃(ak:LH) (al:Ap) (am:Nat) (aF:Seg) (an:Ap) (ao:Nat),Jn U H ak [bX bk #[sV an V.2.1 ao,iV V.2.2.1,.int .u64 ((V.2.2.2:Nat):Int)] 92,aF] [(8,iV ah.1),(11,sV al V.1 am)] L s (OL 3 rI ak al am aF V.1∧Ao rI ak an ao V.2.1)) ?_ ?_)
  ·rintro _ _ ⟨ak,al,am,aF,an,ao,rfl,rfl,bj,bl,bm,bn⟩;refine zg 7 rfl (Ca 1 bm bl rfl fun cn aU bo bp=>?_);obtain rfl:=oi bi;exact AF func45 rfl rfl (a5 ((((ag.Ac W).Ac aE).Ac bj).Ac aU) rfl ⟨al,am,an,ao,rfl,rfl,bo,(bn.Ai aU)⟩ bp)
  ·intro bq;refine JL.block (CG bh (fun L s K=>∃(aa:LH) (ap:Ap) (aq:Nat) (ab:Ap) (ae:Nat) (ar:Seg),Jn U H aa [bX bk #[sV ap K.1 aq,iV K.2.1,.int .u64 ((K.2.2.1:Nat):Int)] 92,ar] [(0,pV bk 0),(2,iV p2),(4,pV aC 0),(8,iV ah.1),(9,iV K.2.2.2.1),(11,sV ab K.2.2.2.2.1 ae),(12,iV K.2.2.2.2.2)] L s (Ao rI aa ap aq K.1∧OL 3 rI aa ab ae ar K.2.2.2.2.1)) ⟨U,ai,aj,none,0,[],rfl,rfl,Aq,bf,bg,OL.nil⟩ ?_);rintro _ _ K ⟨aa,ap,aq,ab,ae,ar,rfl,rfl,au,aV,aW,aX⟩ br ⟨co,aG⟩ bu;have aY:=aG;unfold My at aY;refine zg 7 rfl (AK aY (fun bv bw=>?_) (fun bv bx=>?_))
   ·obtain⟨bz,bA,bB⟩:=bs bw;refine zg 7 rfl (JS.app (pp:=rI) (v:=iV K.2.2.2.1) (a:=ab) (c:=ae) 1 bA rfl rfl rfl rfl (fun _=>rfl) rfl (fun _=>rfl) rfl rfl rfl underlying28 underlying28 underlying28 AW (CP type3) Cz rfl (by decide) (by decide) (by decide) (by decide) aX rfl aV rfl fun cp bC bD bE bF bG=>?_);refine zg 4 rfl (JL.fl 0 (aT.Ai ((W.Ac aE).Ac au)) underlying24 Cl CW ?_);obtain⟨cq,bH,bI⟩:=bs bB;refine zg 1 rfl (Cb (aN.Ai (((ag.Ac W).Ac aE).Ac au)) bH underlying22 BV ?_);rintro cr ct _ ⟨cu,cv,rfl,bJ⟩ bK;refine BW 0 bK C4 rfl rfl rfl ?_;obtain⟨av,bL,bM⟩:=bs bI;refine BY 0 (M6 aW bJ bL) rfl rfl LB bG rfl ?_;rintro _ bN _ aZ ⟨bO,bP,rfl,rfl,bQ⟩ bR;obtain⟨bS,bT,bU⟩:=bs bM;refine zg 5 rfl (Ba bT rfl rfl rfl ?_);refine zg 2 rfl ?_;obtain rfl:=oi bU;exact Ay (bu _ _ (av.2.1,av.2.2.1,av.2.2.2,av.1,bz,bS) ⟨bN,bO,bP,bC,bD,bE,rfl,rfl,(au.Ac aZ),bR,bQ,(bF.Ai aZ)⟩ aG) rfl
   ·refine JL.exit rfl ?_;obtain rfl:=oi bx;obtain rfl:=br _ aG;exact Ay (bq _ _ ⟨aa,ab,ae,ar,ap,aq,rfl,rfl,au,aV,aX,aW⟩) rfl
 ·intro bV;refine JL.block (CG bd (fun L s O=>∃(aw:LH) (ay:Ap) (az:Nat),Jn aD H aw [bX bk #[sV ay O.1 az,iV O.2.1,.int .u64 ((O.2.2.1:Nat):Int)] 92] [(0,pV bk 0),(2,iV p2),(4,pV aC 0),(8,iV ah.1),(9,iV O.2.2.2.1),(10,iV O.2.2.2.2)] L s (Ao rI aw ay az O.1)) ⟨aD,a9,ba,rfl,rfl,Aq,bc,bb⟩ ?_);rintro _ _ O ⟨aw,ay,az,rfl,rfl,aA,a0,a1⟩ bW ⟨cw,aH⟩ bY;have a2:=aH;unfold MD at a2;refine zg 7 rfl (AK a2 (fun bZ b0=>?_) (fun bZ b1=>?_))
  ·refine zg 5 rfl (JL.fl 0 (aT.Ai (W.Ac aA)) underlying24 Cl CW ?_);obtain⟨cy,b2,b3⟩:=bs b0;refine zg 1 rfl (Cb (aN.Ai ((ag.Ac W).Ac aA)) b2 underlying22 BV ?_);rintro cz cA _ ⟨cB,cC,rfl,b4⟩ b5;refine BW 0 b5 C4 rfl rfl rfl ?_;obtain⟨aB,b6,b7⟩:=bs b3;refine BY 0 (M6 a1 b4 b6) rfl rfl LB a0 rfl ?_;rintro _ b8 _ b9 ⟨ca,cb,rfl,rfl,cc⟩ cd;obtain⟨ce,cf,cg⟩:=bs b7;refine zg 5 rfl (Ba cf rfl rfl rfl ?_);refine zg 2 rfl ?_;obtain rfl:=oi cg;exact Ay (bY _ _ (aB.2.1,aB.2.2.1,aB.2.2.2,aB.1,ce) ⟨b8,ca,cb,rfl,rfl,(aA.Ac b9),cd,cc⟩ aH) rfl
  ·refine JL.exit rfl ?_;obtain rfl:=oi b1;obtain rfl:=bW _ aH;exact Ay (bV _ _ ⟨aw,ay,az,rfl,rfl,aA,a0,a1⟩) rfl
def OA(fuel:Nat)(p1:Bt)(p2:List Int)(p4:Bool)(K:(List Int)×Int×Nat×(A4)×Int×Int):Option (Bl ((List Int)×Int×Nat×(A4)×Int×Int) ((A4)×B8)):= if 0<K.2.2.2.2.2 then((Au ((p2.length:Int) - 1)).bind fun aa=> (Au (K.2.2.2.2.1+2)).bind fun ab=> (f96 fuel (K.1,K.2.1,K.2.2.1) K.2.2.2.2.1 (min aa ab)).bind fun O=> (ix p2 O.1).bind fun ae=> (ix p2 O.1).bind fun ag=> (ix p1.2 ag).bind fun Z=> Option.bind (if p4=true then(some (decide (0<(Z.length:Int)))) else(some false)) fun ah=> Option.bind (if ah=true then((f97 fuel O.2 2).bind fun ai=> some ai) else(some (false,O.2.1,O.2.2.1,O.2.2.2))) fun U=> Option.bind (if U.1=true then((f99 fuel U.2 Z).bind fun V=> some (V.2.1,V.2.2.1,V.2.2.2,V.1)) else(some (U.2.1,U.2.2.1,U.2.2.2,ae))) fun W=> (room K.2.2.2.1 (O.1,W.2.2.2)).bind fun aj=> (Au (K.2.2.2.2.2 - 1)).bind fun ak=> some (.more (W.1,W.2.1,W.2.2.1,aj,O.1,ak))) else(some (.done (K.2.2.2.1,K.1,K.2.1,K.2.2.1)))
def f46(fuel:Nat)(p0:B8)(p1:Bt)(p2:List Int)(p3:Int)(p4:Bool):Option ((A4)×(B8)):= (f41 fuel p0 p3).bind fun K=> Option.bind (iter (OA fuel p1 p2 p4) fuel (K.2.1,K.2.2.1,K.2.2.2,[],0,K.1)) fun O=> some O
theorem YH{bk:Nat}{aK:Ap}{c2:Nat}{aL:Ap}{aM:Nat}{aN:Ap}{aO:Nat}{aa:Ap}{ab:Nat}{p0:B8}{p1:Bt}{p2:List Int}{p3:Int}{p4:Bool}(bf:Ao rI E aK c2 p0.1)(cT:Ao (rL rI) E aL aM p1.1)(bg:Ao (rL rI) E aN aO p1.2)(aP:Ao rI E aa ab p2){fuel:Nat}{r:(A4)×(B8)}(aQ:f46 fuel p0 p1 p2 p3 p4=some r):AQ J 46 [pV bk 0,.agg #[sV aL p1.1 aM,sV aN p1.2 aO],sV aa p2 ab,iV p3,.bool p4] E [(bk,.cells #[sV aK p0.1 c2,iV p0.2.1,.int .u64 ((p0.2.2:Nat):Int)] 92 (0,0))] (fun w E' B'=>∃(aR:Ap) (aS:Nat) (g0:Seg) (aT:Ap) (aU:Nat),w= sV aR r.1 aS∧B'= [(bk,.cells #[sV aT r.2.1 aU,iV r.2.2.1,.int .u64 ((r.2.2.2:Nat):Int)] 92 (0,0))]++g0∧OL 27 BJ E' aR aS g0 r.1∧Ao rI E' aT aU r.2.1):=by
 refine Bc func46 fun Q cV cs H bh bi=>?_;unfold f46 at aQ;refine zg 2 rfl (Cs bh fun ap cW aj bj bl=>?_);obtain⟨cX,bm,bn⟩:=bs aQ;refine zg 15 rfl (BY 0 (HK (bf.Ai aj) bm) rfl rfl Hw bl rfl ?_);rintro _ aG _ ak ⟨bo,bp,rfl,rfl,bq⟩ br;obtain⟨ae,bu,bv⟩:=bs bn;refine zg 2 rfl (Bs (fun L s=>∃(aq:LH) (ar:Ap) (au:Nat) (av:Seg) (aw:Ap) (ay:Nat),Jn aG H aq [bX bk #[sV aw ae.2.1 ay,iV ae.2.2.1,.int .u64 ((ae.2.2.2:Nat):Int)] 92,av] [(11,sV ar ae.1 au)] L s (OL 27 BJ aq ar au av ae.1∧Ao rI aq aw ay ae.2.1)) ?_ ?_)
 ·rintro _ _ ⟨aq,ar,au,av,aw,ay,rfl,rfl,bw,bx,bz,bA⟩;refine zg 5 rfl ?_;obtain rfl:=oi bv;exact AF func46 rfl rfl (bi ((aj.Ac ak).Ac bw) rfl ⟨ar,au,av,aw,ay,rfl,(by first | rfl | simp | (simp [Value.cells])),bz,bA⟩ bx)
 ·intro bB;refine JL.block (CG bu (fun L s K=>∃(al:LH) (az:Ap) (aA:Nat) (V:Ap) (W:Nat) (Z:Seg),Jn aG H al [bX bk #[sV az K.1 aA,iV K.2.1,.int .u64 ((K.2.2.1:Nat):Int)] 92,Z] [(0,pV bk 0),(2,sV aa p2 ab),(4,.bool p4),(6,pV ap 0),(11,sV V K.2.2.2.1 W),(12,iV K.2.2.2.2.1),(13,iV K.2.2.2.2.2)] L s (Ao rI al az aA K.1∧OL 27 BJ al V W Z K.2.2.2.1)) ⟨aG,bo,bp,none,0,[],rfl,rfl,Aq,br,bq,OL.nil⟩ ?_);rintro _ _ K ⟨al,az,aA,V,W,Z,rfl,rfl,ag,aV,aW,aX⟩ bC ⟨cY,aH⟩ bD;have aY:=aH;unfold OA at aY;refine zg 6 rfl (AK aY (fun bE bF=>?_) (fun bE bG=>?_))
  ·refine zg 8 rfl (Bp underlying28 rfl rfl rfl ?_);obtain⟨bH,bI,bJ⟩:=bs bF;refine B7 bI rfl rfl rfl ?_;obtain⟨bK,bL,bM⟩:=bs bJ;refine zg 1 rfl (Ba bL rfl rfl rfl ?_);refine AA (v:=iV (min bH bK)) rfl (fun ρ h=>Yl.min2 (h _ _ rfl) (h _ _ rfl)) ?_;obtain⟨O,bN,bO⟩:=bs bM;refine BY 0 (OU aW bN) rfl rfl NF aV rfl ?_;rintro _ cZ _ ah ⟨aZ,a0,rfl,rfl,a1⟩ bP;obtain⟨aI,bQ,bR⟩:=bs bO;refine zg 7 rfl (Cb (aP.Ai (((aj.Ac ak).Ac ag).Ac ah)) bQ underlying28 AW ?_);rintro c0 c1 _ rfl bS;refine BW 0 bS Bx rfl rfl rfl (AA (v:= .agg #[iV O.1,iV aI]) rfl (fun ρ h=>Dc [(0,1),(1,1)] h F6 underlying27 ⟨rfl,Bq type3,rfl,Bq type3,trivial⟩ rfl rfl) ?_);refine CO bP F6 fun ai bT=>?_;refine BQ 2 bT CS fun a2=>?_;refine zg 3 rfl (DG 6 fun ht=>?_);refine B6 0 ht underlying24 Cl rfl rfl rfl rfl (CI 1 ht 1 (bj.Ai ((ak.Ac ag).Ac ah)) CW rfl rfl rfl rfl ?_);refine Bi ht rfl [2,3] rfl ?_;obtain⟨c3,bU,bV⟩:=bs bR;refine Du 4 (aP.Ai (((aj.Ac ak).Ac ag).Ac ah)) bU ht underlying28 AW ?_;rintro c4 c5 _ rfl bW;refine CI 5 ht 0 bW Bx rfl rfl rfl rfl (Co [6,7,8] ?_);obtain⟨a3,bY,bZ⟩:=bs bV;refine Cb (bg.Ai (((aj.Ac ak).Ac ag).Ac ah)) bY underlying22 BV ?_;rintro c6 c7 _ ⟨a4,a5,rfl,b0⟩ b1;refine BW 0 b1 C4 rfl rfl rfl ?_;obtain⟨b2,b3,b4⟩:=bs bZ;refine zg 6 rfl (CV 6 4 [bX bk #[sV aZ O.2.1 a0,iV O.2.2.1,.int .u64 ((O.2.2.2:Nat):Int)] 92,Z,bX ai #[iV O.1,iV aI] 27] [(0,pV bk 0),(2,sV aa p2 ab),(4,.bool p4),(6,pV ap 0),(11,sV V K.2.2.2.1 W),(12,iV O.1),(13,iV K.2.2.2.2.2),(14,pV ai 0),(15,sV a4 a3 a5),(51,.bool b2)] (fun a6 am a7=>?_) (fun a8=>?_))
   ·obtain⟨an,b5,b6⟩:=bs b4;refine zg 1 rfl (Gb [] (fun L s=>∃(ao:LH) (aB:Ap) (aC:Nat),Jn a6 H ao [bX bk #[sV aB an.2.1 aC,iV an.2.2.1,.int .u64 ((an.2.2.2:Nat):Int)] 92,Z,bX ai #[iV O.1,iV aI] 27] [(0,pV bk 0),(2,sV aa p2 ab),(4,.bool p4),(6,pV ap 0),(11,sV V K.2.2.2.1 W),(12,iV O.1),(13,iV K.2.2.2.2.2),(14,pV ai 0),(15,sV a4 a3 a5),(55,.bool an.1)] L s (Ao rI ao aB aC an.2.1)) ?_ ?_)
    ·rintro _ _ ⟨ao,aB,aC,rfl,rfl,aJ,a9,ba⟩;obtain⟨U,b7,b8⟩:=bs b6;refine JL.done (Bs (fun L s=>∃(aD:LH) (aE:Ap) (aF:Nat),Jn ao H aD [bX bk #[sV aE U.1 aF,iV U.2.1,.int .u64 ((U.2.2.1:Nat):Int)] 92,Z,bX ai #[iV O.1,iV U.2.2.2] 27] [(0,pV bk 0),(2,sV aa p2 ab),(4,.bool p4),(6,pV ap 0),(11,sV V K.2.2.2.1 W),(12,iV O.1),(13,iV K.2.2.2.2.2),(14,pV ai 0)] L s (Ao rI aD aE aF U.1)) ?_ ?_)
     ·rintro _ _ ⟨aD,aE,aF,rfl,rfl,bb,bc,b9⟩;refine zg 2 rfl (AA rfl (fun ρ h=>FX (vs:= [iV O.1,iV U.2.2.2]) Iq CS (h _ _ rfl) (F9 (off:=0) 2 bc rfl rfl)) ?_);obtain⟨ca,cb,cc⟩:=bs b8;refine JS.app (pp:=BJ) (v:= .agg #[iV O.1,iV U.2.2.2]) (a:=V) (c:=W) 1 cb rfl rfl rfl rfl (fun _=>rfl) rfl (fun _=>rfl) rfl rfl rfl underlying25 underlying25 underlying25 CS (CP type27) F6 rfl (by decide) (by decide) (by decide) (by decide) (aX.Ai (((ah.Ac am).Ac aJ).Ac bb)) ⟨_,_,rfl,rfl,rfl⟩ bc rfl fun c8 cd ce cf cg ci=>?_;obtain⟨ck,cm,cn⟩:=bs cc;refine zg 5 rfl (B7 cm rfl rfl rfl ?_);refine zg 2 rfl (JS.drop 2 ci rfl fun co=>?_);obtain rfl:=oi cn;exact Ay (bD _ _ (U.1,U.2.1,U.2.2.1,ca,O.1,ck) ⟨aD,aE,aF,cd,ce,cf,rfl,rfl,((((ag.Ac ah).Ac am).Ac aJ).Ac bb),co,b9,cg⟩ aH) rfl
     ·intro bd;refine BM b7 (fun cp cq=>?_) (fun cp cr=>?_)
      ·obtain⟨c9,ct,cu⟩:=bs cq;refine zg 3 rfl (BY 0 (M6 ba (b0.Ai (am.Ac aJ)) ct) rfl rfl LB a9 rfl ?_);rintro _ cv _ cw ⟨cy,cz,rfl,rfl,cA⟩ cB;refine BF underlying27 AW rfl rfl rfl (BQ 2 cB AW fun cC=>?_);refine JL.done ?_;obtain rfl:=oi cu;exact Ay (bd _ _ ⟨cv,cy,cz,rfl,rfl,cw,cC,cA⟩) rfl
      ·refine JL.skip ?_;obtain rfl:=oi cr;exact Ay (bd _ _ ⟨ao,aB,aC,rfl,rfl,Aq,a9,ba⟩) rfl
    ·intro be;refine Dj 52 b5 (fun cD cE=>?_) (fun cD cF=>?_)
     ·obtain⟨da,cG,cH⟩:=bs cE;refine zg 1 rfl (BY 0 (KV (a1.Ai am) cG) rfl rfl J2 a7 rfl ?_);rintro _ cI _ cJ ⟨cK,cM,rfl,rfl,cN⟩ cO;refine zg 1 rfl ?_;obtain rfl:=oi cH;exact Ay (be _ _ ⟨cI,cK,cM,rfl,rfl,cJ,cO,cN⟩) rfl
     ·refine zg 3 rfl ?_;obtain rfl:=oi cF;exact Ay (be _ _ ⟨a6,aZ,a0,rfl,rfl,Aq,a7,(a1.Ai am)⟩) rfl
   ·refine Dj 47 b3 (fun cP cQ=>?_) (fun cP cR=>?_)
    ·refine zg 1 rfl (Bp underlying28 rfl rfl rfl ?_);refine zg 2 rfl ?_;obtain rfl:=oi cQ;exact a8 Aq a2 rfl
    ·refine zg 4 rfl ?_;obtain rfl:=oi cR;exact a8 Aq a2 rfl
  ·refine JL.exit rfl ?_;obtain rfl:=oi bG;obtain rfl:=bC _ aH;exact Ay (bB _ _ ⟨al,V,W,Z,az,aA,rfl,rfl,ag,aV,aX,aW⟩) rfl
def M1(fuel:Nat)(p1:Bt)(K:(List Int)×Int×Nat×(A4)×Int):Option (Bl ((List Int)×Int×Nat×(A4)×Int) ((A4)×B8)):= if K.2.2.2.2<(K.2.2.2.1.length:Int) then((f97 fuel (K.1,K.2.1,K.2.2.1) 6).bind fun O=> Option.bind (if O.1=true then((Au ((p1.1.length:Int) - 1)).bind fun W=> (f41 fuel O.2 W).bind fun U=> (ix K.2.2.2.1 K.2.2.2.2).bind fun Z=> some ((K.2.2.2.1.set (Int.toNat K.2.2.2.2) (Z.1,U.1)),U.2.1,U.2.2.1,U.2.2.2)) else(some (K.2.2.2.1,O.2.1,O.2.2.1,O.2.2.2))) fun V=> (Au (K.2.2.2.2+1)).bind fun aa=> some (.more (V.2.1,V.2.2.1,V.2.2.2,V.1,aa))) else(some (.done (K.2.2.2.1,K.1,K.2.1,K.2.2.1)))
def f40(fuel:Nat)(p0:B8)(p1:Bt)(p2:Int):Option ((A4)×(B8)):= (f45 fuel p0 p1 5).bind fun O=> (f46 fuel O.2.2 p1 O.2.1 p2 true).bind fun K=> Option.bind (iter (M1 fuel p1) fuel (K.2.1,K.2.2.1,K.2.2.2,K.1,0)) fun U=> some U
theorem YC{bk:Nat}{aL:Ap}{c2:Nat}{aB:Ap}{aC:Nat}{aM:Ap}{aN:Nat}{p0:B8}{p1:Bt}{p2:Int}(a7:Ao rI E aL c2 p0.1)(aO:Ao (rL rI) E aB aC p1.1)(aP:Ao (rL rI) E aM aN p1.2){fuel:Nat}{r:(A4)×(B8)}(aQ:f40 fuel p0 p1 p2=some r):AQ J 40 [pV bk 0,.agg #[sV aB p1.1 aC,sV aM p1.2 aN],iV p2] E [(bk,.cells #[sV aL p0.1 c2,iV p0.2.1,.int .u64 ((p0.2.2:Nat):Int)] 92 (0,0))] (fun w E' B'=>∃(aR:Ap) (aS:Nat) (aT:Ap) (aU:Nat),w= sV aR r.1 aS∧B'= [(bk,.cells #[sV aT r.2.1 aU,iV r.2.2.1,.int .u64 ((r.2.2.2:Nat):Int)] 92 (0,0))]∧Ao BJ E' aR aS r.1∧Ao rI E' aT aU r.2.1):=by
 refine Bc func40 fun Q ci cs H a8 a9=>?_;unfold f40 at aQ;refine zg 2 rfl (Cs a8 fun aj ck aa aD ba=>?_);refine zg 5 rfl (Cm aD Cy Cc rfl rfl ?_);obtain⟨cm,bb,bc⟩:=bs aQ;refine BY 0 (YL (a7.Ai aa) (aO.Ai aa) (aP.Ai aa) bb) rfl rfl (A2 func45 rfl) ba rfl ?_;rintro _ cn _ ae ⟨co,cp,cq,cr,rfl,rfl,bd,be⟩ bf;refine zg 9 rfl (Cm (aD.Ai ae) Cy Cc rfl rfl ?_);obtain⟨ct,bg,bh⟩:=bs bc;refine zg 2 rfl (BY 0 (YH be (aO.Ai (aa.Ac ae)) (aP.Ai (aa.Ac ae)) bd bg) rfl rfl (A2 func46 rfl) bf rfl ?_);rintro _ aE _ aV ⟨bi,bj,bl,bm,bn,rfl,rfl,bo,bp⟩ bq;refine Fg 0 rfl bq fun br=>?_;obtain⟨ab,bu,bv⟩:=bs bh;refine zg 7 rfl (Bs (fun L s=>∃(ak:LH) (al:Ap) (am:Nat) (aF:Seg) (an:Ap) (ao:Nat),Jn aE H ak [bX bk #[sV an ab.2.1 ao,iV ab.2.2.1,.int .u64 ((ab.2.2.2:Nat):Int)] 92,aF] [(9,sV al ab.1 am)] L s (OL 27 BJ ak al am aF ab.1∧Ao rI ak an ao ab.2.1)) ?_ ?_)
 ·rintro _ _ ⟨ak,al,am,aF,an,ao,rfl,rfl,bw,bx,bz,bA⟩;refine zg 5 rfl (Ca 1 bz bx rfl fun cu aW bB bC=>?_);obtain rfl:=oi bv;exact AF func40 rfl rfl (a9 ((((aa.Ac ae).Ac aV).Ac bw).Ac aW) rfl ⟨al,am,an,ao,rfl,rfl,bB,(bA.Ai aW)⟩ bC)
 ·intro bD;refine JL.block (CG bu (fun L s K=>∃(ag:LH) (ap:Ap) (aq:Nat) (W:Ap) (Z:Nat) (ah:Seg),Jn aE H ag [bX bk #[sV ap K.1 aq,iV K.2.1,.int .u64 ((K.2.2.1:Nat):Int)] 92,ah] [(0,pV bk 0),(4,pV aj 0),(9,sV W K.2.2.2.1 Z),(10,iV K.2.2.2.2)] L s (Ao rI ag ap aq K.1∧OL 27 BJ ag W Z ah K.2.2.2.1)) ⟨aE,bm,bn,bi,bj,bl,rfl,rfl,Aq,br,bp,bo⟩ ?_);rintro _ _ K ⟨ag,ap,aq,W,Z,ah,rfl,rfl,aG,aX,aY,aH⟩ bE ⟨cv,aI⟩ bF;have aZ:=aI;unfold M1 at aZ;refine zg 5 rfl (Bp underlying25 rfl rfl rfl ?_);refine zg 2 rfl (AK aZ (fun bG bH=>?_) (fun bG bI=>?_))
  ·obtain⟨bJ,bK,bL⟩:=bs bH;refine zg 6 rfl (BY 0 (KV aY bK) rfl rfl J2 aX rfl ?_);rintro _ a0 _ ar ⟨bM,bN,rfl,rfl,a1⟩ a2;obtain⟨O,bO,bP⟩:=bs bL;refine JL.done (Bs (fun L s=>∃(ai:LH) (au:Ap) (av:Nat) (aw:Seg) (ay:Ap) (az:Nat),Jn a0 H ai [bX bk #[sV ay O.2.1 az,iV O.2.2.1,.int .u64 ((O.2.2.2:Nat):Int)] 92,aw] [(0,pV bk 0),(4,pV aj 0),(9,sV au O.1 av),(10,iV K.2.2.2.2)] L s (OL 27 BJ ai au av aw O.1∧Ao rI ai ay az O.2.1)) ?_ ?_)
   ·rintro _ _ ⟨ai,au,av,aw,ay,az,rfl,rfl,bQ,bR,bS,bT⟩;obtain⟨bU,bV,bW⟩:=bs bP;refine zg 3 rfl (Ba bV rfl rfl rfl ?_);refine zg 2 rfl ?_;obtain rfl:=oi bW;exact Ay (bF _ _ (O.2.1,O.2.2.1,O.2.2.2,O.1,bU) ⟨ai,ay,az,au,av,aw,rfl,rfl,((aG.Ac ar).Ac bQ),bR,bT,bS⟩ aI) rfl
   ·intro a3;refine BM bO (fun bY bZ=>?_) (fun bY b0=>?_)
    ·refine zg 4 rfl (JL.fl 0 (aD.Ai (((ae.Ac aV).Ac aG).Ac ar)) underlying24 Cl CW ?_);refine Bp underlying22 rfl rfl rfl ?_;obtain⟨b1,b2,b3⟩:=bs bZ;refine B7 b2 rfl rfl rfl ?_;obtain⟨U,b4,b5⟩:=bs b3;refine BY 0 (HK a1 b4) rfl rfl Hw a2 rfl ?_;rintro _ b6 _ a4 ⟨b7,b8,rfl,rfl,b9⟩ ca;obtain⟨V,cb,cc⟩:=bs b5;refine L4 1 (aH.Ai (ar.Ac a4)) cb rfl rfl rfl rfl rfl rfl underlying25 CS ?_;rintro aJ aA f138 _ cd ⟨_,_,rfl,rfl,rfl⟩ ce a5 cf cw cy;refine BF underlying27 AW rfl rfl rfl (JS.store (v:=iV U.1) (off:=aA+1) 1 rfl rfl rfl ca rfl rfl AW (by simp [Value.cells,CM]) cd (by have:=a5;simp only [Rp.n,rK,rN,rB,rP,rL] at this;show _+1≤_;omega) fun a6=>?_);rw [TF (m:=1) (ws:= [iV V.1,iV V.2]) (vs:= [iV V.1,iV U.1]) (by have:=a5;simp only [Rp.n,rK,rN,rB,rP,rL] at this;show _+2≤_;omega) ce rfl (Nat.le_of_ble_eq_true rfl)] at a6 ⊢;have cg:=cf ((V.1,U.1)) [iV V.1,iV U.1] ⟨_,_,rfl,rfl,rfl⟩;have aK:(K.2.2.2.1.set (Int.toNat K.2.2.2.2) (V.1,U.1)).length=K.2.2.2.1.length:=List.length_set;refine GV (L':= [(0,pV bk 0),(4,pV aj 0),(9,.slice W ((K.2.2.2.1.set (Int.toNat K.2.2.2.2) (V.1,U.1))).length Z),(10,iV K.2.2.2.2),(22,iV K.2.2.2.2),(23,.slice W ((K.2.2.2.1.set (Int.toNat K.2.2.2.2) (V.1,U.1))).length Z),(24,iV (K.2.2.2.1.length:Int)),(25,.bool (decide (K.2.2.2.2<(K.2.2.2.1.length:Int)))),(28,pV bk 0),(29,.bool bJ.1),(30,.slice W ((K.2.2.2.1.set (Int.toNat K.2.2.2.2) (V.1,U.1))).length Z),(31,iV K.2.2.2.2),(32,pV bk 0),(33,pV aj 0),(34,.slice aB p1.1.length aC),(35,iV (p1.1.length:Int)),(36,iV b1),(37,iV U.1),(38,pV aJ aA),(39,pV aJ (aA+1))]) ⟨rfl,rfl,by rw [aK];rfl,rfl,rfl,by rw [aK];rfl,rfl,rfl,rfl,rfl,by rw [aK];rfl,rfl,rfl,rfl,rfl,rfl,rfl,rfl,rfl,rfl,trivial⟩ ?_;refine JL.done ?_;obtain rfl:=oi cc;exact Ay (a3 _ _ ⟨b6,W,Z,[(aJ,.cells (Be f138 aA [iV V.1,iV U.1]) 27 (0,0))],b7,b8,rfl,rfl,a4,a6,cg,b9⟩) rfl
    ·refine JL.skip ?_;obtain rfl:=oi b0;exact Ay (a3 _ _ ⟨a0,W,Z,ah,bM,bN,rfl,rfl,Aq,a2,(aH.Ai ar),a1⟩) rfl
  ·refine JL.exit rfl ?_;obtain rfl:=oi bI;obtain rfl:=bE _ aI;exact Ay (bD _ _ ⟨ag,W,Z,ah,ap,aq,rfl,rfl,aG,aX,aH,aY⟩) rfl
end Pal
namespace Pal
theorem Cj{S A:Type}{body:S→Option (Bl S A)}{Q:A→Prop}{K:S}{F:Nat}(n:Nat)(I:Nat→S→Prop)(V:I 0 K)(Z:n<F)
  (round:∀i s,i<n→I i s→AY (body s) (Bl.sat (I (i+1)) Q)) (last:∀s,I n s→AY (body s) (fun st=>∃a,st= .done a∧Q a)):AY (Pal.iter body F K) Q:=by
 refine Og (fun m s=>∃i,i≤n∧m=n - i∧I i s) ?_ (m:=n - 0) ⟨0,Nat.zero_le _,rfl,V⟩ (by omega);rintro m s ⟨i,hi,rfl,O⟩;rcases Nat.lt_or_ge i n with W | aa
 ·refine(round i s W O).Ai ?_;intro st U;cases st with
  | more s'=>exact⟨n - (i+1),by omega,i+1,by omega,rfl,U⟩
  | done a=>exact U
 ·obtain rfl:i=n:=by omega
  refine(last s O).Ai ?_;rintro st ⟨a,rfl,h⟩;exact h
theorem Dq{α:Type}{o:Option α}{a:α}(h:AY o (fun x=>x=a)):o=some a:=by obtain⟨x,K,rfl⟩:=h;exact K
theorem IC(F:Nat)(a lo hi:Int):f101 F a lo hi=some (decide (a<lo∨hi<a)):=by
 unfold f101;by_cases h:a<lo
 ·simp [h]
 ·simp [h]
theorem Wh(F:Nat){s n:Nat}(hs:s<65536)(V:n≤16):f103 F s (n:Int)=some (s.testBit n):=by
 unfold f103;have K:Li s (n:Int)=some (s>>>n):=by unfold Li;rw [if_pos (by omega)];rfl
 rw [K];simp only [Option.bind_some];have O:s>>>n<65536:=Nat.lt_of_le_of_lt (Nat.shiftRight_le _ _) hs;have U:JK (s>>>n) 1=some (s>>>n&&& 1):=if_pos ⟨O,by omega⟩;rw [U];simp only [Option.bind_some];rw [Wg]
theorem M0(F:Nat){s n:Nat}(hs:s<65536)(K:n<16):f90 F s (n:Int)=some (s ||| 1<<<n):=by
 unfold f90;have O:KT (n:Int)=some (1<<<n):=by unfold KT;rw [if_pos (by omega)];rfl
 rw [O];simp only [Option.bind_some];have U:1<<<n<65536:=by rw [Nat.one_shiftLeft];exact Nat.pow_lt_pow_right (by omega) (show n<16 from K)
 have V:IX s (1<<<n)=some (s ||| 1<<<n):=if_pos ⟨hs,U⟩;rw [V];rfl
theorem Nl{a b:Nat}(K:a<65536)(hb:b<65536):a ||| b<65536:=Nat.or_lt_two_pow (n:=16) K hb
theorem R3{n:Nat}(K:n<16):1<<<n<65536:=by rw [Nat.one_shiftLeft];exact Nat.pow_lt_pow_right (by omega) (show n<16 from K)
def Hs(n:Nat)(l:List Int):Prop:=∀x∈l,0≤x∧x<(n:Int)
def CH(l:List Int):Nat:=l.foldl (fun s x=>s ||| 1<<<x.toNat) 0
theorem TI(l:List Int)(x:Int):CH (l++ [x])=CH l ||| 1<<<x.toNat:=by simp [CH]
theorem Qu{l:List Int}(h:Hs 16 l):CH l<65536:=by
 have key:∀(l:List Int) (s:Nat),s<65536→Hs 16 l→l.foldl (fun s x=>s ||| 1<<<x.toNat) s<65536:=by
  intro l
  induction l with
  | nil=>intro s hs _;exact hs
  | cons x l O=>
   intro s hs K;have V:=K x (by simp);exact O _ (Nl hs (R3 (by omega))) fun y U=>K y (by simp [U])
 exact key l 0 (by omega) h
theorem Kd{l:List Int}(h:∀x∈l,0≤x)(n:Nat):(CH l).testBit n=decide ((n:Int)∈l):=by
 have key:∀(l:List Int) (s:Nat),(∀x∈l,0≤x)→(l.foldl (fun s x=>s ||| 1<<<x.toNat) s).testBit n=(s.testBit n || decide ((n:Int)∈l)):=by
  intro l
  induction l with
  | nil=>intro s _;simp
  | cons x l O=>
   intro s K;have V:=K x (by simp);rw [List.foldl_cons,O _ fun y U=>K y (by simp [U]),Nat.testBit_or];have e:(1<<<x.toNat).testBit n=decide ((n:Int)=x):=by
    rw [Nat.one_shiftLeft,Nat.testBit_two_pow];exact decide_eq_decide.2 ⟨fun h=>by omega,fun h=>by omega⟩
   rw [e,Bool.or_assoc];congr 1;simp
 rw [CH,key l 0 h];simp
theorem Ov{F:Nat}{l:List Int}(V:100<F)(W:l.length<100)(h:Hs 16 l):f120 F l=some (CH l):=by
 refine Dq ?_;unfold f120;refine AI (S:=fun r=>r=CH l) ?_ (by rintro r rfl;exact Am rfl);refine Cj l.length (fun i s=>s=(CH (l.take i),(i:Int))) (by simp [CH]) (by omega) ?_ ?_
 ·rintro i s hi rfl;unfold Mb;refine BD (by simp;omega) (Bu (m:=i) rfl hi ?_);have Z:=h l[i] (List.getElem_mem hi);have O:l[i]=((l[i].toNat:Nat):Int):=by omega
  have hs:CH (l.take i)<65536:=Qu fun y U=>h y (List.mem_of_mem_take U);have K:=M0 F (n:=l[i].toNat) hs (by omega);rw [← O] at K;refine AM K ?_;refine AV ((i+1:Nat):Int) (by simp) (by omega) (by omega) ?_;refine Am ?_;show _=_;rw [List.take_add_one,List.getElem?_eq_getElem hi];simp only [Option.toList_some];rw [TI]
 ·rintro s rfl;unfold Mb;exact Bj (by simp) (Am ⟨_,rfl,by simp⟩)
def BT(s:Nat)(k:Nat):List Int:=((List.range k).filter (fun n=>s.testBit n)).map (fun(n:Nat)=>(n:Int))
theorem NP(s k:Nat):BT s (k+1)=if s.testBit k=true then BT s k++ [(k:Int)] else BT s k:=by
 unfold BT;rw [List.range_succ,List.filter_append];by_cases h:s.testBit k=true
 ·rw [if_pos h];simp [h]
 ·rw [if_neg h];simp [h]
theorem I4(s k:Nat):(BT s k).length≤k:=by
 unfold BT;rw [List.length_map];exact Nat.le_trans (List.length_filter_le _ _) (by simp)
theorem Hy{s k:Nat}{x:Int}:x∈BT s k↔∃n:Nat,n<k∧s.testBit n=true∧x=(n:Int):=by
 unfold BT;simp only [List.mem_map,List.mem_filter,List.mem_range];exact⟨fun⟨n,⟨K,O⟩,U⟩=>⟨n,K,O,U.symm⟩,fun⟨n,K,O,U⟩=>⟨n,⟨K,O⟩,U.symm⟩⟩
theorem MN{F s:Nat}(K:100<F)(hs:s<65536):f89 F s=some (BT s 16):=by
 refine Dq ?_;unfold f89;refine AI (S:=fun r=>r=BT s 16) ?_ (by rintro r rfl;exact Am rfl);refine Cj 16 (fun i st=>st=(BT s i,(i:Int))) rfl (by omega) ?_ ?_
 ·rintro i st hi rfl;unfold MX;refine BD (by simp only;omega) (AM (Wh F hs (by omega)) ?_);have hlen:=I4 s i;refine AI (S:=fun r=>r=BT s (i+1)) ?_ ?_
  ·rw [NP];refine By (fun h=>?_) (fun h=>?_)
   ·rw [if_pos h];exact Iv (by simp only;omega) (Am rfl)
   ·rw [if_neg h];exact Am rfl
  ·rintro r rfl;exact AV ((i+1:Nat):Int) (by simp) (by omega) (by omega) (Am rfl)
 ·rintro st rfl;unfold MX;exact Bj (by simp) (Am ⟨_,rfl,rfl⟩)
theorem VR{F:Nat}{l:List Int}{x:Int}(V:100<F)(W:l.length<100):AY (f107 F l x) (fun r=>decide (0≤r)=decide (x∈l)):=by
 unfold f107;refine AI (S:=fun q=>match q with | Sum.inl r=>0≤r∧x∈l | Sum.inr _=>x ∉ l) ?_ ?_
 ·refine Cj l.length (fun i s=>s=(i:Int)∧x ∉ l.take i) ⟨rfl,by simp⟩ (by omega) ?_ ?_
  ·rintro i s hi ⟨rfl,K⟩;unfold Md;refine BD (by omega) (Bu (m:=i) rfl hi ?_);refine By (fun h=>?_) (fun h=>?_)
   ·exact Am ⟨by omega,by rw [← h];exact List.getElem_mem hi⟩
   ·refine AV ((i+1:Nat):Int) (by simp) (by omega) (by omega) (Am ⟨rfl,?_⟩);rw [List.take_add_one,List.getElem?_eq_getElem hi];simp only [Option.toList_some,List.mem_append,List.mem_singleton];rintro(O | O)
    ·exact K O
    ·exact h O.symm
  ·rintro s ⟨rfl,K⟩;unfold Md;exact Bj (by omega) (Am ⟨_,rfl,by simpa using K⟩)
 ·rintro(r | u) U
  ·exact Am (by rw [decide_eq_true U.1,decide_eq_true U.2])
  ·exact Am (by rw [decide_eq_false U];rfl)
theorem W6{F:Nat}{l:List Int}{x:Int}(K:100<F)(O:l.length<100):f53 F l x=some (decide (x∈l)):=by
 refine Dq ?_;unfold f53;refine AI (VR K O) ?_;intro r U;exact Am U
end Pal
namespace Pal
abbrev JW:=List (List Int)×List (List Int)
structure VL (n:Nat) (l:List Int):Prop where
 len:l.length≤3
 inr:Hs n l
 IY:l.Pairwise (·<·)
structure VJ (n:Nat) (J:JW):Prop where
 pos:0<n
 le:n≤8
 l1:J.1.length=n
 l2:J.2.length=n
 nx:∀(i:Nat) l,J.1[i]? =some l→VL n l∧0<l.length
 fl:∀(i:Nat) l,J.2[i]? =some l→VL n l∧(i:Int) ∉ l
theorem Xz{l:List Int}(h:l.Pairwise (·<·)){i:Nat}(hi:i<l.length)(K:0<i):¬(l[i]≤l[i - 1]'(by omega)):=by
 have:=List.pairwise_iff_getElem.1 h (i - 1) i (by omega) hi (by omega);omega
theorem Rr{F n:Nat}{J:JW}{m:Nat}{l:List Int}{b:Bool}(O:100<F)(U:J.1.length=n)(V:0<n∧n≤8)(K:VL n l)(hb:b=true∨(m:Int) ∉ l):f136 F J (m:Int) l b=some none:=by
 refine Dq ?_;unfold f136;have hlen:=K.len;refine AI (S:=fun q=>q=Sum.inr ()) ?_ (by rintro q rfl;exact Am rfl);refine Cj l.length (fun i s=>s=(i:Int)) rfl (by omega) ?_ ?_
 ·rintro i s hi rfl;unfold Jg;have W:=K.inr l[i] (List.getElem_mem hi);refine BD (by omega) (Bu (m:=i) rfl hi ?_);refine AV ((n - 1:Nat):Int) (by omega) (by omega) (by omega) (AM (IC F _ _ _) ?_);refine Bj (by simp;omega) (AI (S:=fun c=>c=false) ?_ ?_)
  ·refine By (fun h=>?_) (fun h=>Am rfl);rcases hb with rfl | hb
   ·exact Am rfl
   ·exact absurd (h▸List.getElem_mem hi) hb
  ·rintro c rfl;refine Bj (by simp) (AI (S:=fun c=>c=false) ?_ ?_)
   ·refine By (fun h=>?_) (fun h=>Am rfl);refine AV ((i - 1:Nat):Int) (by omega) (by omega) (by omega) (Bu (m:=i - 1) rfl (by omega) ?_);exact Am (decide_eq_false (Xz K.IY hi (by omega)))
   ·rintro c rfl;refine Bj (by simp) (AV ((i+1:Nat):Int) (by simp) (by omega) (by omega) ?_);exact Am rfl
 ·rintro s rfl;unfold Jg;exact Bj (by omega) (Am ⟨_,rfl,rfl⟩)
theorem Rq{F n:Nat}{J:JW}(U:100<F)(K:VJ n J):f113 F J=some none:=by
 have V:=K.l1;have ab:=K.l2;have W:=K.pos;have Z:=K.le;refine Dq ?_;unfold f113;refine Bj (by omega) (Bj (by omega) (Bj (by omega) ?_));refine AI (S:=fun q=>q=Sum.inr ()) ?_ (by rintro q rfl;exact Am rfl);refine Cj n (fun i s=>s=(i:Int)) rfl (by omega) ?_ ?_
 ·rintro i s hi rfl;unfold Je;have aa:i<J.1.length:=by omega
  have O:i<J.2.length:=by omega
  obtain⟨v1,v2⟩:=K.nx i _ (List.getElem?_eq_getElem aa);obtain⟨w1,w2⟩:=K.fl i _ (List.getElem?_eq_getElem O);have ae:=v1.len;have g2:=w1.len;refine BD (by omega) (Bu (m:=i) rfl aa ?_);refine Bj (by omega) (Bj (by omega) ?_);refine AM (Rr U V ⟨W,Z⟩ v1 (.inl rfl)) (Bj (by simp) ?_);refine Bu (m:=i) rfl O (Bj (by omega) ?_);refine Bu (m:=i) rfl O (AM (Rr U V ⟨W,Z⟩ w1 (.inr w2)) ?_);refine Bj (by simp) (AV ((i+1:Nat):Int) (by simp) (by omega) (by omega) ?_);exact Am rfl
 ·rintro s rfl;unfold Je;exact Bj (by omega) (Am ⟨_,rfl,rfl⟩)
theorem Ts(F:Nat):Jy F none=some 0:=by
 unfold Jy f112;have h:∃b,f135 F=some b:=by unfold f135;exact⟨_,rfl⟩
 obtain⟨b,hb⟩:=h;rw [hb];cases b <;> rfl
def F4(nx:List (List Int))(s:Nat):Nat:=(BT s 16).foldl (fun o m=>o ||| CH (nx.getD m.toNat [])) 0
theorem VJ.Gl{n:Nat}{J:JW}(K:VJ n J)(m:Nat):VL n (J.1.getD m []):=by
 rw [List.getD_eq_getElem?_getD];cases h:J.1[m]? with
 | none=>exact⟨by simp,fun x O=>by simp at O,by simp⟩
 | some l=>exact(K.nx m l h).1
theorem Hs.Ai{n m:Nat}{l:List Int}(h:Hs n l)(hle:n≤m):Hs m l:=fun x K=>by have:=h x K;omega
theorem Me{n:Nat}{J:JW}(U:VJ n J)(s k:Nat):(F4 J.1 s).testBit k=true↔∃m,m<16∧s.testBit m=true∧(k:Int)∈J.1.getD m []:=by
 have key:∀(l:List Int) (o:Nat),(l.foldl (fun o m=>o ||| CH (J.1.getD m.toNat [])) o).testBit k=true↔o.testBit k=true∨∃m∈l,(k:Int)∈J.1.getD m.toNat []:=by
  intro l
  induction l with
  | nil=>intro o;simp
  | cons x l V=>
   intro o;rw [List.foldl_cons,V,Nat.testBit_or,Bool.or_eq_true,Kd fun y W=>((U.Gl x.toNat).inr y W).1,decide_eq_true_eq];simp only [List.mem_cons,exists_eq_or_imp,or_assoc]
 unfold F4;rw [key];simp only [Nat.zero_testBit,Bool.false_eq_true,false_or];constructor
 ·rintro⟨x,Z,aa⟩;obtain⟨m,K,O,rfl⟩:=Hy.1 Z;exact⟨m,K,O,aa⟩
 ·rintro⟨m,K,O,ab⟩;exact⟨(m:Int),Hy.2 ⟨m,K,O,rfl⟩,by simpa using ab⟩
theorem PV{n s:Nat}(h:∀k,n≤k→s.testBit k=false):s<2 ^ n:=Nat.lt_pow_two_of_testBit s h
theorem OP{n:Nat}{J:JW}(K:VJ n J)(s:Nat):F4 J.1 s<2 ^ n:=by
 refine PV fun k U=>?_;cases h:(F4 J.1 s).testBit k with
 | false=>rfl
 | true=>
  obtain⟨m,_,_,O⟩:=(Me K s k).1 h;have:=(K.Gl m).inr _ O;omega
theorem Rb{n:Nat}(h:n≤8):2 ^ n≤256:=Nat.pow_le_pow_right (by omega) h
theorem Hc{n s k:Nat}(h:s<2 ^ n)(O:s.testBit k=true):k<n:=by
 rcases Nat.lt_or_ge k n with K | K
 ·exact K
 ·rw [Nat.testBit_lt_two_pow (Nat.lt_of_lt_of_le h (Nat.pow_le_pow_right (by omega) K))] at O;cases O
theorem QU{F n:Nat}{J:JW}{A:List Nat}{s:Nat}(V:100<F)(K:VJ n J)(hs:s<2 ^ n):Jw F (J.1,J.2,A) s=some (F4 J.1 s,(J.1,J.2,A)):=by
 have ae:=K.l1;have ab:=K.le;have ag:=Rb ab;refine Dq ?_;unfold Jw;refine AM (MN V (by omega)) ?_;refine AI (S:=fun r=>r=F4 J.1 s) ?_ (by rintro r rfl;exact Am rfl);have hlen:=I4 s 16;refine Cj (BT s 16).length (fun i st=>st=(((BT s 16).take i).foldl (fun o m=>o ||| CH (J.1.getD m.toNat [])) 0,(i:Int))∧((BT s 16).take i).foldl (fun o m=>o ||| CH (J.1.getD m.toNat [])) 0<65536) ⟨rfl,by simp⟩ (by omega) ?_ ?_
 ·rintro i st hi ⟨rfl,W⟩;unfold I9;obtain⟨m,ah,g2,Z⟩:=Hy.1 (List.getElem_mem hi);have hm:=Hc hs g2;have O:m<J.1.length:=by omega
  have U:=(K.nx m _ (List.getElem?_eq_getElem O)).1;have ai:=U.len;refine BD (by simp;omega) ?_;refine Bu (m:=i) rfl hi ?_;refine Bu (m:=m) Z O ?_;refine AM (Ov V (show J.1[m].length<100 by omega) (U.inr.Ai (by omega))) ?_;have aa:CH J.1[m]<65536:=Qu (U.inr.Ai (by omega));refine AM (b:=((BT s 16).take i).foldl (fun o m=>o ||| CH (J.1.getD m.toNat [])) 0 ||| CH J.1[m]) (if_pos ⟨W,aa⟩) ?_;refine AV ((i+1:Nat):Int) (by simp) (by omega) (by omega) ?_;have e:((BT s 16).take (i+1)).foldl (fun o m=>o ||| CH (J.1.getD m.toNat [])) 0=((BT s 16).take i).foldl (fun o m=>o ||| CH (J.1.getD m.toNat [])) 0 ||| CH J.1[m]:=by
   rw [List.take_add_one,List.getElem?_eq_getElem hi,List.foldl_append,Z];simp [List.getD_eq_getElem?_getD,O]
  refine Am ⟨?_,?_⟩
  ·rw [e]
  ·rw [e];exact Nl W aa
 ·rintro st ⟨rfl,_⟩;unfold I9;refine Bj (by simp) (Am ⟨_,rfl,?_⟩);rw [List.take_length];rfl
def AG(J:JW):Nat→Nat
 | 0=>1
 | a+1=>F4 J.1 (AG J a)
theorem Ia{n:Nat}{J:JW}(K:VJ n J):∀a,AG J a<2 ^ n
 | 0=>Nat.one_lt_two_pow (by have:=K.pos;omega)
 | a+1=>OP K _
def EL(J:JW):List Nat:=(List.range 13).map (AG J)
def Lh(J:JW)(n k:Nat)(A:List Nat):Prop:=A.length=13∧(∀i,i≤k→i<13→A[i]? =some (AG J i))∧∀x∈A,x<2 ^ n
theorem Lh.all{J:JW}{n:Nat}{A:List Nat}(h:Lh J n 12 A):A=EL J:=by
 apply List.ext_getElem?;intro i;rcases Nat.lt_or_ge i 13 with hi | hi
 ·rw [h.2.1 i (by omega) hi];simp [EL,hi]
 ·rw [List.getElem?_eq_none (by rw [h.1];exact hi),List.getElem?_eq_none (by simp [EL];exact hi)]
theorem Ql{F n:Nat}{J:JW}{A:List Nat}(ab:100<F)(W:VJ n J)(ae:A.length=13)(Z:∀x∈A,x<2 ^ n):
  AY (iter (Kw F) F (J.1,J.2,A,A,0)) (fun r=>r.1=J.1∧r.2.1=J.2∧r.2.2.1=A∧r.2.2.2.length=13∧r.2.2.2[0]? =A[0]? ∧(∀i,i<12→∀s,A[i]? =some s→r.2.2.2[i+1]? =some (F4 J.1 s))∧∀x∈r.2.2.2,x<2 ^ n):=by
 refine Cj 12 (fun k st=>∃B:List Nat,st=(J.1,J.2,A,B,(k:Int))∧B.length=13∧B[0]? =A[0]? ∧(∀i,i<k→∀s,A[i]? =some s→B[i+1]? =some (F4 J.1 s))∧∀x∈B,x<2 ^ n) ⟨A,rfl,ae,rfl,fun i hi=>by omega,Z⟩ (by omega) ?_ ?_
 ·rintro k st ah ⟨B,rfl,K,O,hs,hb⟩;unfold Kw;have U:k<A.length:=by omega
  have aa:k+1<B.length:=by omega
  refine BD (by simp only;omega) (AV ((k+1:Nat):Int) (by simp) (by omega) (by omega) ?_);refine Bu (m:=k) rfl U (AM (QU ab W (Z _ (List.getElem_mem U))) ?_);refine Bu (m:=k+1) rfl aa (AV ((k+1:Nat):Int) (by simp) (by omega) (by omega) ?_);refine Am ⟨B.set (k+1) (F4 J.1 A[k]),rfl,by simpa using K,?_,?_,?_⟩
  ·rw [List.getElem?_set_ne (by omega)];exact O
  ·intro i hi s V;by_cases e:i=k
   ·subst e;rw [List.getElem?_set_self aa];have:A[i]=s:=by rw [List.getElem?_eq_getElem U] at V;exact Option.some.inj V
    rw [this]
   ·rw [List.getElem?_set_ne (by omega)];exact hs i (by omega) s V
  ·intro x ag;rcases List.mem_or_eq_of_mem_set ag with h | h
   ·exact hb x h
   ·subst h;exact OP W _
 ·rintro st ⟨B,rfl,K,O,hs,hb⟩;unfold Kw;refine Bj (by simp) (Am ⟨_,rfl,rfl,rfl,rfl,K,O,hs,hb⟩)
theorem ON{F n:Nat}{J:JW}(ag:100<F)(aa:VJ n J):f92 F J=some (some (J.1,J.2,EL J)):=by
 have ao:=aa.pos;refine Dq ?_;unfold f92;refine Bu (m:=0) rfl (by simp) ?_;refine AI (S:=fun q=>q=Sum.inl (some (J.1,J.2,EL J))) ?_ (by rintro q rfl;exact Am rfl);refine Cj 12 (fun k st=>∃A:List Nat,st=(J.1,J.2,A)∧Lh J n k A) ?_ (by omega) ?_ ?_
 ·refine⟨_,rfl,by simp,fun i hi _=>?_,fun x ah=>?_⟩
  ·obtain rfl:i=0:=by omega
   rfl
  ·rcases List.mem_or_eq_of_mem_set ah with h | h
   ·simp at h;subst h;exact Nat.two_pow_pos n
   ·subst h;exact Nat.one_lt_two_pow (by omega)
 ·rintro k st ap ⟨A,rfl,K⟩;unfold MF;refine AI (Ql ag aa K.1 K.2.2) ?_;rintro⟨ai,aj,ab,B⟩ ⟨W,e2,Z,O,g2,U,V⟩;simp only at W e2 Z O g2 U V ⊢;subst W e2 Z;refine By (fun h=>?_) (fun h=>?_)
  ·refine Am ⟨B,rfl,O,fun i hi ae=>?_,V⟩;cases i with
   | zero=>rw [g2];exact K.2.1 0 (by omega) (by omega)
   | succ i=>exact U i (by omega) _ (K.2.1 i (by omega) (by omega))
  ·have e:B=ab:=Decidable.byContradiction fun ak=>h ak;subst e;refine Am ?_;show _=_;have al:Lh J n 12 B:=by
    refine⟨O,fun i hi ae=>?_,V⟩;have:∀i,i<13→B[i]? =some (AG J i):=by
     intro i
     induction i with
     | zero=>intro _;exact K.2.1 0 (by omega) (by omega)
     | succ i am=>intro h;exact U i (by omega) _ (am (by omega))
    exact this i ae
   rw [al.all]
 ·rintro st ⟨A,rfl,K⟩;unfold MF;refine AI (Ql ag aa K.1 K.2.2) ?_;rintro⟨ai,aj,ab,B⟩ ⟨W,e2,Z,O,g2,U,V⟩;simp only at W e2 Z O g2 U V ⊢;subst W e2 Z;have an:Lh J n 12 B:=by
   refine⟨O,fun i hi ae=>?_,V⟩;cases i with
   | zero=>rw [g2];exact K.2.1 0 (by omega) (by omega)
   | succ i=>exact U i (by omega) _ (K.2.1 i (by omega) (by omega))
  have e:B=ab:=by rw [an.all,K.all]
  refine Bj (by rw [e];simp) (Am ⟨_,rfl,?_⟩);rw [K.all]
end Pal
