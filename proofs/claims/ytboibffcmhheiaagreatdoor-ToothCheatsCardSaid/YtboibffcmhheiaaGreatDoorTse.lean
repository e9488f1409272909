/- ToothCheats Part 5 of 8. -/
import Derived.Test.YtboibffcmhheiaaGreatDoorTsc
import Derived.Test.YtboibffcmhheiaaGreatDoorTsd
set_option linter.all false
set_option maxRecDepth 100000
namespace Pal
open Go Go.Conc Go.Proofs
open Go.Proofs.Tryz
variable {J:Judge Tryz.prog}{E:LH}
def f125(fuel:Nat)(p0:Int×Int)(p1:Int×Int):Option (Int):=
 (Ax (p0.1 - p1.1)).bind fun A=>
 some A
theorem S8{p0:Int×Int}{p1:Int×Int}{fuel:Nat}{r:Int}(A:f125 fuel p0 p1=some r):Aq J 125 [.agg #[iV p0.1,iV p0.2],.agg #[iV p1.1,iV p1.2]] E [] (fun w E' B'=>w=iV r∧B'= []):=by
 refine Aq.en func125 rfl rfl fun Q ak cs H O U=>?_;unfold f125 at A;refine zg 2 rfl ?_;refine JS.box (v:= .agg #[iV p0.1,iV p0.2]) rfl rfl rfl O rfl fun al Z=>?_;refine JS.Ba 1 Z rfl fun am aa ab ac=>?_;refine JS.box (v:= .agg #[iV p1.1,iV p1.2]) rfl rfl rfl ac rfl fun an ae=>?_;refine JS.Ba 2 ae rfl fun ao K ag ah=>?_;refine zg 4 rfl ?_;refine JL.fd underlying27 (Ag type3) rfl rfl rfl ?_;refine JL.ld 0 (ab.mono K) (Al underlying3) rfl rfl rfl ?_;refine JL.fd underlying27 (Ag type3) rfl rfl rfl ?_;refine JL.ld 0 ag (Al underlying3) rfl rfl rfl ?_;obtain⟨ap,ai,aj⟩:=bs A;refine JL.Y rfl (fun ρ h=>Yl.Bb (h _ _ rfl) (h _ _ rfl) ai) ?_;refine zg 2 rfl ?_;obtain rfl:=oi aj;refine JL.rt func125 rfl rfl ?_;exact U _ _ _ _ (aa.trans K) rfl ⟨rfl,rfl⟩ ah
def Nj(fuel:Nat)(p1:Int)(A:Int×(AW)):Option (A4 (Int×(AW)) ((AW))):=
 Option.bind (
  if p1<A.1 then(
   (ix A.2 (A.1)).bind fun U=>
   (Ax (A.1 - 1)).bind fun Z=>
   (ix A.2 (Z)).bind fun aa=>
   (f125 fuel U aa).bind fun ab=>
   some (decide (ab<0))
  ) else(
   some false
  )
 ) fun ac=>
 if ac=true then(
  (Ax (A.1 - 1)).bind fun K=>
  (Ax (A.1 - 1)).bind fun ae=>
  (ix A.2 (ae)).bind fun O=>
  (ix A.2 (A.1)).bind fun ag=>
  (ix (A.2.set (Int.toNat A.1) O) (K)).bind fun ai=>
  (Ax (A.1 - 1)).bind fun ah=>
  some (.more (ah,((A.2.set (Int.toNat A.1) O).set (Int.toNat K) ag)))
 ) else(
  some (.done A.2)
 )
def Nm(fuel:Nat)(p1:Int)(p2:Int)(A:Int×(AW)):Option (A4 (Int×(AW)) ((AW))):=
 if A.1<p2 then(
  Option.bind (iter (Nj fuel p1) fuel A) fun K=>
  (Ax (A.1+1)).bind fun O=>
  some (.more (O,K))
 ) else(
  some (.done A.2)
 )
def f168(fuel:Nat)(p0:AW)(p1:Int)(p2:Int):Option ((AW)):=
 (Ax (p1+1)).bind fun A=>
 Option.bind (iter (Nm fuel p1 p2) fuel (A,p0)) fun K=>
 some K
theorem NJ{A:Nat}{K:Nat}{O:Nat}{ar:Array Value}{p0:AW}{p1:Int}{p2:Int}(hW:WL 27 Bv E A K O ar p0){fuel:Nat}{r:(AW)}(aE:f168 fuel p0 p1 p2=some r):Aq J 168 [.slice (some ⟨A,0,none⟩) O K,iV p1,iV p2,(.func (.func 125) #[] #[])] E [(A,.cells ar 27 (0,0))] (fun w E' B'=>∃(aF:Array Value),w= .tuple #[]∧B'= [(A,.cells aF 27 (0,0))]∧WL 27 Bv E' A K O aF (r)):=by
 refine Aq.en func168 rfl rfl fun Q bS cs H aU aV=>?_;unfold f168 at aE;obtain⟨aW,aX,aY⟩:=bs aE;refine zg 3 rfl ?_;refine JL.Y rfl (fun ρ h=>Yl.A0 (h _ _ rfl) (h _ _ rfl) aX) ?_;obtain⟨aZ,a0,a1⟩:=bs aY;refine zg 2 rfl ?_;refine JL.join (fun L s=>∃(au:LH) (f17:Array Value),Jn E H au [[(A,.cells f17 27 (0,0))]] [] L s (WL 27 Bv au A K O f17 (aZ))) ?_ ?_
 ·rintro _ _ ⟨au,f17,rfl,rfl,a2,a3,a4⟩;obtain rfl:=oi a1;refine JL.fin (v:= .tuple #[]) rfl rfl (Bx.list func168 rfl (vs:= []) trivial) ?_;exact aV _ _ _ _ a2 rfl ⟨f17,rfl,(by first | rfl | simp | (simp [Value.cells])),a4⟩ a3
 ·intro a5;refine JL.block ?_;refine JL.wk [(0,.slice (some ⟨A,0,none⟩) O K),(1,iV p1),(2,iV p2),(3,(.func (.func 125) #[] #[])),(8,iV aW)] rfl ?_;refine JL.Bf a0 (fun L s ab=>∃(ae:LH) (f25:Array Value),Jn E H ae [[(A,.cells f25 27 (0,0))]] [(0,.slice (some ⟨A,0,none⟩) O K),(1,iV p1),(2,iV p2),(3,(.func (.func 125) #[] #[])),(8,iV ab.1)] L s (WL 27 Bv ae A K O f25 (ab.2))) ⟨E,ar,rfl,rfl,(Le.refl _),aU,hW⟩ ?_;rintro _ _ ab ⟨ae,f25,rfl,rfl,aG,aH,aI⟩ a6 ⟨bT,av⟩ a7;have aw:=av;unfold Nm at aw;refine zg 7 rfl ?_;refine JL.ifs (p:=ab.1<p2) rfl (fun ay=>?_) (fun ay=>?_)
  ·have a8:=ip aw ay;obtain⟨aJ,a9,ba⟩:=bs a8;refine zg 8 rfl ?_;refine JL.join (fun L s=>∃(al:LH) (f48:Array Value),Jn ae H al [[(A,.cells f48 27 (0,0))]] [(0,.slice (some ⟨A,0,none⟩) O K),(1,iV p1),(2,iV p2),(3,(.func (.func 125) #[] #[])),(8,iV ab.1)] L s (WL 27 Bv al A K O f48 (aJ))) ?_ ?_
   ·rintro _ _ ⟨al,f48,rfl,rfl,bb,bc,bd⟩;obtain⟨bf,bg,bh⟩:=bs ba;refine zg 3 rfl ?_;refine JL.Y rfl (fun ρ h=>Yl.A0 (h _ _ rfl) (h _ _ rfl) bg) ?_;refine zg 2 rfl ?_;obtain rfl:=oi bh;exact JL.kw (a7 _ _ (bf,aJ) ⟨al,f48,rfl,rfl,(aG.trans bb),bc,bd⟩ av) rfl
   ·intro bi;refine JL.block ?_;refine JL.wk [(0,.slice (some ⟨A,0,none⟩) O K),(1,iV p1),(2,iV p2),(3,(.func (.func 125) #[] #[])),(8,iV ab.1),(9,iV ab.1)] rfl ?_;refine JL.Bf a9 (fun L s ac=>∃(ai:LH) (f58:Array Value),Jn ae H ai [[(A,.cells f58 27 (0,0))]] [(0,.slice (some ⟨A,0,none⟩) O K),(1,iV p1),(2,iV p2),(3,(.func (.func 125) #[] #[])),(8,iV ab.1),(9,iV ac.1)] L s (WL 27 Bv ai A K O f58 (ac.2))) ⟨ae,f25,rfl,rfl,(Le.refl _),aH,aI⟩ ?_;rintro _ _ ac ⟨ai,f58,rfl,rfl,aK,aj,U⟩ bj ⟨bU,az⟩ bk;have aL:=az;unfold Nj at aL;refine zg 2 rfl ?_;refine JG.Ce 17 [A] ⟨⟨0,_,rfl⟩,trivial⟩ aj mixed rfl (by decide+kernel) fun ht=>?_;refine JG.ms ht rfl [0,1,2,3] rfl ?_;obtain⟨aM,aN,aO⟩:=bs aL;refine Av.join 0 #[true,true,true,true,true,true,true,true,true,true,true,true,true,true,true,true,true] (fun L s=>∃(am:LH),Jm ai H am [[(A,.cells f58 27 (0,0))]] [(0,.slice (some ⟨A,0,none⟩) O K),(1,iV p1),(2,iV p2),(3,(.func (.func 125) #[] #[])),(8,iV ab.1),(9,iV ac.1),(34,.bool aM)] L s) ?_ ?_
    ·rintro _ _ ⟨am,rfl,rfl,ah,an⟩;refine Av.fin (by decide+kernel) ?_;refine JL.split (t:=aM) rfl (fun aA=>?_) (fun aA=>?_)
     ·have bl:=ip aO aA;refine zg 3 rfl ?_;refine JB.draw [15,17] [A] mixed rfl ?_;refine JB.mv 0 rfl rfl ?_;refine JB.mv 1 rfl rfl ?_;refine JB.mv 2 rfl rfl ?_;refine JB.mv 3 rfl rfl ?_;obtain⟨aB,bm,bn⟩:=bs bl;refine JB.V 4 true rfl rfl (fun ρ h s' hs=>Yl.Bb (h _ _ rfl) (h _ _ rfl) bm) ?_;refine JB.mv 5 rfl rfl ?_;refine JB.mv 6 rfl rfl ?_;obtain⟨bV,bo,bp⟩:=bs bn;refine JB.V 7 true rfl rfl (fun ρ h s' hs=>Yl.Bb (h _ _ rfl) (h _ _ rfl) bo) ?_;obtain⟨Z,aP,bq⟩:=bs bp;obtain⟨_,⟨_,_,rfl,rfl,rfl⟩,br⟩:=WL.at (U.mono ah) aP;refine JB.V 8 true rfl rfl (fun ρ h s' hs=>Yl.Bg U.2 aP underlying25 (Ag type27) (h _ _ rfl) (h _ _ rfl)) ?_;refine JB.val (v:= .agg #[iV Z.1,iV Z.2]) 9 false rfl (by decide+kernel) rfl rfl rfl (fun ρ h s' hs=>have hs:=hs rfl;Yl.Bs (vs:= [iV Z.1,iV Z.2]) (Al underlying27) (Ag type27) (h _ _ rfl) (fun q w ag=>by rw [Bi rfl];exact Bl 0 an rfl (by simp [AH]) hs (br q w ag))) ?_;refine JB.mv 10 rfl rfl ?_;refine JB.mv 11 rfl rfl ?_;obtain⟨aa,ao,bu⟩:=bs bq;obtain⟨_,⟨_,_,rfl,rfl,rfl⟩,bv⟩:=WL.at (U.mono ah) ao;refine JB.V 12 true rfl rfl (fun ρ h s' hs=>Yl.Bg U.2 ao underlying25 (Ag type27) (h _ _ rfl) (h _ _ rfl)) ?_;refine JB.val (v:= .agg #[iV aa.1,iV aa.2]) 13 false rfl (by decide+kernel) rfl rfl rfl (fun ρ h s' hs=>have hs:=hs rfl;Yl.Bs (vs:= [iV aa.1,iV aa.2]) (Al underlying27) (Ag type27) (h _ _ rfl) (fun q w ag=>by rw [Bi rfl];exact Bl 0 an rfl (by simp [AH]) hs (bv q w ag))) ?_;refine JB.V 14 true rfl rfl (fun ρ h s' hs=>Yl.Bg U.2 ao underlying25 (Ag type27) (h _ _ rfl) (h _ _ rfl)) ?_;have ak:=WL.put (x':=Z) (ws':= [iV Z.1,iV Z.2]) (U.mono ah) U.2 ao ⟨_,_,rfl,rfl,rfl⟩;refine JB.store (v:= .agg #[iV Z.1,iV Z.2]) (off:=Int.toNat (ac.1)*2) 15 0 (by decide+kernel) (by decide+kernel) rfl rfl rfl an rfl rfl (Ag type27) (by simp [Value.cells,BB]) rfl ak.2 fun bw=>?_;obtain⟨bW,aC,bx⟩:=bs bu;obtain⟨_,⟨_,_,rfl,rfl,rfl⟩,bX⟩:=WL.at ak.1 aC;refine JB.V 16 true rfl rfl (fun ρ h s' hs=>Yl.Bg (ak.1).2 aC underlying25 (Ag type27) (h _ _ rfl) (h _ _ rfl)) ?_;have aQ:=WL.put (x':=aa) (ws':= [iV aa.1,iV aa.2]) ak.1 (ak.1).2 aC ⟨_,_,rfl,rfl,rfl⟩;refine JB.store (v:= .agg #[iV aa.1,iV aa.2]) (off:=Int.toNat (aB)*2) 17 0 (by decide+kernel) (by decide+kernel) rfl rfl rfl bw rfl rfl (Ag type27) (by simp [Value.cells,BB]) rfl aQ.2 fun bz=>?_;refine JB.fin (by decide+kernel) ?_;obtain⟨bA,bB,bC⟩:=bs bx;refine zg 3 rfl ?_;refine JL.Y rfl (fun ρ h=>Yl.Bb (h _ _ rfl) (h _ _ rfl) bB) ?_;refine zg 2 rfl ?_;obtain rfl:=oi bC;exact JL.kw (bk _ _ (bA,((ac.2.set (Int.toNat ac.1) Z).set (Int.toNat aB) aa)) ⟨am,(A5 (A5 f58 (Int.toNat (ac.1)*2) [iV Z.1,iV Z.2]) (Int.toNat (aB)*2) [iV aa.1,iV aa.2]),rfl,rfl,(aK.trans ah),bz,aQ.1⟩ az) rfl
     ·have bD:=ib aO aA;refine JL.exit rfl ?_;obtain rfl:=oi bD;obtain rfl:=bj _ az;exact JL.kw (bi _ _ ⟨am,f58,rfl,rfl,(aK.trans ah),an,(U.mono ah)⟩) rfl
    ·intro aR;refine Av.BW (q:=p1<ac.1) (i:=21) rfl (fun aD=>?_) (fun aD=>?_)
     ·have bE:=ip aN aD;refine JG.ms ht rfl [4,5,6] rfl ?_;obtain⟨ap,aS,bF⟩:=bs bE;obtain⟨_,⟨_,_,rfl,rfl,rfl⟩,bG⟩:=WL.at U aS;refine JG.V 7 ht rfl rfl (fun ρ h s' hs=>Yl.Bg (U).2 aS underlying25 (Ag type27) (h _ _ rfl) (h _ _ rfl)) ?_;refine JG.V 8 ht rfl rfl (fun ρ h s' hs=>Yl.Bs (vs:= [iV ap.1,iV ap.2]) (Al underlying27) (Ag type27) (h _ _ rfl) (fun q w ag=>by rw [Bi rfl];exact Bl 0 aj rfl (by simp [AH]) hs (bG q w ag))) ?_;refine JG.ms ht rfl [9,10] rfl ?_;obtain⟨bY,bH,bI⟩:=bs bF;refine JG.V 11 ht rfl rfl (fun ρ h s' hs=>Yl.Bb (h _ _ rfl) (h _ _ rfl) bH) ?_;obtain⟨aq,aT,bJ⟩:=bs bI;obtain⟨_,⟨_,_,rfl,rfl,rfl⟩,bK⟩:=WL.at U aT;refine JG.V 12 ht rfl rfl (fun ρ h s' hs=>Yl.Bg (U).2 aT underlying25 (Ag type27) (h _ _ rfl) (h _ _ rfl)) ?_;refine JG.V 13 ht rfl rfl (fun ρ h s' hs=>Yl.Bs (vs:= [iV aq.1,iV aq.2]) (Al underlying27) (Ag type27) (h _ _ rfl) (fun q w ag=>by rw [Bi rfl];exact Bl 0 aj rfl (by simp [AH]) hs (bK q w ag))) ?_;obtain⟨bZ,bL,bM⟩:=bs bJ;refine JG.FC (i:=14) ⟨⟨0,_,rfl⟩,trivial⟩ (vs:= [.agg #[iV ap.1,iV ap.2],.agg #[iV aq.1,iV aq.2]]) (S8 bL) (by decide+kernel) rfl rfl rfl rfl (Aw func125 rfl) rfl aj ?_;rintro _ bN _ bO ⟨rfl,rfl⟩ bP;refine JG.ms ht rfl [15,16] rfl ?_;obtain rfl:=oi bM;refine Av.BU ?_ (aR _ _ ⟨bN,rfl,rfl,bO,bP⟩);exact⟨rfl,rfl,rfl,rfl,rfl,rfl,rfl,trivial⟩
     ·have bQ:=im aN aD;refine JG.ms ht rfl [4,5,6,7,8,9,10,11,12,13,14,15,16] rfl ?_;obtain rfl:=oi bQ;refine Av.BU ?_ (aR _ _ ⟨ai,rfl,rfl,(Le.refl _),aj⟩);exact⟨rfl,rfl,rfl,rfl,rfl,rfl,rfl,trivial⟩
  ·have bR:=im aw ay;refine JL.exit rfl ?_;obtain rfl:=oi bR;obtain rfl:=a6 _ av;exact JL.kw (a5 _ _ ⟨ae,f25,rfl,rfl,aG,aH,aI⟩) rfl
def M9(fuel:Nat)(p1:Int)(A:Int×Int×(AW)):Option (A4 (Int×Int×(AW)) (Int×(AW))):=
 if A.2.1≤p1 then(
  (f168 fuel A.2.2 A.1 A.2.1).bind fun K=>
  (Ax (A.2.1+20)).bind fun O=>
  some (.more (A.2.1,O,K))
 ) else(
  some (.done (A.1,A.2.2))
 )
def MU(fuel:Nat)(p1:Int)(A:Int)(K:Int)(O:Unit):Option (A4 (Unit) (Unit)):=
 if K≤p1 then(
  (Ax (0+A)).bind fun U=>
  none
 ) else(
  some (.done ())
 )
def M5(fuel:Nat)(p1:Int)(A:Int):Option (A4 (Int) (Unit)):=
 if A<p1 then(
  (Ax (2*A)).bind fun K=>
  Option.bind (iter (MU fuel p1 A K) fuel ()) fun Z=>
  (Ax (0+A)).bind fun O=>
  Option.bind (
   if O<p1 then(
    none
   ) else(
    some ()
   )
  ) fun aa=>
  (Ax (A*2)).bind fun U=>
  some (.more U)
 ) else(
  some (.done ())
 )
def f138(fuel:Nat)(p0:AW)(p1:Int):Option ((AW)):=
 Option.bind (iter (M9 fuel p1) fuel (0,20,p0)) fun A=>
 (f168 fuel A.2 A.1 p1).bind fun K=>
 Option.bind (iter (M5 fuel p1) fuel 20) fun O=>
 some K
theorem TE{A:Nat}{K:Nat}{O:Nat}{ae:Array Value}{p0:AW}{p1:Int}(hW:WL 27 Bv E A K O ae p0){fuel:Nat}{r:(AW)}(aw:f138 fuel p0 p1=some r):Aq J 138 [.slice (some ⟨A,0,none⟩) O K,iV p1,(.func (.func 125) #[] #[])] E [(A,.cells ae 27 (0,0))] (fun w E' B'=>∃(ay:Array Value),w= .tuple #[]∧B'= [(A,.cells ay 27 (0,0))]∧WL 27 Bv E' A K O ay (r)):=by
 refine Aq.en func138 rfl rfl fun Q bN cs H aJ aK=>?_;unfold f138 at aw;obtain⟨az,aL,aM⟩:=bs aw;refine zg 11 rfl ?_;refine JL.join (fun L s=>∃(ag:LH) (f15:Array Value),Jn E H ag [[(A,.cells f15 27 (0,0))]] [(0,.slice (some ⟨A,0,none⟩) O K),(1,iV p1),(2,(.func (.func 125) #[] #[])),(6,iV 20),(7,iV az.1)] L s (WL 27 Bv ag A K O f15 (az.2))) ?_ ?_
 ·rintro _ _ ⟨ag,f15,rfl,rfl,aN,aO,aP⟩;obtain⟨bO,aQ,aR⟩:=bs aM;refine zg 6 rfl ?_;refine JS.BL 0 (NJ aP aQ) rfl rfl (Aw func168 rfl) aO rfl ?_;rintro _ ah _ aS ⟨f23,rfl,rfl,aT⟩ aU;obtain⟨bP,aV,aW⟩:=bs aR;refine JL.done ?_;refine JL.join (fun L s=>∃(aA:LH),Jm ah H aA [[(A,.cells f23 27 (0,0))]] [] L s) ?_ ?_
  ·rintro _ _ ⟨aA,rfl,rfl,aB,aX⟩;obtain rfl:=oi aW;refine JL.fin (v:= .tuple #[]) rfl rfl (Bx.list func138 rfl (vs:= []) trivial) ?_;exact aK _ _ _ _ ((aN.trans aS).trans aB) rfl ⟨f23,rfl,(by first | rfl | simp | (simp [Value.cells])),(aT.mono aB)⟩ aX
  ·intro aY;refine JL.block ?_;refine JL.wk [(0,.slice (some ⟨A,0,none⟩) O K),(1,iV p1),(2,(.func (.func 125) #[] #[])),(6,iV 20)] rfl ?_;refine JL.Bf aV (fun L s U=>∃(Z:LH),Jm ah H Z [[(A,.cells f23 27 (0,0))]] [(0,.slice (some ⟨A,0,none⟩) O K),(1,iV p1),(2,(.func (.func 125) #[] #[])),(6,iV U)] L s) ⟨ah,rfl,rfl,(Le.refl _),aU⟩ ?_;rintro _ _ U ⟨Z,rfl,rfl,aC,aD⟩ aZ ⟨bQ,ai⟩ a0;have aj:=ai;unfold M5 at aj;refine zg 7 rfl ?_;refine JL.ifs (p:=U<p1) rfl (fun ak=>?_) (fun ak=>?_)
   ·have a1:=ip aj ak;obtain⟨al,a2,a3⟩:=bs a1;refine zg 5 rfl ?_;refine JL.Y rfl (fun ρ h=>Yl.mulC (h _ _ rfl) (h _ _ rfl) a2) ?_;obtain⟨bR,a4,a5⟩:=bs a3;refine zg 4 rfl ?_;refine JL.join (fun L s=>∃(ab:LH),Jm Z H ab [[(A,.cells f23 27 (0,0))]] [(0,.slice (some ⟨A,0,none⟩) O K),(1,iV p1),(2,(.func (.func 125) #[] #[])),(6,iV U),(7,iV 0)] L s) ?_ ?_
    ·rintro _ _ ⟨ab,rfl,rfl,a6,a7⟩;obtain⟨a8,a9,ba⟩:=bs a5;refine zg 5 rfl ?_;refine JL.Y rfl (fun ρ h=>Yl.A0 (h _ _ rfl) (h _ _ rfl) a9) ?_;obtain⟨bS,aE,bb⟩:=bs ba;refine zg 8 rfl ?_;refine JL.join (fun L s=>∃(am:LH),Jm ab H am [[(A,.cells f23 27 (0,0))]] [(0,.slice (some ⟨A,0,none⟩) O K),(1,iV p1),(2,(.func (.func 125) #[] #[])),(6,iV U)] L s) ?_ ?_
     ·rintro _ _ ⟨am,rfl,rfl,bc,bd⟩;obtain⟨bf,bg,bh⟩:=bs bb;refine zg 2 rfl ?_;refine JL.Y rfl (fun ρ h=>Yl.mulC (h _ _ rfl) (h _ _ rfl) bg) ?_;refine zg 3 rfl ?_;obtain rfl:=oi bh;exact JL.kw (a0 _ _ bf ⟨am,rfl,rfl,((aC.trans a6).trans bc),bd⟩ ai) rfl
     ·intro bi;refine JL.ifs (p:=a8<p1) rfl (fun an=>?_) (fun an=>?_)
      ·have bj:=ip aE an;refine zg 6 rfl ?_;cases bj
      ·have bk:=im aE an;refine JL.skip ?_;obtain rfl:=oi bk;exact JL.kw (bi _ _ ⟨ab,rfl,rfl,(Le.refl _),a7⟩) rfl
    ·intro bl;refine JL.block ?_;refine JL.wk [(0,.slice (some ⟨A,0,none⟩) O K),(1,iV p1),(2,(.func (.func 125) #[] #[])),(6,iV U),(7,iV 0),(8,iV al)] rfl ?_;refine JL.Bf a4 (fun L s bm=>∃(ao:LH),Jm Z H ao [[(A,.cells f23 27 (0,0))]] [(0,.slice (some ⟨A,0,none⟩) O K),(1,iV p1),(2,(.func (.func 125) #[] #[])),(6,iV U),(7,iV 0),(8,iV al)] L s) ⟨Z,rfl,rfl,(Le.refl _),aD⟩ ?_;rintro _ _ bm ⟨ao,rfl,rfl,bn,bo⟩ bp ⟨bT,aF⟩ bU;have ap:=aF;unfold MU at ap;refine zg 7 rfl ?_;refine JL.ifs (p:=al≤p1) rfl (fun aq=>?_) (fun aq=>?_)
     ·have bq:=ip ap aq;obtain⟨bV,br,bu⟩:=bs bq;refine zg 8 rfl ?_;refine JL.Y rfl (fun ρ h=>Yl.A0 (h _ _ rfl) (h _ _ rfl) br) ?_;refine zg 2 rfl ?_;cases bu
     ·have bv:=im ap aq;refine JL.exit rfl ?_;obtain rfl:=oi bv;obtain rfl:=bp _ aF;exact JL.kw (bl _ _ ⟨ao,rfl,rfl,bn,bo⟩) rfl
   ·have bw:=im aj ak;refine JL.exit rfl ?_;obtain rfl:=oi bw;obtain rfl:=aZ _ ai;exact JL.kw (aY _ _ ⟨Z,rfl,rfl,aC,aD⟩) rfl
 ·intro bx;refine JL.block ?_;refine JL.wk [(0,.slice (some ⟨A,0,none⟩) O K),(1,iV p1),(2,(.func (.func 125) #[] #[])),(6,iV 20),(7,iV 0),(8,iV 20)] rfl ?_;refine JL.Bf aL (fun L s aa=>∃(ac:LH) (f104:Array Value),Jn E H ac [[(A,.cells f104 27 (0,0))]] [(0,.slice (some ⟨A,0,none⟩) O K),(1,iV p1),(2,(.func (.func 125) #[] #[])),(6,iV 20),(7,iV aa.1),(8,iV aa.2.1)] L s (WL 27 Bv ac A K O f104 (aa.2.2))) ⟨E,ae,rfl,rfl,(Le.refl _),aJ,hW⟩ ?_;rintro _ _ aa ⟨ac,f104,rfl,rfl,aG,aH,aI⟩ bz ⟨bW,ar⟩ bA;have au:=ar;unfold M9 at au;refine zg 7 rfl ?_;refine JL.ifs (p:=aa.2.1≤p1) rfl (fun av=>?_) (fun av=>?_)
  ·have bB:=ip au av;obtain⟨bC,bD,bE⟩:=bs bB;refine zg 8 rfl ?_;refine JS.BL 0 (NJ aI bD) rfl rfl (Aw func168 rfl) aH rfl ?_;rintro _ bF _ bG ⟨f119,rfl,rfl,bH⟩ bI;obtain⟨bJ,bK,bL⟩:=bs bE;refine zg 9 rfl ?_;refine JL.Y rfl (fun ρ h=>Yl.A0 (h _ _ rfl) (h _ _ rfl) bK) ?_;refine zg 3 rfl ?_;obtain rfl:=oi bL;exact JL.kw (bA _ _ (aa.2.1,bJ,bC) ⟨bF,f119,rfl,rfl,(aG.trans bG),bI,bH⟩ ar) rfl
  ·have bM:=im au av;refine JL.exit rfl ?_;obtain rfl:=oi bM;obtain rfl:=bz _ ar;exact JL.kw (bx _ _ ⟨ac,f104,rfl,rfl,aG,aH,aI⟩) rfl
def f124(fuel:Nat)(p0:AW):Option ((AW)):=
 (f138 fuel p0 ((p0).length:Int)).bind fun A=>
 some A
theorem So{A:Nat}{K:Nat}{O:Nat}{U:Array Value}{p0:AW}(hW:WL 27 Bv E A K O U p0){fuel:Nat}{r:(AW)}(Z:f124 fuel p0=some r):Aq J 124 [.slice (some ⟨A,0,none⟩) O K,(.func (.func 125) #[] #[])] E [(A,.cells U 27 (0,0))] (fun w E' B'=>∃(aa:Array Value),w= .tuple #[]∧B'= [(A,.cells aa 27 (0,0))]∧WL 27 Bv E' A K O aa (r)):=by
 refine Aq.en func124 rfl rfl fun Q ak cs H ab ac=>?_;unfold f124 at Z;refine zg 3 rfl ?_;refine JL.Y (v:=iV ((p0).length:Int)) rfl (fun ρ h=>Yl.OP (hW).2 rfl underlying25 (h _ _ rfl)) ?_;obtain⟨al,ae,ag⟩:=bs Z;refine zg 1 rfl ?_;refine JS.BL 0 (TE hW ae) rfl rfl (Aw func138 rfl) ab rfl ?_;rintro _ am _ ah ⟨f7,rfl,rfl,ai⟩ aj;refine JL.done ?_;obtain rfl:=oi ag;refine JL.fin (v:= .tuple #[]) rfl rfl (Bx.list func124 rfl (vs:= []) trivial) ?_;exact ac _ _ _ _ ah rfl ⟨f7,rfl,(by first | rfl | simp | (simp [Value.cells])),ai⟩ aj
def Mr(fuel:Nat)(p1:Int)(A:Int)(O:Unit):Option (A4 (Unit) (Unit)):=
 Option.bind (
  if p1<A then(
   none
  ) else(
   some false
  )
 ) fun K=>
 if K=true then(
  (Ax (A - 1)).bind fun U=>
  (Ax (A - 1)).bind fun Z=>
  none
 ) else(
  some (.done ())
 )
def MB(fuel:Nat)(p1:Int)(p2:Int)(A:Int):Option (A4 (Int) (Unit)):=
 if A<p2 then(
  Option.bind (iter (Mr fuel p1 A) fuel ()) fun O=>
  (Ax (A+1)).bind fun K=>
  some (.more K)
 ) else(
  some (.done ())
 )
def I7(fuel:Nat)(p1:Int)(p2:Int):Option (Unit):=
 (Ax (p1+1)).bind fun A=>
 Option.bind (iter (MB fuel p1 p2) fuel A) fun K=>
 some ()
theorem Nu{p1:Int}{p2:Int}{fuel:Nat}{r:Unit}(ah:I7 fuel p1 p2=some r):Aq J 168 [.slice none 0 0,iV p1,iV p2,(.func (.func 125) #[] #[])] E [] (fun w E' B'=>w= .tuple #[]∧B'= []):=by
 refine Aq.en func168 rfl rfl fun Q a4 cs H aq ar=>?_;unfold I7 at ah;obtain⟨au,av,aw⟩:=bs ah;refine zg 3 rfl ?_;refine JL.Y rfl (fun ρ h=>Yl.A0 (h _ _ rfl) (h _ _ rfl) av) ?_;obtain⟨a5,ay,az⟩:=bs aw;refine zg 2 rfl ?_;refine JL.join (fun L s=>∃(ai:LH),Jm E H ai [] [] L s) ?_ ?_
 ·rintro _ _ ⟨ai,rfl,rfl,aA,aB⟩;obtain rfl:=oi az;refine JL.fin (v:= .tuple #[]) rfl rfl (Bx.list func168 rfl (vs:= []) trivial) ?_;exact ar _ _ _ _ aA rfl ⟨rfl,rfl⟩ aB
 ·intro aC;refine JL.block ?_;refine JL.wk [(0,.slice none 0 0),(1,iV p1),(2,iV p2),(3,(.func (.func 125) #[] #[])),(8,iV au)] rfl ?_;refine JL.Bf ay (fun L s A=>∃(K:LH),Jm E H K [] [(0,.slice none 0 0),(1,iV p1),(2,iV p2),(3,(.func (.func 125) #[] #[])),(8,iV A)] L s) ⟨E,rfl,rfl,(Le.refl _),aq⟩ ?_;rintro _ _ A ⟨K,rfl,rfl,aj,ak⟩ aD ⟨a6,U⟩ aE;have Z:=U;unfold MB at Z;refine zg 7 rfl ?_;refine JL.ifs (p:=A<p2) rfl (fun aa=>?_) (fun aa=>?_)
  ·have aF:=ip Z aa;obtain⟨a7,aG,aH⟩:=bs aF;refine zg 8 rfl ?_;refine JL.join (fun L s=>∃(ab:LH),Jm K H ab [] [(0,.slice none 0 0),(1,iV p1),(2,iV p2),(3,(.func (.func 125) #[] #[])),(8,iV A)] L s) ?_ ?_
   ·rintro _ _ ⟨ab,rfl,rfl,aI,aJ⟩;obtain⟨aK,aL,aM⟩:=bs aH;refine zg 3 rfl ?_;refine JL.Y rfl (fun ρ h=>Yl.A0 (h _ _ rfl) (h _ _ rfl) aL) ?_;refine zg 2 rfl ?_;obtain rfl:=oi aM;exact JL.kw (aE _ _ aK ⟨ab,rfl,rfl,(aj.trans aI),aJ⟩ U) rfl
   ·intro aN;refine JL.block ?_;refine JL.wk [(0,.slice none 0 0),(1,iV p1),(2,iV p2),(3,(.func (.func 125) #[] #[])),(8,iV A),(9,iV A)] rfl ?_;refine JL.Bf aG (fun L s aO=>∃(O:LH),Jm K H O [] [(0,.slice none 0 0),(1,iV p1),(2,iV p2),(3,(.func (.func 125) #[] #[])),(8,iV A),(9,iV A)] L s) ⟨K,rfl,rfl,(Le.refl _),ak⟩ ?_;rintro _ _ aO ⟨O,rfl,rfl,aP,aQ⟩ aR ⟨a8,al⟩ a9;have am:=al;unfold Mr at am;refine zg 2 rfl ?_;refine JG.Co 17 mixed rfl (by decide+kernel) fun ht=>?_;refine JG.ms ht rfl [0,1,2,3] rfl ?_;obtain⟨an,ao,ap⟩:=bs am;refine Av.join 0 #[true,true,true,true,true,true,true,true,true,true,true,true,true,true,true,true,true] (fun L s=>∃(ac:LH),Jm O H ac [] [(0,.slice none 0 0),(1,iV p1),(2,iV p2),(3,(.func (.func 125) #[] #[])),(8,iV A),(9,iV A),(34,.bool an)] L s) ?_ ?_
    ·rintro _ _ ⟨ac,rfl,rfl,aS,aT⟩;refine Av.fin (by decide+kernel) ?_;refine JL.split (t:=an) rfl (fun ae=>?_) (fun ae=>?_)
     ·have aU:=ip ap ae;refine zg 3 rfl ?_;refine JG.Co 16 mixed rfl (by decide+kernel) fun ht=>?_;refine JG.ms ht rfl [0,1,2,3] rfl ?_;obtain⟨ba,aV,aW⟩:=bs aU;refine JG.V 4 ht rfl rfl (fun ρ h s' hs=>Yl.Bb (h _ _ rfl) (h _ _ rfl) aV) ?_;refine JG.ms ht rfl [5,6] rfl ?_;obtain⟨bb,aX,aY⟩:=bs aW;refine JG.V 7 ht rfl rfl (fun ρ h s' hs=>Yl.Bb (h _ _ rfl) (h _ _ rfl) aX) ?_;cases aY
     ·have aZ:=ib ap ae;refine JL.exit rfl ?_;obtain rfl:=oi aZ;obtain rfl:=aR _ al;exact JL.kw (aN _ _ ⟨ac,rfl,rfl,(aP.trans aS),aT⟩) rfl
    ·intro a0;refine Av.BW (q:=p1<A) (i:=21) rfl (fun ag=>?_) (fun ag=>?_)
     ·have a1:=ip ao ag;refine JG.ms ht rfl [4,5,6] rfl ?_;cases a1
     ·have a2:=im ao ag;refine JG.ms ht rfl [4,5,6,7,8,9,10,11,12,13,14,15,16] rfl ?_;obtain rfl:=oi a2;refine Av.BU ?_ (a0 _ _ ⟨O,rfl,rfl,(Le.refl _),aQ⟩);exact⟨rfl,rfl,rfl,rfl,rfl,rfl,rfl,trivial⟩
  ·have a3:=im Z aa;refine JL.exit rfl ?_;obtain rfl:=oi a3;obtain rfl:=aD _ U;exact JL.kw (aC _ _ ⟨K,rfl,rfl,aj,ak⟩) rfl
def MC(fuel:Nat)(p1:Int)(A:Int×Int):Option (A4 (Int×Int) (Int)):=
 if A.2≤p1 then(
  (I7 fuel A.1 A.2).bind fun O=>
  (Ax (A.2+20)).bind fun K=>
  some (.more (A.2,K))
 ) else(
  some (.done A.1)
 )
def MG(fuel:Nat)(p1:Int)(A:Int)(K:Int)(O:Unit):Option (A4 (Unit) (Unit)):=
 if K≤p1 then(
  (Ax (0+A)).bind fun U=>
  none
 ) else(
  some (.done ())
 )
def MD(fuel:Nat)(p1:Int)(A:Int):Option (A4 (Int) (Unit)):=
 if A<p1 then(
  (Ax (2*A)).bind fun K=>
  Option.bind (iter (MG fuel p1 A K) fuel ()) fun Z=>
  (Ax (0+A)).bind fun O=>
  Option.bind (
   if O<p1 then(
    none
   ) else(
    some ()
   )
  ) fun aa=>
  (Ax (A*2)).bind fun U=>
  some (.more U)
 ) else(
  some (.done ())
 )
def KH(fuel:Nat)(p1:Int):Option (Unit):=
 Option.bind (iter (MC fuel p1) fuel (0,20)) fun A=>
 (I7 fuel A p1).bind fun K=>
 Option.bind (iter (MD fuel p1) fuel 20) fun O=>
 some ()
theorem Rw{p1:Int}{fuel:Nat}{r:Unit}(ap:KH fuel p1=some r):Aq J 138 [.slice none 0 0,iV p1,(.func (.func 125) #[] #[])] E [] (fun w E' B'=>w= .tuple #[]∧B'= []):=by
 refine Aq.en func138 rfl rfl fun Q bD cs H aB aC=>?_;unfold KH at ap;obtain⟨aD,aE,aF⟩:=bs ap;refine zg 11 rfl ?_;refine JL.join (fun L s=>∃(aq:LH),Jm E H aq [] [(0,.slice none 0 0),(1,iV p1),(2,(.func (.func 125) #[] #[])),(6,iV 20),(7,iV aD)] L s) ?_ ?_
 ·rintro _ _ ⟨aq,rfl,rfl,aG,aH⟩;obtain⟨bE,aI,aJ⟩:=bs aF;refine zg 6 rfl ?_;refine JS.cl (Nu aI) rfl rfl (Aw func168 rfl) aH ?_;rintro _ Z _ aK ⟨rfl,rfl⟩ aL;obtain⟨bF,aM,aN⟩:=bs aJ;refine JL.done ?_;refine JL.join (fun L s=>∃(ar:LH),Jm Z H ar [] [] L s) ?_ ?_
  ·rintro _ _ ⟨ar,rfl,rfl,aO,aP⟩;obtain rfl:=oi aN;refine JL.fin (v:= .tuple #[]) rfl rfl (Bx.list func138 rfl (vs:= []) trivial) ?_;exact aC _ _ _ _ ((aG.trans aK).trans aO) rfl ⟨rfl,rfl⟩ aP
  ·intro aQ;refine JL.block ?_;refine JL.wk [(0,.slice none 0 0),(1,iV p1),(2,(.func (.func 125) #[] #[])),(6,iV 20)] rfl ?_;refine JL.Bf aM (fun L s A=>∃(K:LH),Jm Z H K [] [(0,.slice none 0 0),(1,iV p1),(2,(.func (.func 125) #[] #[])),(6,iV A)] L s) ⟨Z,rfl,rfl,(Le.refl _),aL⟩ ?_;rintro _ _ A ⟨K,rfl,rfl,au,av⟩ aR ⟨bG,aa⟩ aS;have ab:=aa;unfold MD at ab;refine zg 7 rfl ?_;refine JL.ifs (p:=A<p1) rfl (fun ac=>?_) (fun ac=>?_)
   ·have aT:=ip ab ac;obtain⟨ae,aU,aV⟩:=bs aT;refine zg 5 rfl ?_;refine JL.Y rfl (fun ρ h=>Yl.mulC (h _ _ rfl) (h _ _ rfl) aU) ?_;obtain⟨bH,aW,aX⟩:=bs aV;refine zg 4 rfl ?_;refine JL.join (fun L s=>∃(U:LH),Jm K H U [] [(0,.slice none 0 0),(1,iV p1),(2,(.func (.func 125) #[] #[])),(6,iV A),(7,iV 0)] L s) ?_ ?_
    ·rintro _ _ ⟨U,rfl,rfl,aY,aZ⟩;obtain⟨a0,a1,a2⟩:=bs aX;refine zg 5 rfl ?_;refine JL.Y rfl (fun ρ h=>Yl.A0 (h _ _ rfl) (h _ _ rfl) a1) ?_;obtain⟨bI,aw,a3⟩:=bs a2;refine zg 8 rfl ?_;refine JL.join (fun L s=>∃(ag:LH),Jm U H ag [] [(0,.slice none 0 0),(1,iV p1),(2,(.func (.func 125) #[] #[])),(6,iV A)] L s) ?_ ?_
     ·rintro _ _ ⟨ag,rfl,rfl,a4,a5⟩;obtain⟨a6,a7,a8⟩:=bs a3;refine zg 2 rfl ?_;refine JL.Y rfl (fun ρ h=>Yl.mulC (h _ _ rfl) (h _ _ rfl) a7) ?_;refine zg 3 rfl ?_;obtain rfl:=oi a8;exact JL.kw (aS _ _ a6 ⟨ag,rfl,rfl,((au.trans aY).trans a4),a5⟩ aa) rfl
     ·intro a9;refine JL.ifs (p:=a0<p1) rfl (fun ah=>?_) (fun ah=>?_)
      ·have ba:=ip aw ah;refine zg 6 rfl ?_;cases ba
      ·have bb:=im aw ah;refine JL.skip ?_;obtain rfl:=oi bb;exact JL.kw (a9 _ _ ⟨U,rfl,rfl,(Le.refl _),aZ⟩) rfl
    ·intro bc;refine JL.block ?_;refine JL.wk [(0,.slice none 0 0),(1,iV p1),(2,(.func (.func 125) #[] #[])),(6,iV A),(7,iV 0),(8,iV ae)] rfl ?_;refine JL.Bf aW (fun L s bd=>∃(ai:LH),Jm K H ai [] [(0,.slice none 0 0),(1,iV p1),(2,(.func (.func 125) #[] #[])),(6,iV A),(7,iV 0),(8,iV ae)] L s) ⟨K,rfl,rfl,(Le.refl _),av⟩ ?_;rintro _ _ bd ⟨ai,rfl,rfl,bf,bg⟩ bh ⟨bJ,ay⟩ bK;have aj:=ay;unfold MG at aj;refine zg 7 rfl ?_;refine JL.ifs (p:=ae≤p1) rfl (fun ak=>?_) (fun ak=>?_)
     ·have bi:=ip aj ak;obtain⟨bL,bj,bk⟩:=bs bi;refine zg 8 rfl ?_;refine JL.Y rfl (fun ρ h=>Yl.A0 (h _ _ rfl) (h _ _ rfl) bj) ?_;refine zg 2 rfl ?_;cases bk
     ·have bl:=im aj ak;refine JL.exit rfl ?_;obtain rfl:=oi bl;obtain rfl:=bh _ ay;exact JL.kw (bc _ _ ⟨ai,rfl,rfl,bf,bg⟩) rfl
   ·have bm:=im ab ac;refine JL.exit rfl ?_;obtain rfl:=oi bm;obtain rfl:=aR _ aa;exact JL.kw (aQ _ _ ⟨K,rfl,rfl,au,av⟩) rfl
 ·intro bn;refine JL.block ?_;refine JL.wk [(0,.slice none 0 0),(1,iV p1),(2,(.func (.func 125) #[] #[])),(6,iV 20),(7,iV 0),(8,iV 20)] rfl ?_;refine JL.Bf aE (fun L s O=>∃(al:LH),Jm E H al [] [(0,.slice none 0 0),(1,iV p1),(2,(.func (.func 125) #[] #[])),(6,iV 20),(7,iV O.1),(8,iV O.2)] L s) ⟨E,rfl,rfl,(Le.refl _),aB⟩ ?_;rintro _ _ O ⟨al,rfl,rfl,az,aA⟩ bo ⟨bM,am⟩ bp;have an:=am;unfold MC at an;refine zg 7 rfl ?_;refine JL.ifs (p:=O.2≤p1) rfl (fun ao=>?_) (fun ao=>?_)
  ·have bq:=ip an ao;obtain⟨bN,br,bu⟩:=bs bq;refine zg 8 rfl ?_;refine JS.cl (Nu br) rfl rfl (Aw func168 rfl) aA ?_;rintro _ bv _ bw ⟨rfl,rfl⟩ bx;obtain⟨bz,bA,bB⟩:=bs bu;refine zg 9 rfl ?_;refine JL.Y rfl (fun ρ h=>Yl.A0 (h _ _ rfl) (h _ _ rfl) bA) ?_;refine zg 3 rfl ?_;obtain rfl:=oi bB;exact JL.kw (bp _ _ (O.2,bz) ⟨bv,rfl,rfl,(az.trans bw),bx⟩ am) rfl
  ·have bC:=im an ao;refine JL.exit rfl ?_;obtain rfl:=oi bC;obtain rfl:=bo _ am;exact JL.kw (bn _ _ ⟨al,rfl,rfl,az,aA⟩) rfl
def Oz(fuel:Nat):Option (Unit):=
 (KH fuel ((0:Nat):Int)).bind fun A=>
 some ()
theorem Rs{fuel:Nat}{r:Unit}(A:Oz fuel=some r):Aq J 124 [.slice none 0 0,(.func (.func 125) #[] #[])] E [] (fun w E' B'=>w= .tuple #[]∧B'= []):=by
 refine Aq.en func124 rfl rfl fun Q ac cs H K O=>?_;unfold Oz at A;refine zg 3 rfl ?_;refine JL.Y rfl (fun ρ h=>Yl.len rfl underlying25 (h _ _ rfl)) ?_;obtain⟨ae,U,Z⟩:=bs A;refine zg 1 rfl ?_;refine JS.cl (Rw U) rfl rfl (Aw func138 rfl) K ?_;rintro _ ag _ aa ⟨rfl,rfl⟩ ab;refine JL.done ?_;obtain rfl:=oi Z;refine JL.fin (v:= .tuple #[]) rfl rfl (Bx.list func124 rfl (vs:= []) trivial) ?_;exact O _ _ _ _ aa rfl ⟨rfl,rfl⟩ ab
theorem Rv{J:Judge Tryz.prog}{E:LH}{a:Ar}{c:Nat}{g:Seg}{p0:AW}(U:OL 27 Bv E a c g p0){fuel:Nat}{r:AW}(A:f124 fuel p0=some r):
  Aq J 124 [.slice a p0.length c,.func (.func 125) #[] #[]] E g (fun w E' B'=>w= .tuple #[]∧OL 27 Bv E' a c B' r∧r.length=p0.length):=by
 rcases U.cases with⟨rfl,rfl,rfl,rfl⟩ | ⟨aa,f,rfl,rfl,hW⟩
 ·have Z:r= []:=by
   cases fuel with
   | zero=>exact absurd A (by simp [f124,f138,iter])
   | succ fuel=>
    cases fuel with
    | zero=>exact(Option.some.inj (A.symm.trans (by rfl:f124 1 []=some []))).trans rfl
    | succ fuel=>exact(Option.some.inj (A.symm.trans (by rfl:f124 (fuel+2) []=some []))).trans rfl
  subst Z;refine(Rs (fuel:=10) (r:=()) rfl).mono ?_;rintro w E' B' hle ⟨K,rfl⟩;exact⟨K,OL.nil,rfl⟩
 ·refine(So hW A).mono ?_;rintro w E' B' hle ⟨ab,K,rfl,O⟩;exact⟨K,O.1,O.2⟩
end Pal
namespace Pal
open Go Go.Conc Go.Proofs
open Go.Proofs.Tryz
def f94(fuel:Nat)(p0:AW)(p1:AW):Option ((AW)):=
 (C7 p0 p1).bind fun A=>
 (f123 fuel A).bind fun K=>
 (f124 fuel K).bind fun O=>
 some O
theorem Uh{E:LH}{A:Ar}{c2:Nat}{K:Ar}{O:Nat}{p0:AW}{p1:AW}(aa:Ao Bv E A c2 (p0))(al:Ao Bv E K O (p1)){fuel:Nat}{r:(AW)}(ae:f94 fuel p0 p1=some r):Aq (Cr Tryz.prog) 94 [.slice A (p0).length c2,.slice K (p1).length O] E [] (fun w E' B'=>∃(ag:Ar) (ah:Nat),w= .slice ag (r).length ah∧B'= []∧Ao Bv E' ag ah (r)):=by
 refine Aq.en func94 rfl rfl fun Q aJ cs H am an=>?_;unfold f94 at ae;refine zg 8 rfl ?_;refine JL.Y rfl (fun ρ h=>Yl.len rfl underlying25 (h _ _ rfl)) ?_;refine zg 1 rfl ?_;refine JL.Y rfl (fun ρ h=>Yl.len rfl underlying25 (h _ _ rfl)) ?_;refine JL.Y (v:= .slice A (p0).length (p0).length) rfl (fun ρ h=>Yl.RG (Ao.spot aa) (And.left aa) underlying25 (Ag type27) (h _ _ rfl) (h _ _ rfl) (h _ _ rfl)) ?_;obtain⟨ai,ao,ap⟩:=bs ae;refine zg 1 rfl ?_;refine JS.RP (pp:=Bv) ao rfl rfl rfl rfl rfl rfl rfl underlying25 underlying25 (Ag type27) (Cs type27) (AO type27) rfl (by decide) (by decide) aa al am fun aK aj ak aq ar au=>?_;obtain⟨aL,av,aw⟩:=bs ap;refine zg 5 rfl ?_;refine JS.cl (SR ar av) rfl rfl (Aw func123 rfl) au ?_;rintro _ aM _ ay ⟨U,Z,aN,rfl,rfl,az⟩ aA;obtain⟨ab,aB,aC⟩:=bs aw;refine zg 5 rfl ?_;refine JS.BL 2 (Rv az aB) rfl rfl (Aw func124 rfl) aA rfl ?_;rintro _ aO aP aD ⟨rfl,aE,ac⟩ aF;refine JL.BU (L':= [(17,.tuple #[]),(0,.slice A (p0).length c2),(1,.slice K (p1).length O),(4,.slice none 0 0),(6,.slice A (p0).length c2),(7,.slice A (p0).length c2),(8,iV ((p0).length:Int)),(9,.slice A (p0).length c2),(10,iV ((p0).length:Int)),(11,.slice A (p0).length (p0).length),(12,.slice K (p1).length O),(13,.slice aj (ai).length ak),(5,.slice U (ab).length Z),(14,.slice aj (ai).length ak),(15,.slice U (ab).length Z),(16,.slice U (ab).length Z)]) ⟨rfl,rfl,rfl,rfl,rfl,rfl,rfl,rfl,rfl,rfl,rfl,rfl,by rw [ac];rfl,rfl,by rw [ac];rfl,by rw [ac];rfl,trivial⟩ ?_;refine zg 6 rfl ?_;refine JS.BJ 2 aE aF rfl fun aQ aG aH aI=>?_;obtain rfl:=oi aC;refine JL.rt func94 rfl rfl ?_;exact an _ _ _ _ (((aq.trans ay).trans aD).trans aG) rfl ⟨U,Z,rfl,rfl,aH⟩ aI
end Pal
namespace Pal
open Go Go.Conc Go.Proofs
open Go.Proofs.Tryz
def Jj:List Nat:= [0,1,1,2,1,2,2,3,1,2,2,3,2,3,3,4,1,2,2,3,2,3,3,4,2,3,3,4,3,4,4,5,1,2,2,3,2,3,3,4,2,3,3,4,3,4,4,5,2,3,3,4,3,4,4,5,3,4,4,5,4,5,5,6,1,2,2,3,2,3,3,4,2,3,3,4,3,4,4,5,2,3,3,4,3,4,4,5,3,4,4,5,4,5,5,6,2,3,3,4,3,4,4,5,3,4,4,5,4,5,5,6,3,4,4,5,4,5,5,6,4,5,5,6,5,6,6,7,1,2,2,3,2,3,3,4,2,3,3,4,3,4,4,5,2,3,3,4,3,4,4,5,3,4,4,5,4,5,5,6,2,3,3,4,3,4,4,5,3,4,4,5,4,5,5,6,3,4,4,5,4,5,5,6,4,5,5,6,5,6,6,7,2,3,3,4,3,4,4,5,3,4,4,5,4,5,5,6,3,4,4,5,4,5,5,6,4,5,5,6,5,6,6,7,3,4,4,5,4,5,5,6,4,5,5,6,5,6,6,7,4,5,5,6,5,6,6,7,5,6,6,7,6,7,7,8]
def f86(fuel:Nat)(p0:Nat):Option (Int):=
 (HX Jj ((((p0>>>8):Nat):Int))).bind fun A=>
 (G6 (p0) (255)).bind fun K=>
 (HX Jj ((((K):Nat):Int))).bind fun O=>
 (Ax ((((A+O) % 256):Nat):Int)).bind fun U=>
 some U
theorem T5{E:LH}{p0:Nat}{fuel:Nat}{r:Int}(A:f86 fuel p0=some r):Aq (Cr Tryz.prog) 86 [.int .u16 ((p0:Nat):Int)] E [] (fun w E' B'=>w=iV r∧B'= []):=by
 refine Aq.en func86 rfl rfl fun Q am cs H U Z=>?_;unfold f86 at A;refine zg 5 rfl ?_;refine JG.Co 6 mixed rfl (by decide+kernel) fun ht=>?_;refine JG.mv 0 ht rfl rfl ?_;refine JG.V (v:= .int .u16 ((p0>>>8:Nat):Int)) 1 ht rfl rfl (fun ρ h s' hs=>Yl.Ue 8 (h _ _ rfl) (h _ _ rfl) (by decide)) ?_;obtain⟨K,aa,ab⟩:=bs A;refine JG.V (v:= .int .u8 ((K:Nat):Int)) 2 ht rfl rfl (fun ρ h s' hs=>Yl.Kl (l:=Jj) (by decide+kernel) underlying9 (h _ _ rfl) (h _ _ rfl) aa) ?_;refine JG.mv 3 ht rfl rfl ?_;obtain⟨ac,ae,ag⟩:=bs ab;refine JG.V (v:= .int .u16 ((ac:Nat):Int)) 4 ht rfl rfl (fun ρ h s' hs=>Yl.Km (h _ _ rfl) (h _ _ rfl) ae) ?_;obtain⟨O,ah,ai⟩:=bs ag;refine JG.V (v:= .int .u8 ((O:Nat):Int)) 5 ht rfl rfl (fun ρ h s' hs=>Yl.Kl (l:=Jj) (by decide+kernel) underlying9 (h _ _ rfl) (h _ _ rfl) ah) ?_;refine Av.leaf (tail:= [6,7,8]) (by decide+kernel) (fun t=>A1 (by decide+kernel) (A1 (by decide+kernel) (A1 (by decide+kernel) BM)) t) ?_;refine JL.Y (v:= .int .u8 (((K+O) % 256:Nat):Int)) rfl (fun ρ h=>Yl.T6 (h _ _ rfl) (h _ _ rfl)) ?_;obtain⟨aj,ak,al⟩:=bs ai;refine JL.Y (v:=iV aj) rfl (fun ρ h=>Yl.OK underlying5 underlying3 (h _ _ rfl) ak) ?_;refine zg 2 rfl ?_;obtain rfl:=oi al;refine JL.rt func86 rfl rfl ?_;exact Z _ _ _ _ (Le.refl _) rfl ⟨rfl,rfl⟩ U
end Pal
namespace Pal
open Go Go.Conc Go.Proofs
open Go.Proofs.Tryz
def f85(fuel:Nat)(p0:Nat):Option (Int):=
 (f86 fuel p0).bind fun A=>
 some A
theorem Ol{E:LH}{p0:Nat}{fuel:Nat}{r:Int}(A:f85 fuel p0=some r):Aq (Cr Tryz.prog) 85 [.int .u16 ((p0:Nat):Int)] E [] (fun w E' B'=>w=iV r∧B'= []):=by
 refine Aq.en func85 rfl rfl fun Q ac cs H K O=>?_;unfold f85 at A;obtain⟨ae,U,Z⟩:=bs A;refine zg 7 rfl ?_;refine JS.cl (T5 U) rfl rfl (Aw func86 rfl) K ?_;rintro _ ag _ aa ⟨rfl,rfl⟩ ab;refine zg 2 rfl ?_;obtain rfl:=oi Z;refine JL.rt func85 rfl rfl ?_;exact O _ _ _ _ aa rfl ⟨rfl,rfl⟩ ab
end Pal
namespace Pal
open Go Go.Conc Go.Proofs
open Go.Proofs.Tryz
end Pal
namespace Pal
open Go Go.Conc Go.Proofs
open Go.Proofs.Tryz
end Pal
namespace Pal
open Go Go.Conc Go.Proofs
open Go.Proofs.Tryz
end Pal
namespace Pal
open Go Go.Conc Go.Proofs
open Go.Proofs.Tryz
variable {J:Judge Tryz.prog}{E:LH}
def I3(fuel:Nat)(U:Int×(BS))(Z:(List (List Int))×(List (List Int))×(List Int)×Int×Nat×Int)(A:(List Int)×Int×Nat×(List Int)×Int):Option (A4 ((List Int)×Int×Nat×(List Int)×Int) ((List Int)×BS)):=
 Option.bind (
  if 0<A.2.2.2.2 then(
   some (decide (1<U.1))
  ) else(
   some false
  )
 ) fun ab=>
 if ab=true then(
  (Ax (Z.2.2.2.2.2 - 1)).bind fun ac=>
  (f41 fuel (A.1,A.2.1,A.2.2.1) (max (0) (ac))).bind fun aa=>
  (f97 fuel aa.2 6).bind fun K=>
  Option.bind (
   if K.1=true then(
    (Ax (U.1 - 1)).bind fun ae=>
    (f41 fuel K.2 ae).bind fun ag=>
    some ag
   ) else(
    some (aa.1,K.2.1,K.2.2.1,K.2.2.2)
   )
  ) fun O=>
  Option.bind (
   if O.1≠Z.2.2.2.2.2 then(
    (f98 fuel A.2.2.2.1 O.1).bind fun ah=>
    some ah
   ) else(
    some A.2.2.2.1
   )
  ) fun ai=>
  (Ax (A.2.2.2.2 - 1)).bind fun aj=>
  some (.more (O.2.1,O.2.2.1,O.2.2.2,ai,aj))
 ) else(
  some (.done (A.2.2.2.1,A.1,A.2.1,A.2.2.1))
 )
def IU(fuel:Nat)(K:Int×(BS))(A:(List (List Int))×(List (List Int))×(List Int)×Int×Nat×Int):Option (A4 ((List (List Int))×(List (List Int))×(List Int)×Int×Nat×Int) ((List Int)×Int×Nat×A2)):=
 if A.2.2.2.2.2<K.1 then(
  (Ax (K.1 - 1)).bind fun ae=>
  (Ax (A.2.2.2.2.2+1)).bind fun ag=>
  (f97 fuel (A.2.2.1,A.2.2.2.1,A.2.2.2.2.1) 3).bind fun O=>
  Option.bind (
   if O.1=true then(
    (Ax (K.1 - 1)).bind fun aj=>
    (f96 fuel O.2 A.2.2.2.2.2 aj).bind fun Z=>
    (f98 fuel ([min (ae) (ag)]:List Int) Z.1).bind fun ak=>
    some (ak,Z.2.1,Z.2.2.1,Z.2.2.2)
   ) else(
    some (([min (ae) (ag)]:List Int),O.2.1,O.2.2.1,O.2.2.2)
   )
  ) fun ah=>
  (f97 fuel ah.2 8).bind fun U=>
  Option.bind (
   if U.1=true then(
    (Ax (K.1 - 1)).bind fun al=>
    (f41 fuel U.2 al).bind fun aa=>
    some (([aa.1]:List Int),aa.2.1,aa.2.2.1,aa.2.2.2)
   ) else(
    some (ah.1,U.2.1,U.2.2.1,U.2.2.2)
   )
  ) fun ai=>
  (f99 fuel ai.2 ([0,1,1,2]:List Int)).bind fun ab=>
  Option.bind (iter (I3 fuel K A) fuel (ab.2.1,ab.2.2.1,ab.2.2.2,[],ab.1)) fun ac=>
  (C7 A.1 ([ai.1]:List (List Int))).bind fun am=>
  (C7 A.2.1 ([ac.1]:List (List Int))).bind fun an=>
  (Ax (A.2.2.2.2.2+1)).bind fun ao=>
  some (.more (am,an,ac.2.1,ac.2.2.1,ac.2.2.2,ao))
 ) else(
  some (.done (A.2.2.1,A.2.2.2.1,A.2.2.2.2.1,A.1,A.2.1))
 )
def f39(fuel:Nat)(p0:BS)(p1:Int):Option ((A2)×(BS)):=
 (f96 fuel p0 1 p1).bind fun A=>
 Option.bind (iter (IU fuel A) fuel ([],[],A.2.1,A.2.2.1,A.2.2.2,0)) fun K=>
 some (K.2.2.2,(K.1,K.2.1,K.2.2.1))
theorem TO{K:Nat}{bT:Ar}{c2:Nat}{p0:BS}{p1:Int}(dl:Ao rI E bT c2 (p0.1)){fuel:Nat}{r:(A2)×(BS)}(bU:f39 fuel p0 p1=some r):Aq J 39 [.pointer (some ⟨K,0,none⟩),iV p1] E [(K,.cells #[.slice bT (p0.1).length c2,iV p0.2.1,.int .u64 ((p0.2.2:Nat):Int)] 92 (0,0))] (fun w E' B'=>∃(bV:Ar) (bW:Nat) (bX:Ar) (bY:Nat) (bZ:Ar) (b0:Nat),w= .agg #[.slice bV (r.1.1).length bW,.slice bX (r.1.2).length bY]∧B'= [(K,.cells #[.slice bZ (r.2.1).length b0,iV r.2.2.1,.int .u64 ((r.2.2.2:Nat):Int)] 92 (0,0))]∧Ao (rL rI) E' bV bW (r.1.1)∧Ao (rL rI) E' bX bY (r.1.2)∧Ao rI E' bZ b0 (r.2.1)):=by
 refine Aq.en func39 rfl rfl fun Q hd cs H dm dn=>?_;unfold f39 at bU;refine zg 2 rfl ?_;refine JS.alloc rfl rfl rfl dm (AO type24) fun U dp=>?_;refine zg 3 rfl ?_;refine JS.alloc rfl rfl rfl dp (AO type24) fun O dq=>?_;obtain⟨am,dr,dt⟩:=bs bU;refine zg 5 rfl ?_;refine JS.BL 0 (Oj dl dr) rfl rfl (Aw func96 rfl) dq rfl ?_;rintro _ bh _ du ⟨b1,b2,rfl,rfl,dv⟩ dw;refine JS.norm (S':= [[(K,.cells #[.slice b1 (am.2.1).length b2,iV am.2.2.1,.int .u64 ((am.2.2.2:Nat):Int)] 92 (0,0))],[(U,.cells #[.slice none 0 0,.slice none 0 0] 24 (0,0))],[(O,.cells #[.slice none 0 0,.slice none 0 0] 24 (0,0))]]) rfl dw fun dx=>?_;obtain⟨aa,dy,dz⟩:=bs dt;refine zg 7 rfl ?_;refine JL.join (fun L s=>∃(aS:LH) (aT:Ar) (aU:Nat) (ao:Ar) (ap:Nat) (bi:Seg) (aq:Ar) (ar:Nat) (bj:Seg),Jn bh H aS [[(K,.cells #[.slice aT (aa.1).length aU,iV aa.2.1,.int .u64 ((aa.2.2.1:Nat):Int)] 92 (0,0))],[(U,.cells #[.slice none 0 0,.slice none 0 0] 24 (0,0))],[(O,.cells #[.slice ao (aa.2.2.2.1).length ap,.slice aq (aa.2.2.2.2).length ar] 24 (0,0))],bi,bj] [(4,.pointer (some ⟨U,0,none⟩)),(5,.pointer (some ⟨O,0,none⟩))] L s (Ao rI aS aT aU (aa.1)∧OL 28 (rL rI) aS ao ap bi (aa.2.2.2.1)∧OL 28 (rL rI) aS aq ar bj (aa.2.2.2.2))) ?_ ?_
 ·rintro _ _ ⟨aS,aT,aU,ao,ap,bi,aq,ar,bj,rfl,rfl,dA,b3,dB,dC,dD⟩;refine zg 2 rfl ?_;refine JL.Y rfl (fun ρ h=>Yl.Bs (vs:= [.slice ao (aa.2.2.2.1).length ap,.slice aq (aa.2.2.2.2).length ar]) (Al underlying24) (Ag type24) (h _ _ rfl) (D8 (off:=0) 2 b3 rfl rfl)) ?_;refine JS.st (v:= .agg #[.slice ao (aa.2.2.2.1).length ap,.slice aq (aa.2.2.2.2).length ar]) (off:=0) 1 b3 (Ag type24) rfl rfl rfl rfl fun dE=>?_;refine JL.done ?_;refine JS.BJ 3 dC dE rfl fun he bk dF dG=>?_;refine JS.BJ 4 (dD.mono bk) dG rfl fun hf bl dH dI=>?_;refine JS.norm (S':= [[(K,.cells #[.slice aT (aa.1).length aU,iV aa.2.1,.int .u64 ((aa.2.2.1:Nat):Int)] 92 (0,0))],[(U,.cells #[.slice ao (aa.2.2.2.1).length ap,.slice aq (aa.2.2.2.2).length ar] 24 (0,0))],[(O,.cells #[.slice ao (aa.2.2.2.1).length ap,.slice aq (aa.2.2.2.2).length ar] 24 (0,0))],[],[]]) rfl dI fun dJ=>?_;refine JS.drop 2 dJ rfl fun b4=>?_;obtain rfl:=oi dz;refine JL.ret (v:= .agg #[.slice ao (aa.2.2.2.1).length ap,.slice aq (aa.2.2.2.2).length ar]) rfl rfl (Bx.list func39 rfl (vs:= [.agg #[.slice ao (aa.2.2.2.1).length ap,.slice aq (aa.2.2.2.2).length ar]]) ⟨⟨_,rfl,Ld.many (vs:= [.slice ao (aa.2.2.2.1).length ap,.slice aq (aa.2.2.2.2).length ar]) (Al underlying24) (Ag type24) (D8 (off:=0) 1 b4 rfl rfl)⟩,trivial⟩) ?_;refine F0 1 b4 rfl fun dK=>?_;exact dn _ _ _ _ (((du.trans dA).trans bk).trans bl) rfl ⟨ao,ap,aq,ar,aT,aU,rfl,rfl,(dF.mono bl),dH,(dB.mono (bk.trans bl))⟩ dK
 ·intro dL;refine JL.block ?_;refine JL.wk [(0,.pointer (some ⟨K,0,none⟩)),(4,.pointer (some ⟨U,0,none⟩)),(5,.pointer (some ⟨O,0,none⟩)),(6,iV am.1),(7,iV 0)] rfl ?_;refine JL.Bf dy (fun L s A=>∃(aK:LH) (ab:Ar) (ac:Nat) (ah:Seg) (ae:Ar) (ag:Nat) (ai:Seg) (a1:Ar) (a2:Nat),Jn bh H aK [[(K,.cells #[.slice a1 (A.2.2.1).length a2,iV A.2.2.2.1,.int .u64 ((A.2.2.2.2.1:Nat):Int)] 92 (0,0))],[(U,.cells #[.slice none 0 0,.slice none 0 0] 24 (0,0))],[(O,.cells #[.slice ab (A.1).length ac,.slice ae (A.2.1).length ag] 24 (0,0))],ah,ai] [(0,.pointer (some ⟨K,0,none⟩)),(4,.pointer (some ⟨U,0,none⟩)),(5,.pointer (some ⟨O,0,none⟩)),(6,iV am.1),(7,iV A.2.2.2.2.2)] L s (OL 28 (rL rI) aK ab ac ah (A.1)∧OL 28 (rL rI) aK ae ag ai (A.2.1)∧Ao rI aK a1 a2 (A.2.2.1))) ⟨bh,none,0,[],none,0,[],b1,b2,rfl,rfl,(Le.refl _),dx,OL.nil,OL.nil,dv⟩ ?_;rintro _ _ A ⟨aK,ab,ac,ah,ae,ag,ai,a1,a2,rfl,rfl,a3,b5,a4,a5,b6⟩ dM ⟨hg,aV⟩ bm;have bn:=aV;unfold IU at bn;refine zg 7 rfl ?_;refine JL.ifs (p:=A.2.2.2.2.2<am.1) rfl (fun bo=>?_) (fun bo=>?_)
  ·have dN:=ip bn bo;obtain⟨bp,dO,dP⟩:=bs dN;refine zg 6 rfl ?_;refine JL.Y rfl (fun ρ h=>Yl.Bb (h _ _ rfl) (h _ _ rfl) dO) ?_;obtain⟨bq,dQ,dR⟩:=bs dP;refine zg 1 rfl ?_;refine JL.Y rfl (fun ρ h=>Yl.A0 (h _ _ rfl) (h _ _ rfl) dQ) ?_;refine JL.Y (v:=iV (min (bp) (bq))) rfl (fun ρ h=>Yl.min2 (h _ _ rfl) (h _ _ rfl)) ?_;refine JS.lit (pp:=rI) [iV (min (bp) (bq))] [min (bp) (bq)] rfl rfl rfl underlying28 (Ag type3) (AO type3) (by decide) rfl rfl rfl ⟨rfl,trivial⟩ b5 fun dS dT b7 dU=>?_;obtain⟨a6,dV,dW⟩:=bs dR;refine zg 6 rfl ?_;refine JS.BL 0 (KE b6 dV) rfl rfl (Aw func97 rfl) dU rfl ?_;rintro _ dX _ au ⟨b8,b9,rfl,rfl,ca⟩ cb;obtain⟨aL,cc,dY⟩:=bs dW;refine JL.done ?_;refine JL.join (fun L s=>∃(a7:LH) (a8:Ar) (a9:Nat) (br:Ar) (bu:Nat),Jn dX H a7 [[(K,.cells #[.slice br (aL.2.1).length bu,iV aL.2.2.1,.int .u64 ((aL.2.2.2:Nat):Int)] 92 (0,0))],[(U,.cells #[.slice none 0 0,.slice none 0 0] 24 (0,0))],[(O,.cells #[.slice ab (A.1).length ac,.slice ae (A.2.1).length ag] 24 (0,0))],ah,ai] [(0,.pointer (some ⟨K,0,none⟩)),(4,.pointer (some ⟨U,0,none⟩)),(5,.pointer (some ⟨O,0,none⟩)),(6,iV am.1),(7,iV A.2.2.2.2.2),(8,.slice a8 (aL.1).length a9)] L s (Ao rI a7 a8 a9 (aL.1)∧Ao rI a7 br bu (aL.2.1))) ?_ ?_
   ·rintro _ _ ⟨a7,a8,a9,br,bu,rfl,rfl,aB,dZ,ea,eb⟩;obtain⟨ba,ec,ed⟩:=bs dY;refine zg 4 rfl ?_;refine JS.BL 0 (KE eb ec) rfl rfl (Aw func97 rfl) dZ rfl ?_;rintro _ cd _ aA ⟨ce,cf,rfl,rfl,cg⟩ ee;refine JS.norm (S':= [[(K,.cells #[.slice ce (ba.2.1).length cf,iV ba.2.2.1,.int .u64 ((ba.2.2.2:Nat):Int)] 92 (0,0))],[(U,.cells #[.slice none 0 0,.slice none 0 0] 24 (0,0))],[(O,.cells #[.slice ab (A.1).length ac,.slice ae (A.2.1).length ag] 24 (0,0))],ah,ai]) rfl ee fun ci=>?_;obtain⟨ak,ck,ef⟩:=bs ed;refine JL.done ?_;refine JL.join (fun L s=>∃(bb:LH) (av:Ar) (aw:Nat) (bv:Ar) (bw:Nat),Jn cd H bb [[(K,.cells #[.slice bv (ak.2.1).length bw,iV ak.2.2.1,.int .u64 ((ak.2.2.2:Nat):Int)] 92 (0,0))],[(U,.cells #[.slice none 0 0,.slice none 0 0] 24 (0,0))],[(O,.cells #[.slice ab (A.1).length ac,.slice ae (A.2.1).length ag] 24 (0,0))],ah,ai] [(0,.pointer (some ⟨K,0,none⟩)),(4,.pointer (some ⟨U,0,none⟩)),(5,.pointer (some ⟨O,0,none⟩)),(6,iV am.1),(7,iV A.2.2.2.2.2),(8,.slice av (ak.1).length aw)] L s (Ao rI bb av aw (ak.1)∧Ao rI bb bv bw (ak.2.1))) ?_ ?_
    ·rintro _ _ ⟨bb,av,aw,bv,bw,rfl,rfl,aC,eg,cm,eh⟩;refine zg 8 rfl ?_;refine JS.lit (pp:=rI) [iV 0,iV 1,iV 1,iV 2] [0,1,1,2] rfl rfl rfl underlying28 (Ag type3) (AO type3) (by decide) rfl rfl rfl ⟨rfl,rfl,rfl,rfl,trivial⟩ eg fun hj hk ei ej=>?_;refine JS.BJ 5 ei ej rfl fun hl an ek el=>?_;obtain⟨bc,em,eo⟩:=bs ef;refine JS.BL 0 (TS (eh.mono an) ek em) rfl rfl (Aw func99 rfl) el rfl ?_;rintro _ bx _ ay ⟨cn,co,rfl,rfl,ep⟩ eq;refine JS.norm (S':= [[(K,.cells #[.slice cn (bc.2.1).length co,iV bc.2.2.1,.int .u64 ((bc.2.2.2:Nat):Int)] 92 (0,0))],[(U,.cells #[.slice none 0 0,.slice none 0 0] 24 (0,0))],[(O,.cells #[.slice ab (A.1).length ac,.slice ae (A.2.1).length ag] 24 (0,0))],ah,ai,[]]) rfl eq fun er=>?_;obtain⟨Z,et,eu⟩:=bs eo;refine zg 2 rfl ?_;refine JL.join (fun L s=>∃(aF:LH) (aM:Ar) (aN:Nat) (aD:Ar) (aE:Nat),Jn bx H aF [[(K,.cells #[.slice aD (Z.2.1).length aE,iV Z.2.2.1,.int .u64 ((Z.2.2.2:Nat):Int)] 92 (0,0))],[(U,.cells #[.slice none 0 0,.slice none 0 0] 24 (0,0))],[(O,.cells #[.slice ab (A.1).length ac,.slice ae (A.2.1).length ag] 24 (0,0))],ah,ai] [(0,.pointer (some ⟨K,0,none⟩)),(4,.pointer (some ⟨U,0,none⟩)),(5,.pointer (some ⟨O,0,none⟩)),(6,iV am.1),(7,iV A.2.2.2.2.2),(8,.slice av (ak.1).length aw),(9,.slice aM (Z.1).length aN)] L s (Ao rI aF aM aN (Z.1)∧Ao rI aF aD aE (Z.2.1))) ?_ ?_
     ·rintro _ _ ⟨aF,aM,aN,aD,aE,rfl,rfl,az,aW,bz,bA⟩;refine JG.Ce 11 [O] ⟨⟨2,_,rfl⟩,trivial⟩ aW mixed rfl (by decide+kernel) fun ht=>?_;refine JG.fd 0 ht underlying24 (Ag type22) rfl rfl rfl rfl ?_;refine JG.V (v:= .slice ab (A.1).length ac) 1 ht rfl rfl (fun ρ h s' hs=>Yl.load (Al underlying22) (h _ _ rfl) (Bl (o:=0) 2 aW rfl (by simp [AH]) hs rfl)) ?_;refine JG.mv 2 ht rfl rfl ?_;refine JG.fd 5 ht underlying24 (Ag type22) rfl rfl rfl rfl ?_;refine JG.V (v:= .slice ae (A.2.1).length ag) 6 ht rfl rfl (fun ρ h s' hs=>Yl.load (Al underlying22) (h _ _ rfl) (Bl (o:=1) 2 aW rfl (by simp [AH]) hs rfl)) ?_;refine JG.mv 7 ht rfl rfl ?_;obtain⟨aO,bB,ew⟩:=bs eu;obtain⟨aP,bC,bD⟩:=bs ew;refine JG.two (i:=3) (j:=8) rfl (by decide+kernel) ?_ ?_
      ·refine Take.lit (pp:=(rL rI)) (jp:=2) [.slice av (ak.1).length aw] ([ak.1]:List (List Int)) aW rfl rfl rfl rfl underlying22 (Ag type28) (AO type28) (by decide) rfl rfl rfl ⟨⟨_,_,rfl,(cm.mono ((an.trans ay).trans az))⟩,trivial⟩ fun hm cp cq cr=>?_;refine JG.two (i:=4) (j:=8) rfl (by decide+kernel) ?_ ?_
       ·refine Take.app (pp:=(rL rI)) (jp:=2) 3 5 cr rfl bB rfl rfl rfl rfl rfl rfl rfl underlying22 underlying22 (Ag type28) (Cs type28) (AO type28) rfl (by decide) (by decide) (a4.mono ((((((au.trans aB).trans aA).trans aC).trans an).trans ay).trans az)) cq rfl rfl rfl rfl fun ct cu hn cv ex ey=>?_;refine JG.fd 10 ht underlying24 (Ag type22) rfl rfl rfl rfl ?_;refine JG.one (i:=8) rfl (by decide+kernel) ?_;refine Take.lit (pp:=(rL rI)) (jp:=2) [.slice aM (Z.1).length aN] ([Z.1]:List (List Int)) ey rfl rfl rfl rfl underlying22 (Ag type28) (AO type28) (by decide) rfl rfl rfl ⟨⟨_,_,rfl,bz⟩,trivial⟩ fun ho ez eA eB=>?_;refine JG.one (i:=9) rfl (by decide+kernel) ?_;refine Take.app (pp:=(rL rI)) (jp:=2) 4 6 eB rfl bC rfl rfl rfl rfl rfl rfl rfl underlying22 underlying22 (Ag type28) (Cs type28) (AO type28) rfl (by decide) (by decide) (a5.mono ((((((au.trans aB).trans aA).trans aC).trans an).trans ay).trans az)) eA rfl rfl rfl rfl fun cw cy hp cz eC eD=>?_;refine Av.leaf (tail:= [11,12,13]) (by decide+kernel) (fun t=>A1 (by decide+kernel) (A1 (by decide+kernel) (A1 (by decide+kernel) BM)) t) ?_;refine JS.part 3 rfl eD fun eE=>?_;refine JS.drop 3 eE rfl fun eF=>?_;refine JS.part 4 rfl eF fun eG=>?_;refine JS.drop 4 eG rfl fun eH=>?_;refine JS.norm (S':= [[(K,.cells #[.slice aD (Z.2.1).length aE,iV Z.2.2.1,.int .u64 ((Z.2.2.2:Nat):Int)] 92 (0,0))],[(U,.cells #[.slice none 0 0,.slice none 0 0] 24 (0,0))],[(O,.cells #[.slice ab (A.1).length ac,.slice ae (A.2.1).length ag] 24 (0,0))],[],[],cp,ez,cv,cz]) rfl eH fun eI=>?_;refine JS.st (v:= .slice ct (aO).length cu) (off:=0) 2 eI (Ag type22) rfl rfl rfl rfl fun eJ=>?_;refine JL.fd underlying24 (Ag type22) rfl rfl rfl ?_;refine JS.st (v:= .slice cw (aP).length cy) (off:=1) 2 eJ (Ag type22) rfl rfl rfl rfl fun eK=>?_;obtain⟨eL,eM,eN⟩:=bs bD;refine zg 4 rfl ?_;refine JL.Y rfl (fun ρ h=>Yl.A0 (h _ _ rfl) (h _ _ rfl) eM) ?_;refine zg 2 rfl ?_;refine JS.drop 5 eK rfl fun eO=>?_;refine JS.drop 6 eO rfl fun eP=>?_;obtain rfl:=oi eN;exact JL.kw (bm _ _ (aO,aP,Z.2.1,Z.2.2.1,Z.2.2.2,eL) ⟨aF,ct,cu,cv,cw,cy,cz,aD,aE,rfl,rfl,(((((((a3.trans au).trans aB).trans aA).trans aC).trans an).trans ay).trans az),eP,ex,eC,bA⟩ aV) rfl
       ·refine Take.lit (pp:=(rL rI)) (jp:=2) [.slice aM (Z.1).length aN] ([Z.1]:List (List Int)) cr rfl rfl rfl rfl underlying22 (Ag type28) (AO type28) (by decide) rfl rfl rfl ⟨⟨_,_,rfl,bz⟩,trivial⟩ fun hq eQ eR eS=>?_;refine JG.one (i:=4) rfl (by decide+kernel) ?_;refine Take.app (pp:=(rL rI)) (jp:=2) 3 5 eS rfl bB rfl rfl rfl rfl rfl rfl rfl underlying22 underlying22 (Ag type28) (Cs type28) (AO type28) rfl (by decide) (by decide) (a4.mono ((((((au.trans aB).trans aA).trans aC).trans an).trans ay).trans az)) cq rfl rfl rfl rfl fun cA cB hr cC eT eU=>?_;refine JG.fd 10 ht underlying24 (Ag type22) rfl rfl rfl rfl ?_;refine JG.one (i:=9) rfl (by decide+kernel) ?_;refine Take.app (pp:=(rL rI)) (jp:=2) 4 6 eU rfl bC rfl rfl rfl rfl rfl rfl rfl underlying22 underlying22 (Ag type28) (Cs type28) (AO type28) rfl (by decide) (by decide) (a5.mono ((((((au.trans aB).trans aA).trans aC).trans an).trans ay).trans az)) eR rfl rfl rfl rfl fun cD cE hu cF eV eW=>?_;refine Av.leaf (tail:= [11,12,13]) (by decide+kernel) (fun t=>A1 (by decide+kernel) (A1 (by decide+kernel) (A1 (by decide+kernel) BM)) t) ?_;refine JS.part 3 rfl eW fun eX=>?_;refine JS.drop 3 eX rfl fun eY=>?_;refine JS.part 4 rfl eY fun eZ=>?_;refine JS.drop 4 eZ rfl fun e0=>?_;refine JS.norm (S':= [[(K,.cells #[.slice aD (Z.2.1).length aE,iV Z.2.2.1,.int .u64 ((Z.2.2.2:Nat):Int)] 92 (0,0))],[(U,.cells #[.slice none 0 0,.slice none 0 0] 24 (0,0))],[(O,.cells #[.slice ab (A.1).length ac,.slice ae (A.2.1).length ag] 24 (0,0))],[],[],cp,eQ,cC,cF]) rfl e0 fun e1=>?_;refine JS.st (v:= .slice cA (aO).length cB) (off:=0) 2 e1 (Ag type22) rfl rfl rfl rfl fun e2=>?_;refine JL.fd underlying24 (Ag type22) rfl rfl rfl ?_;refine JS.st (v:= .slice cD (aP).length cE) (off:=1) 2 e2 (Ag type22) rfl rfl rfl rfl fun e3=>?_;obtain⟨e4,e5,e6⟩:=bs bD;refine zg 4 rfl ?_;refine JL.Y rfl (fun ρ h=>Yl.A0 (h _ _ rfl) (h _ _ rfl) e5) ?_;refine zg 2 rfl ?_;refine JS.drop 5 e3 rfl fun e7=>?_;refine JS.drop 6 e7 rfl fun e8=>?_;obtain rfl:=oi e6;exact JL.kw (bm _ _ (aO,aP,Z.2.1,Z.2.2.1,Z.2.2.2,e4) ⟨aF,cA,cB,cC,cD,cE,cF,aD,aE,rfl,rfl,(((((((a3.trans au).trans aB).trans aA).trans aC).trans an).trans ay).trans az),e8,eT,eV,bA⟩ aV) rfl
      ·refine Take.lit (pp:=(rL rI)) (jp:=2) [.slice aM (Z.1).length aN] ([Z.1]:List (List Int)) aW rfl rfl rfl rfl underlying22 (Ag type28) (AO type28) (by decide) rfl rfl rfl ⟨⟨_,_,rfl,bz⟩,trivial⟩ fun hv e9 fa fb=>?_;refine JG.one (i:=3) rfl (by decide+kernel) ?_;refine Take.lit (pp:=(rL rI)) (jp:=2) [.slice av (ak.1).length aw] ([ak.1]:List (List Int)) fb rfl rfl rfl rfl underlying22 (Ag type28) (AO type28) (by decide) rfl rfl rfl ⟨⟨_,_,rfl,(cm.mono ((an.trans ay).trans az))⟩,trivial⟩ fun hw fc fe ff=>?_;refine JG.one (i:=4) rfl (by decide+kernel) ?_;refine Take.app (pp:=(rL rI)) (jp:=2) 3 6 ff rfl bB rfl rfl rfl rfl rfl rfl rfl underlying22 underlying22 (Ag type28) (Cs type28) (AO type28) rfl (by decide) (by decide) (a4.mono ((((((au.trans aB).trans aA).trans aC).trans an).trans ay).trans az)) fe rfl rfl rfl rfl fun cG cH hx cI fg fh=>?_;refine JG.fd 10 ht underlying24 (Ag type22) rfl rfl rfl rfl ?_;refine JG.one (i:=9) rfl (by decide+kernel) ?_;refine Take.app (pp:=(rL rI)) (jp:=2) 4 5 fh rfl bC rfl rfl rfl rfl rfl rfl rfl underlying22 underlying22 (Ag type28) (Cs type28) (AO type28) rfl (by decide) (by decide) (a5.mono ((((((au.trans aB).trans aA).trans aC).trans an).trans ay).trans az)) fa rfl rfl rfl rfl fun cJ cK hy cM fj fk=>?_;refine Av.leaf (tail:= [11,12,13]) (by decide+kernel) (fun t=>A1 (by decide+kernel) (A1 (by decide+kernel) (A1 (by decide+kernel) BM)) t) ?_;refine JS.part 3 rfl fk fun fm=>?_;refine JS.drop 3 fm rfl fun fo=>?_;refine JS.part 4 rfl fo fun fp=>?_;refine JS.drop 4 fp rfl fun fq=>?_;refine JS.norm (S':= [[(K,.cells #[.slice aD (Z.2.1).length aE,iV Z.2.2.1,.int .u64 ((Z.2.2.2:Nat):Int)] 92 (0,0))],[(U,.cells #[.slice none 0 0,.slice none 0 0] 24 (0,0))],[(O,.cells #[.slice ab (A.1).length ac,.slice ae (A.2.1).length ag] 24 (0,0))],[],[],e9,fc,cI,cM]) rfl fq fun fs=>?_;refine JS.st (v:= .slice cG (aO).length cH) (off:=0) 2 fs (Ag type22) rfl rfl rfl rfl fun fu=>?_;refine JL.fd underlying24 (Ag type22) rfl rfl rfl ?_;refine JS.st (v:= .slice cJ (aP).length cK) (off:=1) 2 fu (Ag type22) rfl rfl rfl rfl fun fv=>?_;obtain⟨fw,fx,fy⟩:=bs bD;refine zg 4 rfl ?_;refine JL.Y rfl (fun ρ h=>Yl.A0 (h _ _ rfl) (h _ _ rfl) fx) ?_;refine zg 2 rfl ?_;refine JS.drop 5 fv rfl fun fz=>?_;refine JS.drop 6 fz rfl fun fA=>?_;obtain rfl:=oi fy;exact JL.kw (bm _ _ (aO,aP,Z.2.1,Z.2.2.1,Z.2.2.2,fw) ⟨aF,cG,cH,cI,cJ,cK,cM,aD,aE,rfl,rfl,(((((((a3.trans au).trans aB).trans aA).trans aC).trans an).trans ay).trans az),fA,fg,fj,bA⟩ aV) rfl
     ·intro fB;refine JL.block ?_;refine JL.wk [(0,.pointer (some ⟨K,0,none⟩)),(4,.pointer (some ⟨U,0,none⟩)),(5,.pointer (some ⟨O,0,none⟩)),(6,iV am.1),(7,iV A.2.2.2.2.2),(8,.slice av (ak.1).length aw),(9,.slice none 0 0),(10,iV bc.1)] rfl ?_;refine JL.Bf et (fun L s aj=>∃(aG:LH) (aX:Ar) (aY:Nat) (aH:Ar) (aI:Nat),Jn bx H aG [[(K,.cells #[.slice aX (aj.1).length aY,iV aj.2.1,.int .u64 ((aj.2.2.1:Nat):Int)] 92 (0,0))],[(U,.cells #[.slice none 0 0,.slice none 0 0] 24 (0,0))],[(O,.cells #[.slice ab (A.1).length ac,.slice ae (A.2.1).length ag] 24 (0,0))],ah,ai] [(0,.pointer (some ⟨K,0,none⟩)),(4,.pointer (some ⟨U,0,none⟩)),(5,.pointer (some ⟨O,0,none⟩)),(6,iV am.1),(7,iV A.2.2.2.2.2),(8,.slice av (ak.1).length aw),(9,.slice aH (aj.2.2.2.1).length aI),(10,iV aj.2.2.2.2)] L s (Ao rI aG aX aY (aj.1)∧Ao rI aG aH aI (aj.2.2.2.1))) ⟨bx,cn,co,none,0,rfl,rfl,(Le.refl _),er,ep,Ao.nil⟩ ?_;rintro _ _ aj ⟨aG,aX,aY,aH,aI,rfl,rfl,cN,cO,cP,bE⟩ fC ⟨hz,bF⟩ fD;have cQ:=bF;unfold I3 at cQ;obtain⟨cR,cT,cV⟩:=bs cQ;refine zg 6 rfl ?_;refine JL.BI [] (fun L s=>∃(bG:LH),Jm aG H bG [[(K,.cells #[.slice aX (aj.1).length aY,iV aj.2.1,.int .u64 ((aj.2.2.1:Nat):Int)] 92 (0,0))],[(U,.cells #[.slice none 0 0,.slice none 0 0] 24 (0,0))],[(O,.cells #[.slice ab (A.1).length ac,.slice ae (A.2.1).length ag] 24 (0,0))],ah,ai] [(0,.pointer (some ⟨K,0,none⟩)),(4,.pointer (some ⟨U,0,none⟩)),(5,.pointer (some ⟨O,0,none⟩)),(6,iV am.1),(7,iV A.2.2.2.2.2),(8,.slice av (ak.1).length aw),(9,.slice aH (aj.2.2.2.1).length aI),(10,iV aj.2.2.2.2),(50,.bool cR)] L s) ?_ ?_
      ·rintro _ _ ⟨bG,rfl,rfl,aJ,cW⟩;refine JL.done ?_;refine JL.split (t:=cR) rfl (fun bH=>?_) (fun bH=>?_)
       ·have fE:=ip cV bH;obtain⟨fF,fG,fH⟩:=bs fE;refine zg 7 rfl ?_;refine JL.Y rfl (fun ρ h=>Yl.Bb (h _ _ rfl) (h _ _ rfl) fG) ?_;refine JL.Y (v:=iV (max (0) (fF))) rfl (fun ρ h=>Yl.max2 (h _ _ rfl) (h _ _ rfl)) ?_;obtain⟨hA,fI,fJ⟩:=bs fH;refine JS.BL 0 (G5 (cP.mono aJ) fI) rfl rfl (Aw func41 rfl) cW rfl ?_;rintro _ hB _ bI ⟨hC,hD,rfl,rfl,fK⟩ fL;obtain⟨fM,fN,fO⟩:=bs fJ;refine zg 6 rfl ?_;refine JS.BL 0 (KE fK fN) rfl rfl (Aw func97 rfl) fL rfl ?_;rintro _ cX _ bJ ⟨fP,fQ,rfl,rfl,cY⟩ cZ;obtain⟨al,c0,fR⟩:=bs fO;refine JL.done ?_;refine JL.join (fun L s=>∃(aZ:LH) (aQ:Ar) (aR:Nat),Jn cX H aZ [[(K,.cells #[.slice aQ (al.2.1).length aR,iV al.2.2.1,.int .u64 ((al.2.2.2:Nat):Int)] 92 (0,0))],[(U,.cells #[.slice none 0 0,.slice none 0 0] 24 (0,0))],[(O,.cells #[.slice ab (A.1).length ac,.slice ae (A.2.1).length ag] 24 (0,0))],ah,ai] [(0,.pointer (some ⟨K,0,none⟩)),(4,.pointer (some ⟨U,0,none⟩)),(5,.pointer (some ⟨O,0,none⟩)),(6,iV am.1),(7,iV A.2.2.2.2.2),(8,.slice av (ak.1).length aw),(9,.slice aH (aj.2.2.2.1).length aI),(10,iV aj.2.2.2.2),(11,iV al.1)] L s (Ao rI aZ aQ aR (al.2.1))) ?_ ?_
        ·rintro _ _ ⟨aZ,aQ,aR,rfl,rfl,bK,c1,fS⟩;obtain⟨bL,c3,fT⟩:=bs fR;refine zg 6 rfl ?_;refine JL.join (fun L s=>∃(bd:LH) (bf:Ar) (bg:Nat),Jn aZ H bd [[(K,.cells #[.slice aQ (al.2.1).length aR,iV al.2.2.1,.int .u64 ((al.2.2.2:Nat):Int)] 92 (0,0))],[(U,.cells #[.slice none 0 0,.slice none 0 0] 24 (0,0))],[(O,.cells #[.slice ab (A.1).length ac,.slice ae (A.2.1).length ag] 24 (0,0))],ah,ai] [(0,.pointer (some ⟨K,0,none⟩)),(4,.pointer (some ⟨U,0,none⟩)),(5,.pointer (some ⟨O,0,none⟩)),(6,iV am.1),(7,iV A.2.2.2.2.2),(8,.slice av (ak.1).length aw),(9,.slice bf (bL).length bg),(10,iV aj.2.2.2.2)] L s (Ao rI bd bf bg (bL))) ?_ ?_
         ·rintro _ _ ⟨bd,bf,bg,rfl,rfl,c4,fU,fV⟩;obtain⟨fW,fX,fY⟩:=bs fT;refine zg 3 rfl ?_;refine JL.Y rfl (fun ρ h=>Yl.Bb (h _ _ rfl) (h _ _ rfl) fX) ?_;refine zg 2 rfl ?_;obtain rfl:=oi fY;exact JL.kw (fD _ _ (al.2.1,al.2.2.1,al.2.2.2,bL,fW) ⟨bd,aQ,aR,bf,bg,rfl,rfl,(((((cN.trans aJ).trans bI).trans bJ).trans bK).trans c4),fU,(fS.mono c4),fV⟩ bF) rfl
         ·intro c5;refine JL.ifs (p:=al.1≠A.2.2.2.2.2) rfl (fun bM=>?_) (fun bM=>?_)
          ·have fZ:=ip c3 bM;obtain⟨hE,ga,gb⟩:=bs fZ;refine zg 3 rfl ?_;refine JS.cl (Om (bE.mono (((aJ.trans bI).trans bJ).trans bK)) ga) rfl rfl (Aw func98 rfl) c1 ?_;rintro _ gc _ gd ⟨ge,gf,rfl,rfl,gg⟩ gh;refine JS.norm (S':= [[(K,.cells #[.slice aQ (al.2.1).length aR,iV al.2.2.1,.int .u64 ((al.2.2.2:Nat):Int)] 92 (0,0))],[(U,.cells #[.slice none 0 0,.slice none 0 0] 24 (0,0))],[(O,.cells #[.slice ab (A.1).length ac,.slice ae (A.2.1).length ag] 24 (0,0))],ah,ai,[]]) rfl gh fun gi=>?_;refine zg 2 rfl ?_;obtain rfl:=oi gb;exact JL.kw (c5 _ _ ⟨gc,ge,gf,rfl,rfl,gd,gi,gg⟩) rfl
          ·have gj:=im c3 bM;refine JL.skip ?_;obtain rfl:=oi gj;exact JL.kw (c5 _ _ ⟨aZ,aH,aI,rfl,rfl,(Le.refl _),c1,(bE.mono (((aJ.trans bI).trans bJ).trans bK))⟩) rfl
        ·intro c6;refine JL.split (t:=fM.1) rfl (fun bN=>?_) (fun bN=>?_)
         ·have gk:=ip c0 bN;obtain⟨hF,gl,gm⟩:=bs gk;refine zg 3 rfl ?_;refine JL.Y rfl (fun ρ h=>Yl.Bb (h _ _ rfl) (h _ _ rfl) gl) ?_;obtain⟨bO,gn,gp⟩:=bs gm;refine JS.BL 0 (G5 cY gn) rfl rfl (Aw func41 rfl) cZ rfl ?_;rintro _ gq _ gr ⟨c7,c8,rfl,rfl,gt⟩ gu;refine JS.norm (S':= [[(K,.cells #[.slice c7 (bO.2.1).length c8,iV bO.2.2.1,.int .u64 ((bO.2.2.2:Nat):Int)] 92 (0,0))],[(U,.cells #[.slice none 0 0,.slice none 0 0] 24 (0,0))],[(O,.cells #[.slice ab (A.1).length ac,.slice ae (A.2.1).length ag] 24 (0,0))],ah,ai]) rfl gu fun gv=>?_;refine zg 2 rfl ?_;obtain rfl:=oi gp;exact JL.kw (c6 _ _ ⟨gq,c7,c8,rfl,rfl,gr,gv,gt⟩) rfl
         ·have gw:=ib c0 bN;refine JL.skip ?_;obtain rfl:=oi gw;exact JL.kw (c6 _ _ ⟨cX,fP,fQ,rfl,rfl,(Le.refl _),cZ,cY⟩) rfl
       ·have gx:=ib cV bH;refine JL.exit rfl ?_;obtain rfl:=oi gx;obtain rfl:=fC _ bF;exact JL.kw (fB _ _ ⟨bG,aH,aI,aX,aY,rfl,rfl,(cN.trans aJ),cW,(bE.mono aJ),(cP.mono aJ)⟩) rfl
      ·intro c9;refine JL.BW (q:=0<aj.2.2.2.2) (i:=47) rfl (fun bP=>?_) (fun bP=>?_)
       ·have gy:=ip cT bP;refine zg 3 rfl ?_;obtain rfl:=oi gy;exact JL.kw (c9 _ _ ⟨aG,rfl,rfl,(Le.refl _),cO⟩) rfl
       ·have gz:=im cT bP;refine zg 3 rfl ?_;obtain rfl:=oi gz;exact JL.kw (c9 _ _ ⟨aG,rfl,rfl,(Le.refl _),cO⟩) rfl
    ·intro da;refine JL.split (t:=ba.1) rfl (fun bQ=>?_) (fun bQ=>?_)
     ·have gA:=ip ck bQ;obtain⟨hG,gB,gC⟩:=bs gA;refine zg 3 rfl ?_;refine JL.Y rfl (fun ρ h=>Yl.Bb (h _ _ rfl) (h _ _ rfl) gB) ?_;obtain⟨a0,gD,gE⟩:=bs gC;refine JS.BL 0 (G5 cg gD) rfl rfl (Aw func41 rfl) ci rfl ?_;rintro _ hH _ gF ⟨db,dc,rfl,rfl,gG⟩ gH;refine JS.lit (pp:=rI) [iV a0.1] [a0.1] rfl rfl rfl underlying28 (Ag type3) (AO type3) (by decide) rfl rfl rfl ⟨rfl,trivial⟩ gH fun gI hI gJ gK=>?_;refine zg 2 rfl ?_;refine JS.BJ 5 gJ gK rfl fun gL dd gM gN=>?_;refine JS.norm (S':= [[(K,.cells #[.slice db (a0.2.1).length dc,iV a0.2.2.1,.int .u64 ((a0.2.2.2:Nat):Int)] 92 (0,0))],[(U,.cells #[.slice none 0 0,.slice none 0 0] 24 (0,0))],[(O,.cells #[.slice ab (A.1).length ac,.slice ae (A.2.1).length ag] 24 (0,0))],ah,ai,[]]) rfl gN fun gO=>?_;obtain rfl:=oi gE;exact JL.kw (da _ _ ⟨gL,(some ⟨gI,0,none⟩),1,db,dc,rfl,rfl,(gF.trans dd),gO,gM,(gG.mono dd)⟩) rfl
     ·have gP:=ib ck bQ;refine JL.skip ?_;obtain rfl:=oi gP;exact JL.kw (da _ _ ⟨cd,a8,a9,ce,cf,rfl,rfl,(Le.refl _),ci,(ea.mono aA),cg⟩) rfl
   ·intro de;refine JL.split (t:=a6.1) rfl (fun bR=>?_) (fun bR=>?_)
    ·have gQ:=ip cc bR;obtain⟨hJ,gR,gS⟩:=bs gQ;refine zg 5 rfl ?_;refine JL.Y rfl (fun ρ h=>Yl.Bb (h _ _ rfl) (h _ _ rfl) gR) ?_;obtain⟨bS,gT,gU⟩:=bs gS;refine JS.BL 0 (Oj ca gT) rfl rfl (Aw func96 rfl) cb rfl ?_;rintro _ hK _ df ⟨dg,dh,rfl,rfl,gV⟩ gW;refine JS.norm (S':= [[(K,.cells #[.slice dg (bS.2.1).length dh,iV bS.2.2.1,.int .u64 ((bS.2.2.2:Nat):Int)] 92 (0,0))],[(U,.cells #[.slice none 0 0,.slice none 0 0] 24 (0,0))],[(O,.cells #[.slice ab (A.1).length ac,.slice ae (A.2.1).length ag] 24 (0,0))],ah,ai,dT]) rfl gW fun gX=>?_;refine JS.BJ 5 (b7.mono (au.trans df)) gX rfl fun hL di gY gZ=>?_;obtain⟨hM,g0,g1⟩:=bs gU;refine JS.cl (Om gY g0) rfl rfl (Aw func98 rfl) gZ ?_;rintro _ g2 _ dj ⟨g3,g4,rfl,rfl,g5⟩ g6;refine zg 2 rfl ?_;obtain rfl:=oi g1;exact JL.kw (de _ _ ⟨g2,g3,g4,dg,dh,rfl,rfl,((df.trans di).trans dj),g6,g5,(gV.mono (di.trans dj))⟩) rfl
    ·have g7:=ib cc bR;refine JL.skip ?_;refine JS.BJ 5 (b7.mono au) cb rfl fun g8 dk g9 ha=>?_;refine JS.norm (S':= [[(K,.cells #[.slice b8 (a6.2.1).length b9,iV a6.2.2.1,.int .u64 ((a6.2.2.2:Nat):Int)] 92 (0,0))],[(U,.cells #[.slice none 0 0,.slice none 0 0] 24 (0,0))],[(O,.cells #[.slice ab (A.1).length ac,.slice ae (A.2.1).length ag] 24 (0,0))],ah,ai,[]]) rfl ha fun hb=>?_;obtain rfl:=oi g7;exact JL.kw (de _ _ ⟨g8,(some ⟨dS,0,none⟩),1,b8,b9,rfl,rfl,dk,hb,g9,(ca.mono dk)⟩) rfl
  ·have hc:=im bn bo;refine JL.exit rfl ?_;obtain rfl:=oi hc;obtain rfl:=dM _ aV;exact JL.kw (dL _ _ ⟨aK,a1,a2,ab,ac,ah,ae,ag,ai,rfl,rfl,a3,b5,b6,a4,a5⟩) rfl
def f24(fuel:Nat)(p0:A2)(p1:BS):Option ((List (A2))×(BS)):=
 (f39 fuel p1 7).bind fun A=>
 some (([p0,A.1,A.1]:List (A2)),A.2)
theorem T1{U:Ar}{c2:Nat}{Z:Ar}{aa:Nat}{O:Nat}{al:Ar}{am:Nat}{p0:A2}{p1:BS}(az:Ao (rL rI) E U c2 (p0.1))(aA:Ao (rL rI) E Z aa (p0.2))(aB:Ao rI E al am (p1.1)){fuel:Nat}{r:(List (A2))×(BS)}(an:f24 fuel p0 p1=some r):Aq J 24 [.agg #[.slice U (p0.1).length c2,.slice Z (p0.2).length aa],.pointer (some ⟨O,0,none⟩)] E [(O,.cells #[.slice al (p1.1).length am,iV p1.2.1,.int .u64 ((p1.2.2:Nat):Int)] 92 (0,0))] (fun w E' B'=>∃(ao:Ar) (ap:Nat) (aq:Ar) (ar:Nat),w= .slice ao (r.1).length ap∧B'= [(O,.cells #[.slice aq (r.2.1).length ar,iV r.2.2.1,.int .u64 ((r.2.2.2:Nat):Int)] 92 (0,0))]∧Ao (rP (rL (rL rI)) (rL (rL rI))) E' ao ap (r.1)∧Ao rI E' aq ar (r.2.1)):=by
 refine Aq.en func24 rfl rfl fun Q aW cs H aC aD=>?_;unfold f24 at an;refine zg 2 rfl ?_;refine JS.box (v:= .agg #[.slice U (p0.1).length c2,.slice Z (p0.2).length aa]) rfl rfl rfl aC rfl fun aX aE=>?_;refine JS.Ba 1 aE rfl fun aY ab aF aG=>?_;obtain⟨A,aH,aI⟩:=bs an;refine zg 5 rfl ?_;refine JS.BL 0 (TO (aB.mono ab) aH) rfl rfl (Aw func39 rfl) aG rfl ?_;rintro _ aZ _ ac ⟨ae,ag,ah,ai,aj,ak,rfl,rfl,au,av,aJ⟩ aK;refine JS.alloc rfl rfl rfl aK (AO type24) fun aL aM=>?_;refine JS.norm (S':= [[(O,.cells #[.slice aj (A.2.1).length ak,iV A.2.2.1,.int .u64 ((A.2.2.2:Nat):Int)] 92 (0,0))],[],[(aL,.cells #[.slice none 0 0,.slice none 0 0] 24 (0,0))]]) rfl aM fun aN=>?_;refine JS.st (v:= .agg #[.slice ae (A.1.1).length ag,.slice ah (A.1.2).length ai]) (off:=0) 2 aN (Ag type24) rfl rfl rfl rfl fun aO=>?_;refine JS.Ba 2 aO rfl fun a0 K aw aP=>?_;refine zg 3 rfl ?_;refine JL.Bj (aF.mono (ac.trans K)) (Al underlying24) (Ag type24) rfl rfl ?_;refine JL.Bj aw (Al underlying24) (Ag type24) rfl rfl ?_;refine JL.Bj aw (Al underlying24) (Ag type24) rfl rfl ?_;refine JS.lit (pp:=(rP (rL (rL rI)) (rL (rL rI)))) [.agg #[.slice U (p0.1).length c2,.slice Z (p0.2).length aa],.agg #[.slice ae (A.1.1).length ag,.slice ah (A.1.2).length ai],.agg #[.slice ae (A.1.1).length ag,.slice ah (A.1.2).length ai]] [p0,A.1,A.1] rfl rfl rfl underlying33 (Ag type24) (AO type24) (by decide) rfl rfl rfl ⟨⟨_,_,rfl,⟨_,_,rfl,(az.mono ((ab.trans ac).trans K))⟩,⟨_,_,rfl,(aA.mono ((ab.trans ac).trans K))⟩⟩,⟨_,_,rfl,⟨_,_,rfl,(au.mono K)⟩,⟨_,_,rfl,(av.mono K)⟩⟩,⟨_,_,rfl,⟨_,_,rfl,(au.mono K)⟩,⟨_,_,rfl,(av.mono K)⟩⟩,trivial⟩ aP fun aQ a1 aR aS=>?_;refine zg 2 rfl ?_;refine JS.BJ 3 aR aS rfl fun a2 ay aT aU=>?_;refine JS.norm (S':= [[(O,.cells #[.slice aj (A.2.1).length ak,iV A.2.2.1,.int .u64 ((A.2.2.2:Nat):Int)] 92 (0,0))],[],[],[]]) rfl aU fun aV=>?_;obtain rfl:=oi aI;refine JL.rt func24 rfl rfl ?_;exact aD _ _ _ _ (((ab.trans ac).trans K).trans ay) rfl ⟨(some ⟨aQ,0,none⟩),3,aj,ak,rfl,rfl,aT,(aJ.mono (K.trans ay))⟩ aV
end Pal
namespace Pal
theorem Ad.upto{S A:Type}{body:S→Option (A4 S A)}{Q:A→Prop}{K:S}{F:Nat}(n:Nat)(I:Nat→S→Prop)(Z:I 0 K)(ab:n<F)
  (round:∀i s,i<n→I i s→Ad (body s) (A4.sat (I (i+1)) Q)) (last:∀s,I n s→Ad (body s) (fun st=>∃a,st= .done a∧Q a)):Ad (Pal.iter body F K) Q:=by
 refine Ad.iter (fun m s=>∃i,i≤n∧m=n - i∧I i s) ?_ (m:=n - 0) ⟨0,Nat.zero_le _,rfl,Z⟩ (by omega);rintro m s ⟨i,hi,rfl,O⟩;rcases Nat.lt_or_ge i n with aa | ac
 ·refine(round i s aa O).mono ?_;intro st U;cases st with
  | more s'=>exact⟨n - (i+1),by omega,i+1,by omega,rfl,U⟩
  | done a=>exact U
 ·obtain rfl:i=n:=by omega
  refine(last s O).mono ?_;rintro st ⟨a,rfl,h⟩;exact h
theorem Ad.Dv{α:Type}{o:Option α}{a:α}(h:Ad o (fun x=>x=a)):o=some a:=by obtain⟨x,A,rfl⟩:=h;exact A
theorem M3(F:Nat)(a lo hi:Int):f101 F a lo hi=some (decide (a<lo∨hi<a)):=by
 unfold f101;by_cases h:a<lo
 ·simp [h]
 ·simp [h]
theorem Nh(F:Nat){s n:Nat}(hs:s<65536)(U:n≤16):f103 F s (n:Int)=some (s.testBit n):=by
 unfold f103;have A:HQ s (n:Int)=some (s>>>n):=by unfold HQ;rw [if_pos (by omega)];rfl
 rw [A];simp only [Option.bind_some];have K:s>>>n<65536:=Nat.lt_of_le_of_lt (Nat.shiftRight_le _ _) hs;have O:G6 (s>>>n) 1=some (s>>>n&&& 1):=if_pos ⟨K,by omega⟩;rw [O];simp only [Option.bind_some];rw [RU]
theorem TB(F:Nat){s n:Nat}(hs:s<65536)(A:n<16):f90 F s (n:Int)=some (s ||| 1<<<n):=by
 unfold f90;have K:HG (n:Int)=some (1<<<n):=by unfold HG;rw [if_pos (by omega)];rfl
 rw [K];simp only [Option.bind_some];have O:1<<<n<65536:=by rw [Nat.one_shiftLeft];exact Nat.pow_lt_pow_right (by omega) (show n<16 from A)
 have U:Gz s (1<<<n)=some (s ||| 1<<<n):=if_pos ⟨hs,O⟩;rw [U];rfl
theorem OH{a b:Nat}(A:a<65536)(hb:b<65536):a ||| b<65536:=Nat.or_lt_two_pow (n:=16) A hb
theorem Sq{n:Nat}(A:n<16):1<<<n<65536:=by rw [Nat.one_shiftLeft];exact Nat.pow_lt_pow_right (by omega) (show n<16 from A)
def Dz(n:Nat)(l:List Int):Prop:=∀x∈l,0≤x∧x<(n:Int)
def Ct(l:List Int):Nat:=l.foldl (fun s x=>s ||| 1<<<x.toNat) 0
theorem Pw(l:List Int)(x:Int):Ct (l++ [x])=Ct l ||| 1<<<x.toNat:=by simp [Ct]
theorem J5{l:List Int}(h:Dz 16 l):Ct l<65536:=by
 have key:∀(l:List Int) (s:Nat),s<65536→Dz 16 l→l.foldl (fun s x=>s ||| 1<<<x.toNat) s<65536:=by
  intro l
  induction l with
  | nil=>intro s hs _;exact hs
  | cons x l K=>
   intro s hs A;have U:=A x (by simp);exact K _ (OH hs (Sq (by omega))) fun y O=>A y (by simp [O])
 exact key l 0 (by omega) h
theorem J0{l:List Int}(h:∀x∈l,0≤x)(n:Nat):(Ct l).testBit n=decide ((n:Int)∈l):=by
 have key:∀(l:List Int) (s:Nat),(∀x∈l,0≤x)→(l.foldl (fun s x=>s ||| 1<<<x.toNat) s).testBit n=(s.testBit n || decide ((n:Int)∈l)):=by
  intro l
  induction l with
  | nil=>intro s _;simp
  | cons x l K=>
   intro s A;have U:=A x (by simp);rw [List.foldl_cons,K _ fun y O=>A y (by simp [O]),Nat.testBit_or];have e:(1<<<x.toNat).testBit n=decide ((n:Int)=x):=by
    rw [Nat.one_shiftLeft,Nat.testBit_two_pow];exact decide_eq_decide.2 ⟨fun h=>by omega,fun h=>by omega⟩
   rw [e,Bool.or_assoc];congr 1;simp
 rw [Ct,key l 0 h];simp
theorem MV{F:Nat}{l:List Int}(U:100<F)(Z:l.length<100)(h:Dz 16 l):f120 F l=some (Ct l):=by
 refine Ad.Dv ?_;unfold f120;refine Ad.b (S:=fun r=>r=Ct l) ?_ (by rintro r rfl;exact Ad.intro rfl);refine Ad.upto l.length (fun i s=>s=(Ct (l.take i),(i:Int))) (by simp [Ct]) (by omega) ?_ ?_
 ·rintro i s hi rfl;unfold IG;refine Ad.pos (by simp;omega) ?_;refine Ad.Bo (m:=i) rfl hi ?_;have aa:=h l[i] (List.getElem_mem hi);have K:l[i]=((l[i].toNat:Nat):Int):=by omega
  have hs:Ct (l.take i)<65536:=J5 fun y O=>h y (List.mem_of_mem_take O);have A:=TB F (n:=l[i].toNat) hs (by omega);rw [← K] at A;refine Ad.be A ?_;refine Ad.A6 ((i+1:Nat):Int) (by simp) (by omega) (by omega) ?_;refine Ad.intro ?_;show _=_;rw [List.take_add_one,List.getElem?_eq_getElem hi];simp only [Option.toList_some];rw [Pw]
 ·rintro s rfl;unfold IG;refine Ad.neg (by simp) ?_;exact Ad.intro ⟨_,rfl,by simp⟩
def CG(s:Nat)(k:Nat):List Int:=((List.range k).filter (fun n=>s.testBit n)).map (fun(n:Nat)=>(n:Int))
theorem Pj(s k:Nat):CG s (k+1)=if s.testBit k=true then CG s k++ [(k:Int)] else CG s k:=by
 unfold CG;rw [List.range_succ,List.filter_append];by_cases h:s.testBit k=true
 ·rw [if_pos h];simp [h]
 ·rw [if_neg h];simp [h]
theorem JV(s k:Nat):(CG s k).length≤k:=by
 unfold CG;rw [List.length_map];exact Nat.le_trans (List.length_filter_le _ _) (by simp)
theorem Hl{s k:Nat}{x:Int}:x∈CG s k↔∃n:Nat,n<k∧s.testBit n=true∧x=(n:Int):=by
 unfold CG;simp only [List.mem_map,List.mem_filter,List.mem_range];exact⟨fun⟨n,⟨A,K⟩,O⟩=>⟨n,A,K,O.symm⟩,fun⟨n,A,K,O⟩=>⟨n,⟨A,K⟩,O.symm⟩⟩
theorem Nw{F s:Nat}(A:100<F)(hs:s<65536):f89 F s=some (CG s 16):=by
 refine Ad.Dv ?_;unfold f89;refine Ad.b (S:=fun r=>r=CG s 16) ?_ (by rintro r rfl;exact Ad.intro rfl);refine Ad.upto 16 (fun i st=>st=(CG s i,(i:Int))) rfl (by omega) ?_ ?_
 ·rintro i st hi rfl;unfold I4;refine Ad.pos (by simp only;omega) ?_;refine Ad.be (Nh F hs (by omega)) ?_;have hlen:=JV s i;refine Ad.b (S:=fun r=>r=CG s (i+1)) ?_ ?_
  ·rw [Pj];refine Ad.ite (fun h=>?_) (fun h=>?_)
   ·rw [if_pos h];exact Ad.TK (by simp only;omega) (Ad.intro rfl)
   ·rw [if_neg h];exact Ad.intro rfl
  ·rintro r rfl;refine Ad.A6 ((i+1:Nat):Int) (by simp) (by omega) (by omega) ?_;exact Ad.intro rfl
 ·rintro st rfl;unfold I4;exact Ad.neg (by simp) (Ad.intro ⟨_,rfl,rfl⟩)
end Pal
namespace Pal
abbrev JW:=List (List Int)×List (List Int)
structure VL (n:Nat) (l:List Int):Prop where
 len:l.length≤3
 inr:Dz n l
 UI:l.Pairwise (·<·)
structure VJ (n:Nat) (J:JW):Prop where
 pos:0<n
 le:n≤8
 l1:J.1.length=n
 l2:J.2.length=n
 nx:∀(i:Nat) l,J.1[i]? =some l→VL n l∧0<l.length
 fl:∀(i:Nat) l,J.2[i]? =some l→VL n l∧(i:Int) ∉ l
theorem PL(F:Nat):Kv F none=some 0:=by
 unfold Kv f112;have h:∃b,f135 F=some b:=by unfold f135;exact⟨_,rfl⟩
 obtain⟨b,hb⟩:=h;rw [hb];cases b <;> rfl
def Ex(nx:List (List Int))(s:Nat):Nat:=(CG s 16).foldl (fun o m=>o ||| Ct (nx.getD m.toNat [])) 0
theorem VJ.OY{n:Nat}{J:JW}(A:VJ n J)(m:Nat):VL n (J.1.getD m []):=by
 rw [List.getD_eq_getElem?_getD];cases h:J.1[m]? with
 | none=>exact⟨by simp,fun x K=>by simp at K,by simp⟩
 | some l=>exact(A.nx m l h).1
theorem Dz.mono{n m:Nat}{l:List Int}(h:Dz n l)(hle:n≤m):Dz m l:=fun x A=>by have:=h x A;omega
theorem J7{n:Nat}{J:JW}(O:VJ n J)(s k:Nat):(Ex J.1 s).testBit k=true↔∃m,m<16∧s.testBit m=true∧(k:Int)∈J.1.getD m []:=by
 have key:∀(l:List Int) (o:Nat),(l.foldl (fun o m=>o ||| Ct (J.1.getD m.toNat [])) o).testBit k=true↔o.testBit k=true∨∃m∈l,(k:Int)∈J.1.getD m.toNat []:=by
  intro l
  induction l with
  | nil=>intro o;simp
  | cons x l U=>
   intro o;rw [List.foldl_cons,U,Nat.testBit_or,Bool.or_eq_true,J0 fun y Z=>((O.OY x.toNat).inr y Z).1,decide_eq_true_eq];simp only [List.mem_cons,exists_eq_or_imp,or_assoc]
 unfold Ex;rw [key];simp only [Nat.zero_testBit,Bool.false_eq_true,false_or];constructor
 ·rintro⟨x,aa,ab⟩;obtain⟨m,A,K,rfl⟩:=Hl.1 aa;exact⟨m,A,K,ab⟩
 ·rintro⟨m,A,K,ac⟩;exact⟨(m:Int),Hl.2 ⟨m,A,K,rfl⟩,by simpa using ac⟩
theorem PE{n s:Nat}(h:∀k,n≤k→s.testBit k=false):s<2 ^ n:=Nat.lt_pow_two_of_testBit s h
theorem NQ{n:Nat}{J:JW}(A:VJ n J)(s:Nat):Ex J.1 s<2 ^ n:=by
 refine PE fun k O=>?_;cases h:(Ex J.1 s).testBit k with
 | false=>rfl
 | true=>
  obtain⟨m,_,_,K⟩:=(J7 A s k).1 h;have:=(A.OY m).inr _ K;omega
theorem Nf{n:Nat}(h:n≤8):2 ^ n≤256:=Nat.pow_le_pow_right (by omega) h
theorem GI{n s k:Nat}(h:s<2 ^ n)(K:s.testBit k=true):k<n:=by
 rcases Nat.lt_or_ge k n with A | A
 ·exact A
 ·rw [Nat.testBit_lt_two_pow (Nat.lt_of_lt_of_le h (Nat.pow_le_pow_right (by omega) A))] at K;cases K
theorem QP{F n:Nat}{J:JW}{A:List Nat}{s:Nat}(Z:100<F)(K:VJ n J)(hs:s<2 ^ n):HH F (J.1,J.2,A) s=some (Ex J.1 s,(J.1,J.2,A)):=by
 have ah:=K.l1;have ae:=K.le;have ai:=Nf ae;refine Ad.Dv ?_;unfold HH;refine Ad.be (Nw Z (by omega)) ?_;refine Ad.b (S:=fun r=>r=Ex J.1 s) ?_ (by rintro r rfl;exact Ad.intro rfl);have hlen:=JV s 16;refine Ad.upto (CG s 16).length (fun i st=>st=(((CG s 16).take i).foldl (fun o m=>o ||| Ct (J.1.getD m.toNat [])) 0,(i:Int))∧((CG s 16).take i).foldl (fun o m=>o ||| Ct (J.1.getD m.toNat [])) 0<65536) ⟨rfl,by simp⟩ (by omega) ?_ ?_
 ·rintro i st hi ⟨rfl,aa⟩;unfold Ip;obtain⟨m,aj,ag,ab⟩:=Hl.1 (List.getElem_mem hi);have hm:=GI hs ag;have O:m<J.1.length:=by omega
  have U:=(K.nx m _ (List.getElem?_eq_getElem O)).1;have ak:=U.len;refine Ad.pos (by simp;omega) ?_;refine Ad.Bo (m:=i) rfl hi ?_;refine Ad.Bo (m:=m) ab O ?_;refine Ad.be (MV Z (show J.1[m].length<100 by omega) (U.inr.mono (by omega))) ?_;have ac:Ct J.1[m]<65536:=J5 (U.inr.mono (by omega));refine Ad.be (b:=((CG s 16).take i).foldl (fun o m=>o ||| Ct (J.1.getD m.toNat [])) 0 ||| Ct J.1[m]) (if_pos ⟨aa,ac⟩) ?_;refine Ad.A6 ((i+1:Nat):Int) (by simp) (by omega) (by omega) ?_;have e:((CG s 16).take (i+1)).foldl (fun o m=>o ||| Ct (J.1.getD m.toNat [])) 0=((CG s 16).take i).foldl (fun o m=>o ||| Ct (J.1.getD m.toNat [])) 0 ||| Ct J.1[m]:=by
   rw [List.take_add_one,List.getElem?_eq_getElem hi,List.foldl_append,ab];simp [List.getD_eq_getElem?_getD,O]
  refine Ad.intro ⟨?_,?_⟩
  ·rw [e]
  ·rw [e];exact OH aa ac
 ·rintro st ⟨rfl,_⟩;unfold Ip;refine Ad.neg (by simp) (Ad.intro ⟨_,rfl,?_⟩);rw [List.take_length];rfl
def AG(J:JW):Nat→Nat
 | 0=>1
 | a+1=>Ex J.1 (AG J a)
theorem G0{n:Nat}{J:JW}(A:VJ n J):∀a,AG J a<2 ^ n
 | 0=>Nat.one_lt_two_pow (by have:=A.pos;omega)
 | a+1=>NQ A _
def ER(J:JW):List Nat:=(List.range 13).map (AG J)
def HU(J:JW)(n k:Nat)(A:List Nat):Prop:=A.length=13∧(∀i,i≤k→i<13→A[i]? =some (AG J i))∧∀x∈A,x<2 ^ n
theorem HU.all{J:JW}{n:Nat}{A:List Nat}(h:HU J n 12 A):A=ER J:=by
 apply List.ext_getElem?;intro i;rcases Nat.lt_or_ge i 13 with hi | hi
 ·rw [h.2.1 i (by omega) hi];simp [ER,hi]
 ·rw [List.getElem?_eq_none (by rw [h.1];exact hi),List.getElem?_eq_none (by simp [ER];exact hi)]
theorem LU{F n:Nat}{J:JW}{A:List Nat}(ae:100<F)(aa:VJ n J)(ag:A.length=13)(ab:∀x∈A,x<2 ^ n):
  Ad (iter (Hy F) F (J.1,J.2,A,A,0)) (fun r=>r.1=J.1∧r.2.1=J.2∧r.2.2.1=A∧r.2.2.2.length=13∧r.2.2.2[0]? =A[0]? ∧(∀i,i<12→∀s,A[i]? =some s→r.2.2.2[i+1]? =some (Ex J.1 s))∧∀x∈r.2.2.2,x<2 ^ n):=by
 refine Ad.upto 12 (fun k st=>∃B:List Nat,st=(J.1,J.2,A,B,(k:Int))∧B.length=13∧B[0]? =A[0]? ∧(∀i,i<k→∀s,A[i]? =some s→B[i+1]? =some (Ex J.1 s))∧∀x∈B,x<2 ^ n) ⟨A,rfl,ag,rfl,fun i hi=>by omega,ab⟩ (by omega) ?_ ?_
 ·rintro k st ai ⟨B,rfl,K,O,hs,hb⟩;unfold Hy;have U:k<A.length:=by omega
  have ac:k+1<B.length:=by omega
  refine Ad.pos (by simp only;omega) ?_;refine Ad.A6 ((k+1:Nat):Int) (by simp) (by omega) (by omega) ?_;refine Ad.Bo (m:=k) rfl U ?_;refine Ad.be (QP ae aa (ab _ (List.getElem_mem U))) ?_;refine Ad.Bo (m:=k+1) rfl ac ?_;refine Ad.A6 ((k+1:Nat):Int) (by simp) (by omega) (by omega) ?_;refine Ad.intro ⟨B.set (k+1) (Ex J.1 A[k]),rfl,by simpa using K,?_,?_,?_⟩
  ·rw [List.getElem?_set_ne (by omega)];exact O
  ·intro i hi s Z;by_cases e:i=k
   ·subst e;rw [List.getElem?_set_self ac];have:A[i]=s:=by rw [List.getElem?_eq_getElem U] at Z;exact Option.some.inj Z
    rw [this]
   ·rw [List.getElem?_set_ne (by omega)];exact hs i (by omega) s Z
  ·intro x ah;rcases List.mem_or_eq_of_mem_set ah with h | h
   ·exact hb x h
   ·subst h;exact NQ aa _
 ·rintro st ⟨B,rfl,K,O,hs,hb⟩;unfold Hy;refine Ad.neg (by simp) (Ad.intro ⟨_,rfl,rfl,rfl,rfl,K,O,hs,hb⟩)
theorem SA{F n:Nat}{J:JW}(aj:100<F)(ag:VJ n J):f92 F J=some (some (J.1,J.2,ER J)):=by
 have ar:=ag.pos;refine Ad.Dv ?_;unfold f92;refine Ad.Bo (m:=0) rfl (by simp) ?_;refine Ad.b (S:=fun q=>q=Sum.inl (some (J.1,J.2,ER J))) ?_ (by rintro q rfl;exact Ad.intro rfl);refine Ad.upto 12 (fun k st=>∃A:List Nat,st=(J.1,J.2,A)∧HU J n k A) ?_ (by omega) ?_ ?_
 ·refine⟨_,rfl,by simp,fun i hi _=>?_,fun x ak=>?_⟩
  ·obtain rfl:i=0:=by omega
   rfl
  ·rcases List.mem_or_eq_of_mem_set ak with h | h
   ·simp at h;subst h;exact Nat.two_pow_pos n
   ·subst h;exact Nat.one_lt_two_pow (by omega)
 ·rintro k st au ⟨A,rfl,K⟩;unfold IS;refine Ad.b (LU aj ag K.1 K.2.2) ?_;rintro⟨al,am,ah,B⟩ ⟨aa,ab,ac,O,ae,U,Z⟩;simp only at aa ab ac O ae U Z ⊢;subst aa ab ac;refine Ad.ite (fun h=>?_) (fun h=>?_)
  ·refine Ad.intro ⟨B,rfl,O,fun i hi ai=>?_,Z⟩;cases i with
   | zero=>rw [ae];exact K.2.1 0 (by omega) (by omega)
   | succ i=>exact U i (by omega) _ (K.2.1 i (by omega) (by omega))
  ·have e:B=ah:=Decidable.byContradiction fun an=>h an;subst e;refine Ad.intro ?_;show _=_;have ao:HU J n 12 B:=by
    refine⟨O,fun i hi ai=>?_,Z⟩;have:∀i,i<13→B[i]? =some (AG J i):=by
     intro i
     induction i with
     | zero=>intro _;exact K.2.1 0 (by omega) (by omega)
     | succ i ap=>intro h;exact U i (by omega) _ (ap (by omega))
    exact this i ai
   rw [ao.all]
 ·rintro st ⟨A,rfl,K⟩;unfold IS;refine Ad.b (LU aj ag K.1 K.2.2) ?_;rintro⟨al,am,ah,B⟩ ⟨aa,ab,ac,O,ae,U,Z⟩;simp only at aa ab ac O ae U Z ⊢;subst aa ab ac;have aq:HU J n 12 B:=by
   refine⟨O,fun i hi ai=>?_,Z⟩;cases i with
   | zero=>rw [ae];exact K.2.1 0 (by omega) (by omega)
   | succ i=>exact U i (by omega) _ (K.2.1 i (by omega) (by omega))
  have e:B=ah:=by rw [aq.all,K.all]
  refine Ad.neg (by rw [e];simp) (Ad.intro ⟨_,rfl,?_⟩);rw [K.all]
end Pal
namespace Pal
theorem M8(J:JW){a:Nat}(A:a<13):(ER J)[a]? =some (AG J a):=by simp [ER,A]
abbrev Ej:=List Int×Int×Nat
def BG(k:Nat)(b:Ej):Prop:=0≤b.2.1∧b.2.1≤(k:Int)
theorem BG.mono{k k':Nat}{b:Ej}(h:BG k b)(A:k≤k'):BG k' b:=⟨h.1,by have:=h.2;omega⟩
theorem R1{F k:Nat}{b:Ej}(hb:BG k b)(A:k<1000000):Ad (f100 F b) (fun r=>r.1<2 ^ 64∧BG (k+1) r.2):=by
 obtain⟨K,O⟩:=hb;unfold f100;refine Ad.A6 (b.2.1+1) rfl (by omega) (by omega) ?_;have key:∀x:Nat,(x % 2 ^ 64)>>>11<2 ^ 64:=fun x=>Nat.lt_of_le_of_lt (Nat.shiftRight_le _ _) (Nat.mod_lt _ (Nat.two_pow_pos 64));refine Ad.b (S:=fun _=>True) ?_ ?_
 ·refine Ad.ite (fun h=>?_) (fun h=>?_)
  ·refine Ad.A6 b.2.1 (by omega) (by omega) (by omega) ?_;refine Ad.Bo (m:=b.2.1.toNat) (by omega) (by omega) ?_;exact Ad.intro trivial
  ·exact Ad.intro trivial
 ·intro x _;exact Ad.intro ⟨key _,by simp only;omega,by simp only;omega⟩
theorem P4{a:Nat}(h:a<2 ^ 62):Gy a=(a:Int):=by
 unfold Gy;exact Gc (by omega)
theorem GV{F k:Nat}{b:Ej}{m:Int}(hb:BG k b)(K:k<1000000)(hm:m<1000000):Ad (f41 F b m) (fun r=>0≤r.1∧(r.1≤m∨r.1=0)∧BG (k+1) r.2):=by
 unfold f41;refine Ad.b (R1 hb K) ?_;rintro⟨x,aa⟩ ⟨ab,A⟩;refine Ad.ite (fun h=>?_) (fun h=>?_)
 ·exact Ad.intro ⟨by simp,.inr rfl,A⟩
 ·have O:B6 m=m.toNat:=by unfold B6;omega
  have U:(B6 m+1) % 2 ^ 64=m.toNat+1:=by rw [O];omega
  have Z:x % (m.toNat+1)<m.toNat+1:=Nat.mod_lt _ (by omega);refine Ad.be (b:=x % (m.toNat+1)) (by rw [U];unfold Jc;rw [if_neg (by omega)]) ?_;refine Ad.intro ?_;simp only;generalize x % (m.toNat+1)=z at Z ⊢;rw [P4 (by omega)];exact⟨by omega,.inl (by omega),A⟩
theorem N4{F k:Nat}{b:Ej}{lo hi:Int}(hb:BG k b)(K:k<1000000)(Z:0≤lo)(aa:lo≤hi)(ab:hi<1000):Ad (f96 F b lo hi) (fun r=>lo≤r.1∧r.1≤hi∧BG (k+1) r.2):=by
 unfold f96;refine Ad.A6 (hi - lo) rfl (by omega) (by omega) ?_;refine Ad.b (GV hb K (by omega)) ?_;rintro⟨x,ac⟩ ⟨O,U,A⟩;simp only at O U A ⊢;refine Ad.A6 (lo+x) rfl (by omega) (by omega) ?_;exact Ad.intro ⟨by simp only;omega,by simp only;omega,A⟩
theorem Kt{F k:Nat}{b:Ej}{m:Int}(hb:BG k b)(A:k<1000000)(O:1≤m)(U:m<1000):Ad (f97 F b m) (fun r=>BG (k+1) r.2):=by
 unfold f97;refine Ad.A6 (m - 1) rfl (by omega) (by omega) ?_;refine Ad.b (GV hb A (by omega)) ?_;rintro⟨x,Z⟩ ⟨aa,ab,K⟩;exact Ad.intro K
theorem SZ{F k:Nat}{b:Ej}{l:List Int}(hb:BG k b)(O:k<1000000)(aa:0<l.length)(ab:l.length<1000):Ad (f99 F b l) (fun r=>r.1∈l∧BG (k+1) r.2):=by
 unfold f99;refine Ad.A6 ((l.length - 1:Nat):Int) (by omega) (by omega) (by omega) ?_;refine Ad.b (GV hb O (by omega)) ?_;rintro⟨x,ac⟩ ⟨U,Z,A⟩;simp only at U Z A ⊢;have K:x.toNat<l.length:=by omega
 refine Ad.Bo (m:=x.toNat) (by omega) K ?_;exact Ad.intro ⟨List.getElem_mem K,A⟩
theorem Rt{F:Nat}{x:Int}(A:100<F):f98 F [] x=some [x]:=by
 obtain⟨F,rfl⟩:∃k,F=k+1:=⟨F - 1,by omega⟩;refine Ad.Dv ?_;unfold f98;refine Ad.be (b:=([],false)) ?_ ?_
 ·unfold iter;rfl
 ·refine Ad.be (b:= [x]) ?_ (Ad.intro rfl)
  rfl
theorem Sc{F:Nat}{a x:Int}(ag:100<F):f98 F [a] x=some (if x<a then [x,a] else if x=a then [a] else [a,x]):=by
 obtain⟨F,rfl⟩:∃k,F=k+2:=⟨F - 2,by omega⟩;refine Ad.Dv ?_;unfold f98;have O:Ax 1=some 1:=rfl;have U:ix [a] 0=some a:=rfl;have r0:room ([]:List Int) x=some [x]:=if_pos (by simp);have ab:room ([]:List Int) a=some [a]:=if_pos (by simp);have ac:room [x] a=some [x,a]:=if_pos (by simp);have ae:room [a] x=some [a,x]:=if_pos (by simp);have step:GW (F+2) [a] x ([],false,0)=some (.more (if x<a then([x,a],true,1) else if x=a then([x],true,1) else([a],false,1))):=by
  unfold GW;rcases Int.lt_trichotomy x a with h | h | h
  ·have Z:x≤a:=by omega
   have aa:a≠x:=by omega
   simp [U,h,Z,aa,r0,ac,O]
  ·subst h;simp [U,r0,O]
  ·have Z:¬x≤a:=by omega
   have aa:a≠x:=by omega
   have A:¬x<a:=by omega
   have K:¬x=a:=by omega
   simp [U,Z,aa,A,K,ab,O]
 have last:∀(o:List Int) (b:Bool),GW (F+2) [a] x (o,b,1)=some (.done (o,b)):=by
  intro o b;unfold GW;simp
 rcases Int.lt_trichotomy x a with h | h | h
 ·rw [if_pos h] at step;refine Ad.be (b:=([x,a],true)) ?_ ?_
  ·unfold iter;rw [step];simp only;unfold iter;rw [last]
  ·rw [if_pos h];exact Ad.be (b:= [x,a]) (by simp) (Ad.intro rfl)
 ·subst h;rw [if_neg (by omega),if_pos rfl] at step;refine Ad.be (b:=([x],true)) ?_ ?_
  ·unfold iter;rw [step];simp only;unfold iter;rw [last]
  ·rw [if_neg (show ¬x<x by omega),if_pos (rfl:x=x)];exact Ad.be (b:= [x]) (by simp) (Ad.intro rfl)
 ·have A:¬x<a:=by omega
  have K:¬x=a:=by omega
  rw [if_neg A,if_neg K] at step;refine Ad.be (b:=([a],false)) ?_ ?_
  ·unfold iter;rw [step];simp only;unfold iter;rw [last]
  ·rw [if_neg A,if_neg K];exact Ad.be (b:= [a,x]) (by simp [ae]) (Ad.intro rfl)
theorem Oc{F n:Nat}{l:List Int}{x:Int}(K:100<F)(O:Dz n l)(U:l.length≤1)(Z:0≤x∧x<(n:Int)):Ad (f98 F l x) (fun r=>VL n r∧0<r.length∧r.length≤l.length+1∧∀y∈r,y=x∨y∈l):=by
 match l,U with
 | [],_=>
  rw [Rt K];exact Ad.intro ⟨⟨by simp,fun y A=>by simp at A;subst A;exact Z,by simp⟩,by simp,by simp,fun y A=>by simpa using A⟩
 | [a],_=>
  rw [Sc K];have aa:=O a (by simp);refine Ad.intro ?_;rcases Int.lt_trichotomy x a with h | h | h
  ·rw [if_pos h];exact⟨⟨by simp,fun y A=>by simp at A;rcases A with rfl | rfl <;> assumption,by simpa using h⟩,by simp,by simp,fun y A=>by simpa using A⟩
  ·rw [if_neg (by omega),if_pos h];exact⟨⟨by simp,fun y A=>by simp at A;subst A;exact aa,by simp⟩,by simp,by simp,fun y A=>by simp at A;subst A;simp⟩
  ·rw [if_neg (by omega),if_neg (by omega)];exact⟨⟨by simp,fun y A=>by simp at A;rcases A with rfl | rfl <;> assumption,by simpa using h⟩,by simp,by simp,fun y A=>by simp at A;rcases A with rfl | rfl <;> simp⟩
 | a::b::l,h=>simp at h
structure PJ (n i:Nat) (N A:List (List Int)):Prop where
 l1:N.length=i
 l2:A.length=i
 nx:∀(q:Nat) l,N[q]? =some l→VL n l∧0<l.length
 fl:∀(q:Nat) l,A[q]? =some l→VL n l∧(q:Int) ∉ l
theorem PJ.snoc{n i:Nat}{N O:List (List Int)}{a b:List Int}(h:PJ n i N O)(U:VL n a∧0<a.length)(hb:VL n b∧(i:Int) ∉ b):PJ n (i+1) (N++ [a]) (O++ [b]):=by
 refine⟨by simp [h.l1],by simp [h.l2],fun q l A=>?_,fun q l A=>?_⟩
 ·rcases Nat.lt_or_ge q N.length with K | K
  ·rw [List.getElem?_append_left K] at A;exact h.nx q l A
  ·rw [List.getElem?_append_right K] at A;have:q - N.length=0:=by
    rcases Nat.eq_zero_or_pos (q - N.length) with e | e
    ·exact e
    ·rw [List.getElem?_eq_none (by simp;omega)] at A;cases A
   rw [this] at A;simp at A;subst A;exact U
 ·rcases Nat.lt_or_ge q O.length with K | K
  ·rw [List.getElem?_append_left K] at A;exact h.fl q l A
  ·rw [List.getElem?_append_right K] at A;have e:q - O.length=0:=by
    rcases Nat.eq_zero_or_pos (q - O.length) with e | e
    ·exact e
    ·rw [List.getElem?_eq_none (by simp;omega)] at A;cases A
   rw [e] at A;simp at A;subst A;have:q=i:=by have:=h.l2;omega
   subst this;exact hb
theorem P0{F n i k:Nat}{ac:Int×Ej}{ae:(List (List Int))×(List (List Int))×(List Int)×Int×Nat×Int}{b:Ej}{c:Int}(ao:100<F)(ag:ac.1=(n:Int))(ah:ae.2.2.2.2.2=(i:Int))(hi:i<n)(av:n≤8)(hb:BG k b)(aw:k<1000)(ay:c=0∨c=1∨c=2):
  Ad (iter (I3 F ac ae) F (b.1,b.2.1,b.2.2,[],c)) (fun r=>VL n r.1∧(i:Int) ∉ r.1∧BG (k+10) r.2):=by
 refine Ad.iter (fun m st=>∃(l:List Int) (A:Ej),st=(A.1,A.2.1,A.2.2,l,(m:Int))∧m≤2∧VL n l∧(i:Int) ∉ l∧l.length≤2 - m∧BG (k+10 - 4*m) A) ?_ (m:=c.toNat) ⟨[],b,by simp;omega,by omega,⟨by simp,fun x ap=>by simp at ap,by simp⟩,by simp,by simp,hb.mono (by omega)⟩ (by omega);rintro m st ⟨l,A,rfl,az,Z,aa,hlen,ai⟩;unfold I3;refine Ad.b (S:=fun q=>q=decide (0<m∧1<n)) ?_ ?_
 ·refine Ad.ite (fun h=>?_) (fun h=>?_)
  ·refine Ad.intro ?_;rw [ag];exact decide_eq_decide.2 ⟨fun aj=>⟨by simp only at h;omega,by omega⟩,fun aj=>by omega⟩
  ·refine Ad.intro ?_;have:¬0<m:=by simp only at h;omega
   simp [this]
 ·rintro q rfl;refine Ad.ite (fun h=>?_) (fun h=>?_)
  ·have aj:0<m∧1<n:=of_decide_eq_true h;refine Ad.A6 ((i:Int) - 1) (by rw [ah]) (by omega) (by omega) ?_;refine Ad.b (GV (F:=F) (b:=(A.1,A.2.1,A.2.2)) (m:=max 0 ((i:Int) - 1)) ai (by omega) (by omega)) ?_;rintro⟨y,aA⟩ ⟨ak,aq,al⟩;simp only at ak aq al ⊢;refine Ad.b (Kt (F:=F) al (by omega) (by omega) (by omega)) ?_;rintro⟨o,aB⟩ ab;simp only at ab ⊢;refine Ad.b (S:=fun r=>0≤r.1∧r.1<(n:Int)∧BG (k+10 - 4*m+1+1+1) r.2) ?_ ?_
   ·refine Ad.ite (fun _=>?_) (fun _=>?_)
    ·refine Ad.A6 ((n:Int) - 1) (by rw [ag]) (by omega) (by omega) ?_;refine Ad.b (GV (F:=F) ab (by omega) (by omega)) ?_;rintro⟨z,am⟩ ⟨K,O,U⟩;exact Ad.intro ⟨K,by simp only at K O ⊢;omega,U⟩
    ·exact Ad.intro ⟨ak,by simp only;omega,BG.mono ab (by omega)⟩
   ·rintro⟨z,am⟩ ⟨K,O,U⟩;simp only at K O U ⊢;refine Ad.b (S:=fun r=>VL n r∧(i:Int) ∉ r∧r.length≤l.length+1) ?_ ?_
    ·rw [ah];refine Ad.ite (fun ar=>?_) (fun _=>?_)
     ·refine Ad.b (Oc (F:=F) ao Z.inr (by omega) ⟨K,O⟩) ?_;rintro r ⟨v1,v2,an,v4⟩;refine Ad.intro ⟨v1,fun au=>?_,an⟩;rcases v4 _ au with e | e
      ·exact ar e.symm
      ·exact aa e
     ·exact Ad.intro ⟨Z,aa,by omega⟩
    ·rintro r ⟨v1,v2,an⟩;refine Ad.A6 ((m - 1:Nat):Int) (by omega) (by omega) (by omega) ?_;exact Ad.intro ⟨m - 1,by omega,r,am,rfl,by omega,v1,v2,by omega,U.mono (by omega)⟩
  ·exact Ad.intro ⟨Z,aa,ai.mono (by omega)⟩
theorem SD{F k mx:Nat}{b:Ej}(aj:100<F)(hb:BG k b)(aC:k<100)(aD:1≤mx)(aE:mx≤8):Ad (f39 F b (mx:Int)) (fun r=>(∃n,n≤mx∧VJ n r.1)∧BG (k+301) r.2):=by
 unfold f39;refine Ad.b (N4 (F:=F) hb (by omega) (by omega) (by omega) (by omega)) ?_;rintro⟨ak,aw⟩ ⟨n1,n2,al⟩;simp only at n1 n2 al;obtain⟨n,rfl⟩:∃n:Nat,ak=(n:Int):=⟨ak.toNat,by omega⟩;have aF:1≤n:=by omega
 have am:n≤8:=by omega
 refine Ad.b (S:=fun r=>PJ n n r.2.2.2.1 r.2.2.2.2∧BG (k+301) (r.1,r.2.1,r.2.2.1)) ?_ ?_
 ·refine Ad.upto n (fun i st=>∃(N K:List (List Int)) (Z:Ej),st=(N,K,Z.1,Z.2.1,Z.2.2,(i:Int))∧PJ n i N K∧BG (k+1+30*i) Z) ⟨[],[],aw,rfl,⟨rfl,rfl,fun q l ab=>by simp at ab,fun q l ab=>by simp at ab⟩,al⟩ (by omega) ?_ ?_
  ·rintro i st hi ⟨N,K,aa,rfl,A,ac⟩;unfold IU;refine Ad.pos (by simp only;omega) ?_;refine Ad.A6 ((n:Int) - 1) rfl (by omega) (by omega) ?_;refine Ad.A6 ((i+1:Nat):Int) (by simp) (by omega) (by omega) ?_;refine Ad.b (Kt (F:=F) (b:=(aa.1,aa.2.1,aa.2.2)) ac (by omega) (by omega) (by omega)) ?_;rintro⟨o,aG⟩ ae;simp only at ae ⊢;have an:Dz n [min ((n:Int) - 1) ((i+1:Nat):Int)]:=fun x O=>by simp at O;subst O;omega
   refine Ad.b (S:=fun r=>VL n r.1∧0<r.1.length∧BG (k+1+30*i+2) r.2) ?_ ?_
   ·refine Ad.ite (fun _=>?_) (fun _=>?_)
    ·refine Ad.A6 ((n:Int) - 1) rfl (by omega) (by omega) ?_;refine Ad.b (N4 (F:=F) ae (by omega) (by omega) (by omega) (by omega)) ?_;rintro⟨y,ao⟩ ⟨ag,ah,U⟩;simp only at ag ah U ⊢;refine Ad.b (Oc (F:=F) aj an (by simp) ⟨by omega,by omega⟩) ?_;rintro r ⟨v1,v2,aH,v4⟩;exact Ad.intro ⟨v1,v2,U⟩
    ·exact Ad.intro ⟨⟨by simp,an,by simp⟩,by simp,BG.mono ae (by omega)⟩
   ·rintro⟨nx,ao⟩ ⟨w1,w2,w3⟩;simp only at w1 w2 w3 ⊢;refine Ad.b (Kt (F:=F) (b:=ao) w3 (by omega) (by omega) (by omega)) ?_;rintro⟨aI,aJ⟩ ai;simp only at ai ⊢;refine Ad.b (S:=fun r=>VL n r.1∧0<r.1.length∧BG (k+1+30*i+4) r.2) ?_ ?_
    ·refine Ad.ite (fun _=>?_) (fun _=>?_)
     ·refine Ad.A6 ((n:Int) - 1) rfl (by omega) (by omega) ?_;refine Ad.b (GV (F:=F) ai (by omega) (by omega)) ?_;rintro⟨y,ap⟩ ⟨ag,ah,U⟩;simp only at ag ah U ⊢;exact Ad.intro ⟨⟨by simp,fun x O=>by simp at O;subst O;omega,by simp⟩,by simp,U⟩
     ·exact Ad.intro ⟨w1,w2,BG.mono ai (by omega)⟩
    ·rintro⟨aq,ap⟩ ⟨u1,ar,au⟩;simp only at u1 ar au ⊢;refine Ad.b (SZ (F:=F) (b:=ap) au (by omega) (by simp) (by simp)) ?_;rintro⟨c,ay⟩ ⟨av,c2⟩;simp only at av c2 ⊢;have az:c=0∨c=1∨c=2:=by simp at av;omega
     refine Ad.b (P0 (F:=F) (b:=ay) aj rfl rfl hi am c2 (by omega) az) ?_;rintro⟨fl,aA⟩ ⟨t1,t2,t3⟩;simp only at t1 t2 t3 ⊢;have aK:=A.l1;have aL:=A.l2;refine Ad.be (b:=N++ [aq]) (if_pos (by simp;omega)) ?_;refine Ad.be (b:=K++ [fl]) (if_pos (by simp;omega)) ?_;refine Ad.A6 ((i+1:Nat):Int) (by simp) (by omega) (by omega) ?_;exact Ad.intro ⟨N++ [aq],K++ [fl],aA,rfl,A.snoc ⟨u1,ar⟩ ⟨t1,t2⟩,t3.mono (by omega)⟩
  ·rintro st ⟨N,K,aa,rfl,A,ac⟩;unfold IU;refine Ad.neg (by simp) (Ad.intro ⟨_,rfl,A,ac.mono (by omega)⟩)
 ·rintro⟨aM,aN,aO,N,K⟩ ⟨A,aB⟩;refine Ad.intro ⟨⟨n,by omega,?_⟩,aB⟩;exact⟨by omega,am,A.l1,A.l2,A.nx,A.fl⟩
end Pal
namespace Pal
open Go Go.Conc Go.Proofs
open Go.Proofs.Tryz
end Pal
namespace Pal
def FP(J:JW)(n a:Nat)(d:List Bool):Prop:=d.length=n∧∀m,m<n→d[m]? =some ((AG J a).testBit m)
def Li(J:JW)(n a k:Nat)(d:List Bool):Prop:=d.length=n∧∀x:Nat,x<n→(d[x]? =some true↔∃m,m<k∧(AG J a).testBit m=true∧(x:Int)∈J.1.getD m [])
theorem Li.due{n a:Nat}{J:JW}{d:List Bool}(K:VJ n J)(h:Li J n a n d):FP J n (a+1) d:=by
 refine⟨h.1,fun x U=>?_⟩;have Z:x<d.length:=by rw [h.1];exact U
 rw [List.getElem?_eq_getElem Z];congr 1;have aa:=h.2 x U;rw [List.getElem?_eq_getElem Z,Option.some.injEq] at aa;have ab:=J7 K (AG J a) x;have e:d[x]=true↔(AG J (a+1)).testBit x=true:=by
  rw [aa];show _↔(Ex J.1 (AG J a)).testBit x=true;rw [ab];have ae:=K.le;constructor
  ·rintro⟨m,ac,A,O⟩;exact⟨m,by omega,A,O⟩
  ·rintro⟨m,ac,A,O⟩;exact⟨m,GI (G0 K a) A,A,O⟩
 cases ag:d[x] <;> cases ah:(AG J (a+1)).testBit x <;> simp_all
theorem Qo{d:List Bool}{q x:Nat}(A:q<d.length):(d.set q true)[x]? =some true↔d[x]? =some true∨x=q:=by
 by_cases e:q=x
 ·subst e;rw [List.getElem?_set_self A];simp
 ·rw [List.getElem?_set_ne e];constructor
  ·exact .inl
  ·rintro(h | h)
   ·exact h
   ·exact absurd h.symm e
end Pal
namespace Pal
open Go Go.Conc Go.Proofs
open Go.Proofs.Tryz
end Pal
namespace Pal
def PS(J:JW)(a b:Nat):Prop:=∃m:Nat,(AG J a).testBit m=true∧((AG J b).testBit m=true∨∃x:Nat,(x:Int)∈J.2.getD m []∧(AG J b).testBit x=true)
theorem VJ.OX{n:Nat}{J:JW}(A:VJ n J)(m:Nat):VL n (J.2.getD m []):=by
 rw [List.getD_eq_getElem?_getD];cases h:J.2[m]? with
 | none=>exact⟨by simp,fun x K=>by simp at K,by simp⟩
 | some l=>exact(A.fl m l h).1
theorem S3{a b:Nat}:a&&& b≠0↔∃k,a.testBit k=true∧b.testBit k=true:=by
 constructor
 ·intro h;obtain⟨k,A⟩:=Nat.exists_testBit_of_ne_zero h;rw [Nat.testBit_and,Bool.and_eq_true] at A;exact⟨k,A⟩
 ·rintro⟨k,K,O⟩ h;have:(a&&& b).testBit k=true:=by rw [Nat.testBit_and,K,O];rfl
  rw [h] at this;simp at this
theorem Ns{n:Nat}{J:JW}(A:VJ n J):∀a,∃m,(AG J a).testBit m=true
 | 0=>⟨0,by show(1:Nat).testBit 0=true;decide⟩
 | a+1=>by
  obtain⟨m,hm⟩:=Ns A a
  have O:=GI (G0 A a) hm
  have U:=A.l1;have Z:=A.le
  have K:m<J.1.length:=by omega
  obtain⟨v1,v2⟩:=A.nx m _ (List.getElem?_eq_getElem K);have aa:=v1.inr J.1[m][0] (List.getElem_mem v2);refine⟨J.1[m][0].toNat,?_⟩;show(Ex J.1 (AG J a)).testBit _=true;rw [J7 A];refine⟨m,by omega,hm,?_⟩;rw [List.getD_eq_getElem?_getD,List.getElem?_eq_getElem K];rw [show((J.1[m][0].toNat:Nat):Int)=J.1[m][0] by omega];exact List.getElem_mem v2
theorem PS.self{n:Nat}{J:JW}(A:VJ n J)(a:Nat):PS J a a:=let ⟨m,hm⟩:=Ns A a;⟨m,hm,.inl hm⟩
theorem MQ{F n a b:Nat}{J:JW}(ae:100<F)(O:VJ n J)(ak:a<13)(hb:b<13):Ad (f109 F (J.1,J.2,ER J) (a:Int) (b:Int)) (fun r=>r=true↔PS J a b):=by
 have an:=Nf O.le;have ag:=G0 O a;have ao:=G0 O b;have ap:=O.l2;have aq:=O.le;unfold f109;refine Ad.be (C6 (m:=b) rfl (M8 J hb)) ?_;refine Ad.be (C6 (m:=a) rfl (M8 J ak)) ?_;refine Ad.be (Nw ae (by omega)) ?_;have hlen:=JV (AG J a) 16;refine Ad.b (S:=fun q=>(q=Sum.inl true∧PS J a b)∨(q=Sum.inr ()∧¬PS J a b)) ?_ ?_
 ·refine Ad.upto (CG (AG J a) 16).length (fun i s=>s=(i:Int)∧∀m:Nat,(m:Int)∈(CG (AG J a) 16).take i→¬((AG J b).testBit m=true∨∃x:Nat,(x:Int)∈J.2.getD m []∧(AG J b).testBit x=true)) ⟨rfl,by simp⟩ (by omega) ?_ ?_
  ·rintro i s hi ⟨rfl,ac⟩;unfold IF;have al:=List.getElem_mem hi;obtain⟨m,ar,ah,ai⟩:=Hl.1 al;have au:=GI ag ah;refine Ad.pos (by omega) ?_;refine Ad.Bo (m:=i) rfl hi ?_;rw [ai];refine Ad.be (Nh F (by omega) (by omega)) ?_;have Z:=O.OX m;have am:J.2[m]? =some (J.2.getD m []):=by rw [List.getD_eq_getElem?_getD,List.getElem?_eq_getElem (by omega)];rfl
   have aj:Dz 16 (J.2.getD m []):=fun x U=>by have:=Z.inr x U;omega
   refine Ad.b (S:=fun c=>c=true↔((AG J b).testBit m=true∨∃x:Nat,(x:Int)∈J.2.getD m []∧(AG J b).testBit x=true)) ?_ ?_
   ·refine Ad.ite (fun h=>Ad.intro ⟨fun _=> .inl h,fun _=>rfl⟩) (fun h=>?_);refine Ad.be (C6 (m:=m) rfl am) ?_;refine Ad.be (MV ae (by have:=Z.len;omega) aj) ?_;refine Ad.be (b:=AG J b&&& Ct (J.2.getD m [])) (if_pos ⟨by omega,J5 aj⟩) ?_;refine Ad.intro ?_;rw [decide_eq_true_iff];have e:((AG J b&&& Ct (J.2.getD m []):Nat):Int)≠((0:Nat):Int)↔AG J b&&& Ct (J.2.getD m [])≠0:=by omega
    rw [e,S3];constructor
    ·rintro⟨k,k1,aa⟩;rw [J0 (fun x U=>(Z.inr x U).1)] at aa;exact .inr ⟨k,of_decide_eq_true aa,k1⟩
    ·rintro(A | ⟨k,k1,aa⟩)
     ·exact absurd A h
     ·exact⟨k,aa,by rw [J0 (fun x U=>(Z.inr x U).1)];exact decide_eq_true k1⟩
   ·intro c ab;refine Ad.ite (fun h=>?_) (fun h=>?_)
    ·exact Ad.intro (.inl ⟨rfl,m,ah,ab.1 h⟩)
    ·refine Ad.A6 ((i+1:Nat):Int) (by simp) (by omega) (by omega) ?_;refine Ad.intro ⟨rfl,fun k K=>?_⟩;rw [List.take_add_one,List.getElem?_eq_getElem hi] at K;simp only [Option.toList_some,List.mem_append,List.mem_singleton] at K;rcases K with K | K
     ·exact ac k K
     ·rw [ai] at K;obtain rfl:k=m:=by omega
      exact fun A=>h (ab.2 A)
  ·rintro s ⟨rfl,ac⟩;unfold IF;refine Ad.neg (by omega) (Ad.intro ⟨_,rfl,.inr ⟨rfl,?_⟩⟩);rintro⟨m,hm,ab⟩;refine ac m ?_ ab;rw [List.take_length,Hl];exact⟨m,by have:=GI ag hm;omega,hm,rfl⟩
 ·rintro q (⟨rfl,h⟩ | ⟨rfl,h⟩)
  ·exact Ad.intro ⟨fun _=>h,fun _=>rfl⟩
  ·exact Ad.intro ⟨fun A=>(by cases A),fun A=>absurd A h⟩
end Pal
namespace Pal
open Go Go.Conc Go.Proofs
open Go.Proofs.Tryz
variable {J:Judge Tryz.prog}{E:LH}
def HP(fuel:Nat)(p0:A2):Option (Int):=
 (f113 fuel p0).bind fun A=>
 (Je fuel A).bind fun K=>
 some K
theorem SX{K:Ar}{c2:Nat}{O:Ar}{U:Nat}{p0:A2}(ab:GE E)(ac:Ao (rL rI) E K c2 (p0.1))(ae:Ao (rL rI) E O U (p0.2)){fuel:Nat}{r:Int}(Z:HP fuel p0=some r):Aq J 67 [.agg #[.slice K (p0.1).length c2,.slice O (p0.2).length U]] E [] (fun w E' B'=>w=iV r∧B'= []):=by
 refine Aq.en func67 rfl rfl fun Q av cs H ag ah=>?_;unfold HP at Z;refine zg 2 rfl ?_;refine JS.box (v:= .agg #[.slice K (p0.1).length c2,.slice O (p0.2).length U]) rfl rfl rfl ag rfl fun aw ai=>?_;refine JS.Ba 1 ai rfl fun ay A aj ak=>?_;refine zg 4 rfl ?_;refine JL.Bj aj (Al underlying24) (Ag type24) rfl rfl ?_;obtain⟨az,al,am⟩:=bs Z;refine JS.cl (Ny (ac.mono A) (ae.mono A) al) rfl rfl (Aw func113 rfl) ak ?_;rintro aA aB _ aa ⟨_,rfl,rfl,an⟩ ao;obtain⟨aC,ap,aq⟩:=bs am;refine JS.cl (Kf (ab.mono (A.trans aa)) an ap) rfl rfl (Aw func112 rfl) ao ?_;rintro _ aD _ ar ⟨rfl,rfl⟩ au;refine zg 2 rfl ?_;obtain rfl:=oi aq;refine JL.rt func67 rfl rfl ?_;exact ah _ _ _ _ ((A.trans aa).trans ar) rfl ⟨rfl,rfl⟩ au
def Gv(fuel:Nat)(p0:A2)(p1:AW):Option (Int):=
 (f113 fuel p0).bind fun A=>
 if A.isSome=true then(
  (Je fuel A).bind fun K=>
  some K
 ) else(
  (f116 fuel p0 p1).bind fun O=>
  (Je fuel O).bind fun U=>
  some U
 )
theorem HA{O:Ar}{c2:Nat}{U:Ar}{Z:Nat}{ab:Ar}{ac:Nat}{p0:A2}{p1:AW}(ae:GE E)(ag:Ao (rL rI) E O c2 (p0.1))(ah:Ao (rL rI) E U Z (p0.2))(aq:Ao Bv E ab ac (p1)){fuel:Nat}{r:Int}(ai:Gv fuel p0 p1=some r):Aq J 69 [.agg #[.slice O (p0.1).length c2,.slice U (p0.2).length Z],.slice ab (p1).length ac] E [] (fun w E' B'=>w=iV r∧B'= []):=by
 refine Aq.en func69 rfl rfl fun Q aM cs H ar aj=>?_;unfold Gv at ai;refine zg 2 rfl ?_;refine JS.box (v:= .agg #[.slice O (p0.1).length c2,.slice U (p0.2).length Z]) rfl rfl rfl ar rfl fun aN au=>?_;refine JS.Ba 1 au rfl fun aO A ak av=>?_;refine zg 5 rfl ?_;refine JL.Bj ak (Al underlying24) (Ag type24) rfl rfl ?_;obtain⟨al,aw,am⟩:=bs ai;refine JS.cl (Ny (ag.mono A) (ah.mono A) aw) rfl rfl (Aw func113 rfl) av ?_;rintro aP aQ _ K ⟨_,rfl,rfl,an⟩ ao;refine zg 5 rfl ?_;refine JL.Y (v:= .bool al.isSome) rfl (fun ρ h=>Yl.KB underlying149 an (h _ _ rfl) (h _ _ rfl)) ?_;refine JL.done ?_;refine JL.split (t:=al.isSome) rfl (fun aa=>?_) (fun aa=>?_)
 ·have ay:=ip am aa;obtain⟨aR,az,aA⟩:=bs ay;refine zg 3 rfl ?_;refine JS.cl (Kf (ae.mono (A.trans K)) an az) rfl rfl (Aw func112 rfl) ao ?_;rintro _ aS _ aB ⟨rfl,rfl⟩ aC;refine zg 2 rfl ?_;obtain rfl:=oi aA;refine JL.rt func69 rfl rfl ?_;exact aj _ _ _ _ ((A.trans K).trans aB) rfl ⟨rfl,rfl⟩ aC
 ·have aD:=ib am aa;refine zg 3 rfl ?_;refine JL.Bj (ak.mono K) (Al underlying24) (Ag type24) rfl rfl ?_;obtain⟨aT,aE,aF⟩:=bs aD;refine zg 1 rfl ?_;refine JS.cl (Ta (ag.mono (A.trans K)) (ah.mono (A.trans K)) (aq.mono (A.trans K)) aE) rfl rfl (Aw func116 rfl) ao ?_;rintro aU aV _ ap ⟨_,rfl,rfl,aG⟩ aH;obtain⟨aW,aI,aJ⟩:=bs aF;refine JS.cl (Kf (ae.mono ((A.trans K).trans ap)) aG aI) rfl rfl (Aw func112 rfl) aH ?_;rintro _ aX _ aK ⟨rfl,rfl⟩ aL;refine zg 2 rfl ?_;obtain rfl:=oi aJ;refine JL.rt func69 rfl rfl ?_;exact aj _ _ _ _ (((A.trans K).trans ap).trans aK) rfl ⟨rfl,rfl⟩ aL
def Io(fuel:Nat)(p1:List Int)(A:Int):Option (A4 (Int) (((Option (Br))×Int)⊕(Unit))):=
 if A<((p1).length:Int) then(
  (ix p1 (A)).bind fun K=>
  (f101 fuel K 0 12).bind fun O=>
  if O=true then(
   some (.done (Sum.inl (none,1)))
  ) else(
   (Ax (A+1)).bind fun U=>
   some (.more U)
  )
 ) else(
  some (.done (Sum.inr ()))
 )
def FE(fuel:Nat)(p0:A2)(p1:List Int):Option ((Option (Br))×Int):=
 (HP fuel p0).bind fun A=>
 if A≠0 then(
  some (none,A)
 ) else(
  Option.bind (iter (Io fuel p1) fuel 0) fun K=>
  Sum.elim (fun r=>some r) (fun U=>
  (f92 fuel p0).bind fun O=>
  some (O,0)
  ) K
 )
theorem J9{ac:Ar}{c2:Nat}{ae:Ar}{ag:Nat}{O:Ar}{U:Nat}{p0:A2}{p1:List Int}(aJ:GE E)(aq:Ao (rL rI) E ac c2 (p0.1))(ar:Ao (rL rI) E ae ag (p0.2))(aK:Ao rI E O U (p1)){fuel:Nat}{r:(Option (Br))×Int}(au:FE fuel p0 p1=some r):Aq J 106 [.agg #[.slice ac (p0.1).length c2,.slice ae (p0.2).length ag],.slice O (p1).length U] E [] (fun w E' B'=>∃(av:Value),w= .tuple #[av,iV r.2]∧B'= []∧Hf (rP (rL (rL rI)) (rP (rL (rL rI)) (rA 13 (rN .u16)))) E' av (r.1)):=by
 refine Aq.en func106 rfl rfl fun Q bj cs H aL ah=>?_;unfold FE at au;refine zg 2 rfl ?_;refine JS.box (v:= .agg #[.slice ac (p0.1).length c2,.slice ae (p0.2).length ag]) rfl rfl rfl aL rfl fun ai aM=>?_;refine JS.Ba 1 aM rfl fun bk A aw aN=>?_;refine zg 6 rfl ?_;refine JL.Bj aw (Al underlying24) (Ag type24) rfl rfl ?_;obtain⟨aO,aP,ay⟩:=bs au;refine JS.cl (SX (aJ.mono A) (aq.mono A) (ar.mono A) aP) rfl rfl (Aw func67 rfl) aN ?_;rintro _ aj _ K ⟨rfl,rfl⟩ az;refine zg 7 rfl ?_;refine JL.ifs (p:=aO≠0) rfl (fun ak=>?_) (fun ak=>?_)
 ·have aQ:=ip ay ak;refine zg 6 rfl ?_;obtain rfl:=oi aQ;refine JL.rt func106 rfl rfl ?_;exact ah _ _ _ _ (A.trans K) rfl ⟨.pointer none,rfl,rfl,rfl⟩ az
 ·have aR:=im ay ak;refine zg 5 rfl ?_;refine JL.Y rfl (fun ρ h=>Yl.len rfl underlying28 (h _ _ rfl)) ?_;obtain⟨aA,aS,aB⟩:=bs aR;refine zg 2 rfl ?_;refine JL.join (fun L s=>∃(aC:Unit) (aD:LH),aA=Sum.inr aC∧Jm aj H aD [] [(2,.pointer (some ⟨ai,0,none⟩))] L s) ?_ ?_
  ·rintro _ _ ⟨aC,aD,rfl,rfl,rfl,Z,aT⟩;have aU:=elim_inr aB;refine zg 2 rfl ?_;refine JL.Bj (aw.mono (K.trans Z)) (Al underlying24) (Ag type24) rfl rfl ?_;obtain⟨bl,aV,aW⟩:=bs aU;refine JS.cl (Jg (aq.mono ((A.trans K).trans Z)) (ar.mono ((A.trans K).trans Z)) aV) rfl rfl (Aw func92 rfl) aT ?_;rintro aX bm _ aY ⟨_,rfl,rfl,aZ⟩ a0;refine zg 3 rfl ?_;obtain rfl:=oi aW;refine JL.rt func106 rfl rfl ?_;exact ah _ _ _ _ (((A.trans K).trans Z).trans aY) rfl ⟨aX,rfl,rfl,aZ⟩ a0
  ·intro a1;refine JL.block ?_;refine JL.wk [(2,.pointer (some ⟨ai,0,none⟩)),(14,.slice O (p1).length U),(15,iV ((p1).length:Int)),(16,iV 0)] rfl ?_;refine JL.Bf aS (fun L s al=>∃(am:LH),Jm aj H am [] [(2,.pointer (some ⟨ai,0,none⟩)),(14,.slice O (p1).length U),(15,iV ((p1).length:Int)),(16,iV al)] L s) ⟨aj,rfl,rfl,(Le.refl _),az⟩ ?_;rintro _ _ al ⟨am,rfl,rfl,aa,aE⟩ aF ⟨bn,ab⟩ a2;have an:=ab;unfold Io at an;refine zg 5 rfl ?_;refine JL.ifs (p:=al<((p1).length:Int)) rfl (fun ao=>?_) (fun ao=>?_)
   ·have a3:=ip an ao;obtain⟨bo,a4,a5⟩:=bs a3;refine zg 5 rfl ?_;refine JS.BF (aK.mono ((A.trans K).trans aa)) a4 rfl rfl rfl rfl rfl underlying28 (Ag type3) ?_;rintro bp bq _ rfl a6;refine JL.ld 0 a6 (Al underlying3) rfl rfl rfl ?_;obtain⟨a7,a8,aG⟩:=bs a5;refine zg 5 rfl ?_;refine JS.cl (Gk a8) rfl rfl (Aw func101 rfl) aE ?_;rintro _ a9 _ aH ⟨rfl,rfl⟩ aI;refine JL.done ?_;refine JL.split (t:=a7) rfl (fun ap=>?_) (fun ap=>?_)
    ·have ba:=ip aG ap;refine zg 5 rfl ?_;obtain rfl:=oi ba;obtain rfl:=aF _ ab;have bb:=elim_inl aB;obtain rfl:=oi bb;refine JL.rt func106 rfl rfl ?_;exact ah _ _ _ _ (((A.trans K).trans aa).trans aH) rfl ⟨.pointer none,rfl,rfl,rfl⟩ aI
    ·have bc:=ib aG ap;obtain⟨bd,bf,bg⟩:=bs bc;refine zg 3 rfl ?_;refine JL.Y rfl (fun ρ h=>Yl.A0 (h _ _ rfl) (h _ _ rfl) bf) ?_;refine zg 2 rfl ?_;obtain rfl:=oi bg;exact JL.kw (a2 _ _ bd ⟨a9,rfl,rfl,(aa.trans aH),aI⟩ ab) rfl
   ·have bh:=im an ao;refine JL.exit rfl ?_;obtain rfl:=oi bh;have bi:aA=(Sum.inr ()):=(aF _ ab).symm;exact JL.kw (a1 _ _ ⟨(),am,bi,rfl,rfl,aa,aE⟩) rfl
def Lb(fuel:Nat)(p0:A2)(p1:Int):Option ((List Int)×Int):=
 (FE fuel p0 ([p1]:List Int)).bind fun A=>
 if A.2≠0 then(
  some ([],A.2)
 ) else(
  (A.1).bind fun K=>
  (ix K.2.2 (p1)).bind fun O=>
  (f89 fuel O).bind fun U=>
  some (U,0)
 )
theorem Sw{O:Ar}{c2:Nat}{U:Ar}{Z:Nat}{p0:A2}{p1:Int}(am:GE E)(an:Ao (rL rI) E O c2 (p0.1))(ao:Ao (rL rI) E U Z (p0.2)){fuel:Nat}{r:(List Int)×Int}(ab:Lb fuel p0 p1=some r):Aq J 51 [.agg #[.slice O (p0.1).length c2,.slice U (p0.2).length Z],iV p1] E [] (fun w E' B'=>∃(ac:Ar) (ae:Nat),w= .tuple #[.slice ac (r.1).length ae,iV r.2]∧B'= []∧Ao rI E' ac ae (r.1)):=by
 refine Aq.en func51 rfl rfl fun Q aX cs H ap ag=>?_;unfold Lb at ab;refine zg 2 rfl ?_;refine JS.box (v:= .agg #[.slice O (p0.1).length c2,.slice U (p0.2).length Z]) rfl rfl rfl ap rfl fun aY aq=>?_;refine JS.Ba 1 aq rfl fun aZ A ar au=>?_;refine zg 5 rfl ?_;refine JL.Bj ar (Al underlying24) (Ag type24) rfl rfl ?_;refine zg 1 rfl ?_;refine JS.lit (pp:=rI) [iV p1] [p1] rfl rfl rfl underlying28 (Ag type3) (AO type3) (by decide) rfl rfl rfl ⟨rfl,trivial⟩ au fun a0 a1 av aw=>?_;refine JS.BJ 2 av aw rfl fun a2 K ay az=>?_;obtain⟨aA,aB,ah⟩:=bs ab;refine JS.cl (J9 (am.mono (A.trans K)) (an.mono (A.trans K)) (ao.mono (A.trans K)) ay aB) rfl rfl (Aw func106 rfl) az ?_;rintro _ a3 _ ai ⟨a4,rfl,rfl,aC⟩ aj;refine zg 12 rfl ?_;refine JL.ifs (p:=aA.2≠0) rfl (fun aa=>?_) (fun aa=>?_)
 ·have aD:=ip ah aa;refine zg 6 rfl ?_;obtain rfl:=oi aD;refine JL.rt func51 rfl rfl ?_;exact ag _ _ _ _ ((A.trans K).trans ai) rfl ⟨none,0,rfl,rfl,Ao.nil⟩ aj
 ·have aE:=im ah aa;obtain⟨ak,aF,aG⟩:=bs aE;have al:=aC;refine zg 5 rfl ?_;rw [aF] at al;obtain⟨a5,a6,_,rfl,aH,⟨_,_,rfl,⟨aI,aJ,rfl,a7⟩,⟨_,a8,rfl,⟨aK,aL,rfl,a9⟩,aM⟩⟩⟩:=al;refine zg 1 rfl ?_;refine JL.fd underlying141 (Ag type139) rfl rfl rfl ?_;obtain⟨ba,aN,aO⟩:=bs aG;refine JS.KS (l:= [.slice aI (ak.1).length aJ,.slice aK (ak.2.1).length aL]) aH aM aN rfl rfl rfl rfl rfl underlying139 (Ag type138) ?_;rintro bb _ rfl aP;refine JL.fd underlying138 (Ag type102) rfl rfl rfl ?_;refine JL.ld 0 aP (Al underlying102) rfl rfl rfl ?_;obtain⟨bc,aQ,aR⟩:=bs aO;refine JS.cl (Gp aQ) rfl rfl (Aw func89 rfl) aj ?_;rintro _ bd _ aS ⟨aT,aU,rfl,rfl,aV⟩ aW;refine zg 3 rfl ?_;obtain rfl:=oi aR;refine JL.rt func51 rfl rfl ?_;exact ag _ _ _ _ (((A.trans K).trans ai).trans aS) rfl ⟨aT,aU,rfl,rfl,aV⟩ aW
def HT(fuel:Nat)(p0:A2)(p1:Int)(p2:Int):Option (Bool×Int):=
 (FE fuel p0 ([p1,p2]:List Int)).bind fun A=>
 if A.2≠0 then(
  some (false,A.2)
 ) else(
  (A.1).bind fun K=>
  (f109 fuel K p1 p2).bind fun O=>
  some (O,0)
 )
theorem S2{O:Ar}{c2:Nat}{U:Ar}{Z:Nat}{p0:A2}{p1:Int}{p2:Int}(aj:GE E)(ak:Ao (rL rI) E O c2 (p0.1))(al:Ao (rL rI) E U Z (p0.2)){fuel:Nat}{r:Bool×Int}(ab:HT fuel p0 p1 p2=some r):Aq J 59 [.agg #[.slice O (p0.1).length c2,.slice U (p0.2).length Z],iV p1,iV p2] E [] (fun w E' B'=>w= .tuple #[.bool r.1,iV r.2]∧B'= []):=by
 refine Aq.en func59 rfl rfl fun Q aM cs H am ac=>?_;unfold HT at ab;refine zg 2 rfl ?_;refine JS.box (v:= .agg #[.slice O (p0.1).length c2,.slice U (p0.2).length Z]) rfl rfl rfl am rfl fun aN an=>?_;refine JS.Ba 1 an rfl fun aO A ao ap=>?_;refine zg 5 rfl ?_;refine JL.Bj ao (Al underlying24) (Ag type24) rfl rfl ?_;refine zg 2 rfl ?_;refine JS.lit (pp:=rI) [iV p1,iV p2] [p1,p2] rfl rfl rfl underlying28 (Ag type3) (AO type3) (by decide) rfl rfl rfl ⟨rfl,rfl,trivial⟩ ap fun aP aQ aq ar=>?_;refine JS.BJ 2 aq ar rfl fun aR K au av=>?_;obtain⟨aw,ay,ae⟩:=bs ab;refine JS.cl (J9 (aj.mono (A.trans K)) (ak.mono (A.trans K)) (al.mono (A.trans K)) au ay) rfl rfl (Aw func106 rfl) av ?_;rintro _ aS _ ag ⟨aT,rfl,rfl,az⟩ ah;refine zg 12 rfl ?_;refine JL.ifs (p:=aw.2≠0) rfl (fun aa=>?_) (fun aa=>?_)
 ·have aA:=ip ae aa;refine zg 6 rfl ?_;obtain rfl:=oi aA;refine JL.rt func59 rfl rfl ?_;exact ac _ _ _ _ ((A.trans K).trans ag) rfl ⟨rfl,rfl⟩ ah
 ·have aB:=im ae aa;obtain⟨aU,aC,aD⟩:=bs aB;have ai:=az;refine zg 6 rfl ?_;rw [aC] at ai;obtain⟨aV,aW,_,rfl,aE,⟨_,_,rfl,⟨aX,aY,rfl,aF⟩,⟨_,aZ,rfl,⟨a0,a1,rfl,aG⟩,aH⟩⟩⟩:=ai;obtain⟨a2,aI,aJ⟩:=bs aD;refine JS.cl (Nv aE aF aG aH aI) rfl rfl (Aw func109 rfl) ah ?_;rintro _ a3 _ aK ⟨rfl,rfl⟩ aL;refine zg 3 rfl ?_;obtain rfl:=oi aJ;refine JL.rt func59 rfl rfl ?_;exact ac _ _ _ _ (((A.trans K).trans ag).trans aK) rfl ⟨rfl,rfl⟩ aL
def Kg(fuel:Nat)(p1:Int)(K:Br)(A:Int):Option (A4 (Int) (Int)):=
 (f109 fuel K p1 A).bind fun O=>
 if(!O)=true then(
  (Ax (A+1)).bind fun U=>
  some (.more U)
 ) else(
  some (.done A)
 )
def Hb(fuel:Nat)(p0:A2)(p1:Int):Option (Int×Int):=
 (FE fuel p0 ([p1]:List Int)).bind fun A=>
 if A.2≠0 then(
  some (0,A.2)
 ) else(
  (A.1).bind fun K=>
  Option.bind (iter (Kg fuel p1 K) fuel 0) fun O=>
  some (O,0)
 )
theorem NS{U:Ar}{c2:Nat}{Z:Ar}{aa:Nat}{p0:A2}{p1:Int}(aB:GE E)(aC:Ao (rL rI) E U c2 (p0.1))(aD:Ao (rL rI) E Z aa (p0.2)){fuel:Nat}{r:Int×Int}(ah:Hb fuel p0 p1=some r):Aq J 57 [.agg #[.slice U (p0.1).length c2,.slice Z (p0.2).length aa],iV p1] E [] (fun w E' B'=>w= .tuple #[iV r.1,iV r.2]∧B'= []):=by
 refine Aq.en func57 rfl rfl fun Q bc cs H aE ai=>?_;unfold Hb at ah;refine zg 2 rfl ?_;refine JS.box (v:= .agg #[.slice U (p0.1).length c2,.slice Z (p0.2).length aa]) rfl rfl rfl aE rfl fun bd aF=>?_;refine JS.Ba 1 aF rfl fun bf K aG aH=>?_;refine zg 5 rfl ?_;refine JL.Bj aG (Al underlying24) (Ag type24) rfl rfl ?_;refine zg 1 rfl ?_;refine JS.lit (pp:=rI) [iV p1] [p1] rfl rfl rfl underlying28 (Ag type3) (AO type3) (by decide) rfl rfl rfl ⟨rfl,trivial⟩ aH fun bg bh aI aJ=>?_;refine JS.BJ 2 aI aJ rfl fun bi O aK aL=>?_;obtain⟨aM,aN,aj⟩:=bs ah;refine JS.cl (J9 (aB.mono (K.trans O)) (aC.mono (K.trans O)) (aD.mono (K.trans O)) aK aN) rfl rfl (Aw func106 rfl) aL ?_;rintro _ ab _ ak ⟨bj,rfl,rfl,aO⟩ al;refine zg 12 rfl ?_;refine JL.ifs (p:=aM.2≠0) rfl (fun ac=>?_) (fun ac=>?_)
 ·have aP:=ip aj ac;refine zg 6 rfl ?_;obtain rfl:=oi aP;refine JL.rt func57 rfl rfl ?_;exact ai _ _ _ _ ((K.trans O).trans ak) rfl ⟨rfl,rfl⟩ al
 ·have aQ:=im aj ac;obtain⟨bk,aR,aS⟩:=bs aQ;have am:=aO;refine zg 6 rfl ?_;rw [aR] at am;obtain⟨an,ao,_,rfl,aT,⟨_,_,rfl,⟨bl,bm,rfl,aU⟩,⟨_,bn,rfl,⟨bo,bp,rfl,aV⟩,aW⟩⟩⟩:=am;obtain⟨aX,aY,aZ⟩:=bs aS;refine JL.join (fun L s=>∃(ap:LH),Jm ab H ap [] [(8,iV aX)] L s) ?_ ?_
  ·rintro _ _ ⟨ap,rfl,rfl,a0,a1⟩;refine zg 6 rfl ?_;obtain rfl:=oi aZ;refine JL.rt func57 rfl rfl ?_;exact ai _ _ _ _ (((K.trans O).trans ak).trans a0) rfl ⟨rfl,rfl⟩ a1
  ·intro a2;refine JL.block ?_;refine JL.wk [(1,iV p1),(6,.pointer (some ⟨an,ao,none⟩)),(8,iV 0)] rfl ?_;refine JL.Bf aY (fun L s aq=>∃(ar:LH),Jm ab H ar [] [(1,iV p1),(6,.pointer (some ⟨an,ao,none⟩)),(8,iV aq)] L s) ⟨ab,rfl,rfl,(Le.refl _),al⟩ ?_;rintro _ _ aq ⟨ar,rfl,rfl,A,a3⟩ a4 ⟨bq,ae⟩ a5;have au:=ae;unfold Kg at au;obtain⟨av,a6,aw⟩:=bs au;refine zg 6 rfl ?_;refine JS.cl (Nv (aT.mono A) (aU.mono A) (aV.mono A) (Rp.mono _ A aW) a6) rfl rfl (Aw func109 rfl) a3 ?_;rintro _ ay _ az ⟨rfl,rfl⟩ aA;refine JL.Y (v:= .bool (!av)) rfl (fun ρ h=>Yl.not (h _ _ rfl)) ?_;refine JL.done ?_;refine JL.split (t:=(!av)) rfl (fun ag=>?_) (fun ag=>?_)
   ·have a7:=ip aw ag;obtain⟨a8,a9,ba⟩:=bs a7;refine zg 4 rfl ?_;refine JL.Y rfl (fun ρ h=>Yl.A0 (h _ _ rfl) (h _ _ rfl) a9) ?_;refine zg 3 rfl ?_;obtain rfl:=oi ba;exact JL.kw (a5 _ _ a8 ⟨ay,rfl,rfl,(A.trans az),aA⟩ ae) rfl
   ·have bb:=ib aw ag;refine JL.exit rfl ?_;obtain rfl:=oi bb;obtain rfl:=a4 _ ae;exact JL.kw (a2 _ _ ⟨ay,rfl,rfl,(A.trans az),aA⟩) rfl
end Pal
namespace Pal
open Go Go.Conc Go.Proofs
open Go.Proofs.Tryz
def G7(fuel:Nat)(p0:A2)(p1:AW)(p2:Int)(p3:Bool):Option ((Option (Br))×(Int×(List (By)))×Int):=
 (Gv fuel p0 p1).bind fun K=>
 if K≠0 then(
  some (none,(0,[]),K)
 ) else(
  (Ax (((p1).length:Int) - 1)).bind fun U=>
  (f101 fuel p2 (-1) U).bind fun Z=>
  if Z=true then(
   some (none,(0,[]),3)
  ) else(
   (f92 fuel p0).bind fun aa=>
   (aa).bind fun O=>
   (f93 fuel O p1).bind fun A=>
   Option.bind (
    if((A.2).length:Int)=0 then(
     some (!p3)
    ) else(
     some false
    )
   ) fun ab=>
   if ab=true then(
    some (none,A,11)
   ) else(
    some (some O,A,0)
   )
  )
 )
theorem IN{E:LH}{aj:Ar}{c2:Nat}{ak:Ar}{al:Nat}{ay:Ar}{az:Nat}{p0:A2}{p1:AW}{p2:Int}{p3:Bool}(a7:GE E)(aA:Ao (rL rI) E aj c2 (p0.1))(aB:Ao (rL rI) E ak al (p0.2))(aC:Ao Bv E ay az (p1)){fuel:Nat}{r:(Option (Br))×(Int×(List (By)))×Int}(aD:G7 fuel p0 p1 p2 p3=some r):Aq (Cr Tryz.prog) 78 [.agg #[.slice aj (p0.1).length c2,.slice ak (p0.2).length al],.slice ay (p1).length az,iV p2,.bool p3] E [] (fun w E' B'=>∃(aE:Value) (aF:Ar) (aG:Nat),w= .tuple #[aE,.agg #[iV r.2.1.1,.slice aF (r.2.1.2).length aG],iV r.2.2]∧B'= []∧Hf (rP (rL (rL rI)) (rP (rL (rL rI)) (rA 13 (rN .u16)))) E' aE (r.1)∧Ao Ca E' aF aG (r.2.1.2)):=by
 refine Aq.en func78 rfl rfl fun Q bL cs H a8 ag=>?_;unfold G7 at aD;refine zg 2 rfl ?_;refine JS.box (v:= .agg #[.slice aj (p0.1).length c2,.slice ak (p0.2).length al]) rfl rfl rfl a8 rfl fun bM a9=>?_;refine JS.Ba 1 a9 rfl fun bN K aH ba=>?_;refine zg 1 rfl ?_;refine JS.alloc rfl rfl rfl ba (AO type97) fun aI bb=>?_;refine zg 5 rfl ?_;refine JL.Bj aH (Al underlying24) (Ag type24) rfl rfl ?_;obtain⟨am,bc,aJ⟩:=bs aD;refine zg 1 rfl ?_;refine JS.cl (HA (a7.mono K) (aA.mono K) (aB.mono K) (aC.mono K) bc) rfl rfl (Aw func69 rfl) bb ?_;rintro _ bO _ aa ⟨rfl,rfl⟩ aK;refine zg 7 rfl ?_;refine JL.ifs (p:=am≠0) rfl (fun an=>?_) (fun an=>?_)
 ·have bd:=ip aJ an;refine zg 2 rfl ?_;refine JL.Y (v:= .agg #[iV 0,.slice none 0 0]) rfl (fun ρ h=>Yl.Cb [(0,1),(1,1)] h (AO type97) underlying97 ⟨rfl,Ag type3,rfl,Ag type95,trivial⟩ rfl rfl) ?_;refine zg 2 rfl ?_;refine JS.st (v:= .agg #[iV 0,.slice none 0 0]) (off:=0) 2 aK (Ag type97) rfl rfl rfl rfl fun aL=>?_;refine zg 2 rfl ?_;obtain rfl:=oi bd;refine JL.ret (v:= .tuple #[.pointer none,.agg #[iV 0,.slice none 0 0],iV am]) rfl rfl (Bx.list func78 rfl (vs:= [.pointer none,.agg #[iV 0,.slice none 0 0],iV am]) ⟨rfl,⟨_,rfl,Ld.many (vs:= [iV 0,.slice none 0 0]) (Al underlying97) (Ag type97) (D8 (off:=0) 2 aL rfl rfl)⟩,rfl,trivial⟩) ?_;refine F0 2 aL rfl fun bf=>?_;exact ag _ _ _ _ (K.trans aa) rfl ⟨.pointer none,none,0,rfl,rfl,rfl,Ao.nil⟩ bf
 ·have bg:=im aJ an;refine zg 6 rfl ?_;refine JL.Y rfl (fun ρ h=>Yl.len rfl underlying25 (h _ _ rfl)) ?_;obtain⟨bP,bh,bi⟩:=bs bg;refine JL.Y rfl (fun ρ h=>Yl.Bb (h _ _ rfl) (h _ _ rfl) bh) ?_;obtain⟨bj,bk,aM⟩:=bs bi;refine JS.cl (Gk bk) rfl rfl (Aw func101 rfl) aK ?_;rintro _ bQ _ ac ⟨rfl,rfl⟩ aN;refine JL.done ?_;refine JL.split (t:=bj) rfl (fun ao=>?_) (fun ao=>?_)
  ·have bl:=ip aM ao;refine zg 2 rfl ?_;refine JL.Y (v:= .agg #[iV 0,.slice none 0 0]) rfl (fun ρ h=>Yl.Cb [(0,1),(1,1)] h (AO type97) underlying97 ⟨rfl,Ag type3,rfl,Ag type95,trivial⟩ rfl rfl) ?_;refine zg 1 rfl ?_;refine JS.st (v:= .agg #[iV 0,.slice none 0 0]) (off:=0) 2 aN (Ag type97) rfl rfl rfl rfl fun aO=>?_;refine zg 2 rfl ?_;obtain rfl:=oi bl;refine JL.ret (v:= .tuple #[.pointer none,.agg #[iV 0,.slice none 0 0],iV 3]) rfl rfl (Bx.list func78 rfl (vs:= [.pointer none,.agg #[iV 0,.slice none 0 0],iV 3]) ⟨rfl,⟨_,rfl,Ld.many (vs:= [iV 0,.slice none 0 0]) (Al underlying97) (Ag type97) (D8 (off:=0) 2 aO rfl rfl)⟩,rfl,trivial⟩) ?_;refine F0 2 aO rfl fun bm=>?_;exact ag _ _ _ _ ((K.trans aa).trans ac) rfl ⟨.pointer none,none,0,rfl,rfl,rfl,Ao.nil⟩ bm
  ·have bn:=ib aM ao;refine zg 3 rfl ?_;refine JL.Bj (aH.mono (aa.trans ac)) (Al underlying24) (Ag type24) rfl rfl ?_;obtain⟨bR,bo,bp⟩:=bs bn;refine JS.cl (Jg (aA.mono ((K.trans aa).trans ac)) (aB.mono ((K.trans aa).trans ac)) bo) rfl rfl (Aw func92 rfl) aN ?_;rintro bS bT _ ap ⟨_,rfl,rfl,bq⟩ br;obtain⟨aq,bu,bv⟩:=bs bp;have aP:=bq;refine zg 6 rfl ?_;rw [bu] at aP;obtain⟨ah,ai,_,rfl,aQ,⟨_,_,rfl,⟨bw,bx,rfl,aR⟩,⟨_,aS,rfl,⟨aT,aU,rfl,aV⟩,aW⟩⟩⟩:=aP;obtain⟨A,bz,bA⟩:=bs bv;refine JS.cl (Jf aQ aR aV aW (aC.mono (((K.trans aa).trans ac).trans ap)) bz) rfl rfl (Aw func93 rfl) br ?_;rintro _ bU _ ae ⟨O,U,rfl,rfl,aX⟩ bB;refine JS.alloc rfl rfl rfl bB (AO type97) fun bC bD=>?_;refine JS.st (v:= .agg #[iV A.1,.slice O (A.2).length U]) (off:=0) 7 bD (Ag type97) rfl rfl rfl rfl fun bE=>?_;refine JS.Ba 7 bE rfl fun ar ab au aY=>?_;refine zg 4 rfl ?_;refine JL.fd underlying97 (Ag type95) rfl rfl rfl ?_;refine JL.ld 1 au (Al underlying95) rfl rfl rfl ?_;refine JL.Y rfl (fun ρ h=>Yl.len rfl underlying95 (h _ _ rfl)) ?_;obtain⟨aZ,a0,a1⟩:=bs bA;refine zg 2 rfl ?_;refine JL.BI [] (fun L s=>∃(a2:LH),Jm ar H a2 [[(aI,.cells #[iV 0,.slice none 0 0] 97 (0,0))]] [(9,.pointer (some ⟨aI,0,none⟩)),(12,.pointer (some ⟨ah,ai,none⟩)),(13,.pointer (some ⟨bC,0,none⟩)),(39,.bool aZ)] L s) ?_ ?_
   ·rintro _ _ ⟨a2,rfl,rfl,Z,a3⟩;refine JL.done ?_;refine JL.split (t:=aZ) rfl (fun av=>?_) (fun av=>?_)
    ·have bF:=ip a1 av;refine JL.seq ?_;refine JG.Co 2 mixed rfl (by decide+kernel) fun ht=>?_;refine JG.Bj 0 ht (au.mono Z) (Al underlying97) (Ag type97) rfl rfl rfl ?_;refine JG.mv 1 ht rfl rfl ?_;refine Av.leaf (tail:= [2,3]) (by decide+kernel) (fun t=>A1 (by decide+kernel) (A1 (by decide+kernel) BM) t) ?_;refine JS.st (v:= .agg #[iV A.1,.slice O (A.2).length U]) (off:=0) 0 a3 (Ag type97) rfl rfl rfl rfl fun a4=>?_;refine zg 2 rfl ?_;obtain rfl:=oi bF;refine JL.ret (v:= .tuple #[.pointer none,.agg #[iV A.1,.slice O (A.2).length U],iV 11]) rfl rfl (Bx.list func78 rfl (vs:= [.pointer none,.agg #[iV A.1,.slice O (A.2).length U],iV 11]) ⟨rfl,⟨_,rfl,Ld.many (vs:= [iV A.1,.slice O (A.2).length U]) (Al underlying97) (Ag type97) (D8 (off:=0) 0 a4 rfl rfl)⟩,rfl,trivial⟩) ?_;refine F0 0 a4 rfl fun bG=>?_;exact ag _ _ _ _ ((((((K.trans aa).trans ac).trans ap).trans ae).trans ab).trans Z) rfl ⟨.pointer none,O,U,rfl,rfl,rfl,(aX.mono (ab.trans Z))⟩ bG
    ·have bH:=ib a1 av;refine zg 2 rfl ?_;refine JG.Co 3 mixed rfl (by decide+kernel) fun ht=>?_;refine JG.mv 0 ht rfl rfl ?_;refine JG.Bj 1 ht (au.mono Z) (Al underlying97) (Ag type97) rfl rfl rfl ?_;refine JG.mv 2 ht rfl rfl ?_;refine Av.leaf (tail:= [3,4]) (by decide+kernel) (fun t=>A1 (by decide+kernel) (A1 (by decide+kernel) BM) t) ?_;refine JS.st (v:= .agg #[iV A.1,.slice O (A.2).length U]) (off:=0) 0 a3 (Ag type97) rfl rfl rfl rfl fun a5=>?_;refine zg 2 rfl ?_;obtain rfl:=oi bH;refine JL.ret (v:= .tuple #[.pointer (some ⟨ah,ai,none⟩),.agg #[iV A.1,.slice O (A.2).length U],iV 0]) rfl rfl (Bx.list func78 rfl (vs:= [.pointer (some ⟨ah,ai,none⟩),.agg #[iV A.1,.slice O (A.2).length U],iV 0]) ⟨rfl,⟨_,rfl,Ld.many (vs:= [iV A.1,.slice O (A.2).length U]) (Al underlying97) (Ag type97) (D8 (off:=0) 0 a5 rfl rfl)⟩,rfl,trivial⟩) ?_;refine F0 0 a5 rfl fun bI=>?_;exact ag _ _ _ _ ((((((K.trans aa).trans ac).trans ap).trans ae).trans ab).trans Z) rfl ⟨.pointer (some ⟨ah,ai,none⟩),O,U,rfl,rfl,⟨_,_,_,rfl,(aQ.mono ((ae.trans ab).trans Z)),⟨[.slice bw (aq.1).length bx],(([.slice aT (aq.2.1).length aU]:List Value)++aS),rfl,⟨_,_,rfl,(aR.mono ((ae.trans ab).trans Z))⟩,⟨[.slice aT (aq.2.1).length aU],aS,rfl,⟨_,_,rfl,(aV.mono ((ae.trans ab).trans Z))⟩,(Rp.mono _ ((ae.trans ab).trans Z) aW)⟩⟩⟩,(aX.mono (ab.trans Z))⟩ bI
   ·intro a6;refine JL.BW (q:=((A.2).length:Int)=0) (i:=36) rfl (fun aw=>?_) (fun aw=>?_)
    ·have bJ:=ip a0 aw;refine zg 1 rfl ?_;refine JL.Y (v:= .bool (!p3)) rfl (fun ρ h=>Yl.not (h _ _ rfl)) ?_;refine zg 1 rfl ?_;obtain rfl:=oi bJ;exact JL.kw (a6 _ _ ⟨ar,rfl,rfl,(Le.refl _),aY⟩) rfl
    ·have bK:=im a0 aw;refine zg 3 rfl ?_;obtain rfl:=oi bK;exact JL.kw (a6 _ _ ⟨ar,rfl,rfl,(Le.refl _),aY⟩) rfl
def Lc(fuel:Nat)(p0:A2)(p1:AW):Option (Int×Int):=
 (G7 fuel p0 p1 (-1) true).bind fun A=>
 some (((A.2.1.2).length:Int),A.2.2)
theorem S7{E:LH}{K:Ar}{c2:Nat}{O:Ar}{U:Nat}{Z:Ar}{aa:Nat}{p0:A2}{p1:AW}(ae:GE E)(ag:Ao (rL rI) E K c2 (p0.1))(ah:Ao (rL rI) E O U (p0.2))(ai:Ao Bv E Z aa (p1)){fuel:Nat}{r:Int×Int}(ab:Lc fuel p0 p1=some r):Aq (Cr Tryz.prog) 28 [.agg #[.slice K (p0.1).length c2,.slice O (p0.2).length U],.slice Z (p1).length aa] E [] (fun w E' B'=>w= .tuple #[iV r.1,iV r.2]∧B'= []):=by
 refine Aq.en func28 rfl rfl fun Q aC cs H aj ak=>?_;unfold Lc at ab;refine zg 2 rfl ?_;refine JS.box (v:= .agg #[.slice K (p0.1).length c2,.slice O (p0.2).length U]) rfl rfl rfl aj rfl fun aD al=>?_;refine JS.Ba 1 al rfl fun aE A am an=>?_;refine zg 5 rfl ?_;refine JL.Bj am (Al underlying24) (Ag type24) rfl rfl ?_;obtain⟨ac,ao,ap⟩:=bs ab;refine zg 1 rfl ?_;refine JS.cl (IN (ae.mono A) (ag.mono A) (ah.mono A) (ai.mono A) ao) rfl rfl (Aw func78 rfl) an ?_;rintro _ aF _ aq ⟨aG,ar,au,rfl,rfl,aH,aI⟩ av;refine zg 4 rfl ?_;refine JS.alloc rfl rfl rfl av (AO type97) fun aJ aw=>?_;refine zg 1 rfl ?_;refine JS.st (v:= .agg #[iV ac.2.1.1,.slice ar (ac.2.1.2).length au]) (off:=0) 3 aw (Ag type97) rfl rfl rfl rfl fun ay=>?_;refine JS.Ba 3 ay rfl fun aK az aA aB=>?_;refine zg 4 rfl ?_;refine JL.fd underlying97 (Ag type95) rfl rfl rfl ?_;refine JL.ld 1 aA (Al underlying95) rfl rfl rfl ?_;refine JL.Y rfl (fun ρ h=>Yl.len rfl underlying95 (h _ _ rfl)) ?_;refine zg 4 rfl ?_;obtain rfl:=oi ap;refine JL.rt func28 rfl rfl ?_;exact ak _ _ _ _ ((A.trans aq).trans az) rfl ⟨rfl,rfl⟩ aB
def Lh(fuel:Nat)(p0:A2)(p1:AW):Option (Int×(List Int)×Int):=
 (G7 fuel p0 p1 (-1) false).bind fun A=>
 if A.2.2≠0 then(
  some (0,[],A.2.2)
 ) else(
  (ix A.2.1.2 (0)).bind fun K=>
  (ix A.2.1.2 (0)).bind fun O=>
  some (K.1,O.2.1,0)
 )
theorem SW{E:LH}{O:Ar}{c2:Nat}{U:Ar}{Z:Nat}{ac:Ar}{ae:Nat}{p0:A2}{p1:AW}(ap:GE E)(aq:Ao (rL rI) E O c2 (p0.1))(ar:Ao (rL rI) E U Z (p0.2))(au:Ao Bv E ac ae (p1)){fuel:Nat}{r:Int×(List Int)×Int}(ag:Lh fuel p0 p1=some r):Aq (Cr Tryz.prog) 30 [.agg #[.slice O (p0.1).length c2,.slice U (p0.2).length Z],.slice ac (p1).length ae] E [] (fun w E' B'=>∃(ah:Ar) (ai:Nat),w= .tuple #[iV r.1,.slice ah (r.2.1).length ai,iV r.2.2]∧B'= []∧Ao rI E' ah ai (r.2.1)):=by
 refine Aq.en func30 rfl rfl fun Q aR cs H av aj=>?_;unfold Lh at ag;refine zg 2 rfl ?_;refine JS.box (v:= .agg #[.slice O (p0.1).length c2,.slice U (p0.2).length Z]) rfl rfl rfl av rfl fun aS aw=>?_;refine JS.Ba 1 aw rfl fun aT A ay az=>?_;refine zg 6 rfl ?_;refine JL.Bj ay (Al underlying24) (Ag type24) rfl rfl ?_;obtain⟨aa,aA,ak⟩:=bs ag;refine zg 1 rfl ?_;refine JS.cl (IN (ap.mono A) (aq.mono A) (ar.mono A) (au.mono A) aA) rfl rfl (Aw func78 rfl) az ?_;rintro _ aU _ al ⟨aV,aB,aC,rfl,rfl,aW,am⟩ aD;refine zg 4 rfl ?_;refine JS.alloc rfl rfl rfl aD (AO type97) fun aX aE=>?_;refine zg 1 rfl ?_;refine JS.st (v:= .agg #[iV aa.2.1.1,.slice aB (aa.2.1.2).length aC]) (off:=0) 3 aE (Ag type97) rfl rfl rfl rfl fun aF=>?_;refine JS.Ba 3 aF rfl fun aY K an ao=>?_;refine zg 8 rfl ?_;refine JL.ifs (p:=aa.2.2≠0) rfl (fun ab=>?_) (fun ab=>?_)
 ·have aG:=ip ak ab;refine zg 7 rfl ?_;obtain rfl:=oi aG;refine JL.rt func30 rfl rfl ?_;exact aj _ _ _ _ ((A.trans al).trans K) rfl ⟨none,0,rfl,rfl,Ao.nil⟩ ao
 ·have aH:=im ak ab;refine zg 2 rfl ?_;refine JG.Co 11 mixed rfl (by decide+kernel) fun ht=>?_;refine JG.fd 0 ht underlying97 (Ag type95) rfl rfl rfl rfl ?_;refine JG.ld 1 ht 1 an (Al underlying95) rfl rfl rfl rfl ?_;obtain⟨aZ,aI,aJ⟩:=bs aH;refine JG.idx 2 (am.mono K) aI rfl ht (by decide+kernel) rfl rfl rfl rfl rfl underlying95 (Ag type104) ?_;rintro a0 a1 _ ⟨_,_,rfl,rfl,⟨_,_,rfl,⟨a2,a3,rfl,a4⟩,rfl⟩⟩ aK;refine JG.fd 3 ht underlying104 (Ag type3) rfl rfl rfl rfl ?_;refine JG.ld 4 ht 0 aK (Al underlying3) rfl rfl rfl rfl ?_;refine JG.fd 5 ht underlying97 (Ag type95) rfl rfl rfl rfl ?_;refine JG.ld 6 ht 1 an (Al underlying95) rfl rfl rfl rfl ?_;obtain⟨a5,aL,aM⟩:=bs aJ;refine JG.idx 7 (am.mono K) aL rfl ht (by decide+kernel) rfl rfl rfl rfl rfl underlying95 (Ag type104) ?_;rintro a6 a7 _ ⟨_,_,rfl,rfl,⟨_,_,rfl,⟨aN,aO,rfl,aP⟩,rfl⟩⟩ aQ;refine JG.fd 8 ht underlying104 (Ag type28) rfl rfl rfl rfl ?_;refine JG.ld 9 ht 1 aQ (Al underlying28) rfl rfl rfl rfl ?_;refine JG.mv 10 ht rfl rfl ?_;refine Av.leaf (tail:= [11,12]) (by decide+kernel) (fun t=>A1 (by decide+kernel) (A1 (by decide+kernel) BM) t) ?_;refine zg 3 rfl ?_;obtain rfl:=oi aM;refine JL.rt func30 rfl rfl ?_;exact aj _ _ _ _ ((A.trans al).trans K) rfl ⟨aN,aO,rfl,rfl,aP⟩ ao
def MN(fuel:Nat)(p2:Int)(K:(List (A3)))(A:(List Int)×Int):Option (A4 ((List Int)×Int) ((List Int))):=
 if A.2<((K).length:Int) then(
  (ix K (A.2)).bind fun O=>
  Option.bind (
   if O.2.1≤p2 then(
    (room A.1 O.1).bind fun U=>
    some U
   ) else(
    some A.1
   )
  ) fun Z=>
  (Ax (A.2+1)).bind fun aa=>
  some (.more (Z,aa))
 ) else(
  some (.done A.1)
 )
def K1(fuel:Nat)(p0:A2)(p1:AW)(p2:Int):Option ((List Int)×Int):=
 (Gv fuel p0 p1).bind fun A=>
 if A≠0 then(
  some ([],A)
 ) else(
  (f101 fuel p2 0 4).bind fun O=>
  if O=true then(
   some ([],1)
  ) else(
   (f92 fuel p0).bind fun U=>
   (U).bind fun Z=>
   (IM fuel Z p1).bind fun aa=>
   Option.bind (iter (MN fuel p2 aa) fuel ([],0)) fun K=>
   if((K).length:Int)=0 then(
    some ([],11)
   ) else(
    some (K,0)
   )
  )
 )
theorem S9{E:LH}{ao:Ar}{c2:Nat}{ap:Ar}{aq:Nat}{aN:Ar}{aO:Nat}{p0:A2}{p1:AW}{p2:Int}(ba:GE E)(aP:Ao (rL rI) E ao c2 (p0.1))(aQ:Ao (rL rI) E ap aq (p0.2))(aR:Ao Bv E aN aO (p1)){fuel:Nat}{r:(List Int)×Int}(aS:K1 fuel p0 p1 p2=some r):Aq (Cr Tryz.prog) 43 [.agg #[.slice ao (p0.1).length c2,.slice ap (p0.2).length aq],.slice aN (p1).length aO,iV p2] E [] (fun w E' B'=>∃(aT:Ar) (aU:Nat),w= .tuple #[.slice aT (r.1).length aU,iV r.2]∧B'= []∧Ao rI E' aT aU (r.1)):=by
 refine Aq.en func43 rfl rfl fun Q ce cs H bb ag=>?_;unfold K1 at aS;refine zg 2 rfl ?_;refine JS.box (v:= .agg #[.slice ao (p0.1).length c2,.slice ap (p0.2).length aq]) rfl rfl rfl bb rfl fun cf bc=>?_;refine JS.Ba 1 bc rfl fun cg A aV bd=>?_;refine zg 6 rfl ?_;refine JL.Bj aV (Al underlying24) (Ag type24) rfl rfl ?_;obtain⟨bf,bg,aW⟩:=bs aS;refine zg 1 rfl ?_;refine JS.cl (HA (ba.mono A) (aP.mono A) (aQ.mono A) (aR.mono A) bg) rfl rfl (Aw func69 rfl) bd ?_;rintro _ ci _ K ⟨rfl,rfl⟩ aX;refine zg 7 rfl ?_;refine JL.ifs (p:=bf≠0) rfl (fun ar=>?_) (fun ar=>?_)
 ·have bh:=ip aW ar;refine zg 6 rfl ?_;obtain rfl:=oi bh;refine JL.rt func43 rfl rfl ?_;exact ag _ _ _ _ (A.trans K) rfl ⟨none,0,rfl,rfl,Ao.nil⟩ aX
 ·have bi:=im aW ar;obtain⟨bj,bk,aY⟩:=bs bi;refine zg 5 rfl ?_;refine JS.cl (Gk bk) rfl rfl (Aw func101 rfl) aX ?_;rintro _ ck _ O ⟨rfl,rfl⟩ aZ;refine JL.done ?_;refine JL.split (t:=bj) rfl (fun au=>?_) (fun au=>?_)
  ·have bl:=ip aY au;refine zg 5 rfl ?_;obtain rfl:=oi bl;refine JL.rt func43 rfl rfl ?_;exact ag _ _ _ _ ((A.trans K).trans O) rfl ⟨none,0,rfl,rfl,Ao.nil⟩ aZ
  ·have bm:=ib aY au;refine zg 8 rfl ?_;refine JL.Bj (aV.mono (K.trans O)) (Al underlying24) (Ag type24) rfl rfl ?_;obtain⟨cm,bn,bo⟩:=bs bm;refine JS.cl (Jg (aP.mono ((A.trans K).trans O)) (aQ.mono ((A.trans K).trans O)) bn) rfl rfl (Aw func92 rfl) aZ ?_;rintro cn co _ av ⟨_,rfl,rfl,bp⟩ bq;obtain⟨cp,br,bu⟩:=bs bo;have a0:=bp;refine zg 1 rfl ?_;rw [br] at a0;obtain⟨cq,cr,_,rfl,bv,⟨_,_,rfl,⟨ct,cu,rfl,bw⟩,⟨_,cv,rfl,⟨cw,cy,rfl,bx⟩,bz⟩⟩⟩:=a0;obtain⟨U,bA,bB⟩:=bs bu;refine JS.cl (Mm bv bw bx bz (aR.mono (((A.trans K).trans O).trans av)) bA) rfl rfl (Aw func102 rfl) bq ?_;rintro _ aw _ a1 ⟨ay,az,rfl,rfl,bC⟩ bD;refine JL.Y rfl (fun ρ h=>Yl.len rfl underlying130 (h _ _ rfl)) ?_;obtain⟨aA,bE,a2⟩:=bs bB;refine zg 2 rfl ?_;refine JL.join (fun L s=>∃(aB:LH) (ah:Ar) (ai:Nat) (aC:Seg),Jn aw H aB [aC] [(9,.slice ah (aA).length ai)] L s (OL 3 rI aB ah ai aC (aA))) ?_ ?_
   ·rintro _ _ ⟨aB,ah,ai,aC,rfl,rfl,a3,a4,bF⟩;refine zg 4 rfl ?_;refine JL.Y rfl (fun ρ h=>Yl.len rfl underlying28 (h _ _ rfl)) ?_;refine zg 2 rfl ?_;refine JL.ifs (p:=((aA).length:Int)=0) rfl (fun aD=>?_) (fun aD=>?_)
    ·have bG:=ip a2 aD;refine zg 5 rfl ?_;refine JS.drop 0 a4 rfl fun bH=>?_;obtain rfl:=oi bG;refine JL.rt func43 rfl rfl ?_;exact ag _ _ _ _ (((((A.trans K).trans O).trans av).trans a1).trans a3) rfl ⟨none,0,rfl,rfl,Ao.nil⟩ bH
    ·have bI:=im a2 aD;refine zg 7 rfl ?_;refine JS.BJ 0 bF a4 rfl fun cz bJ bK bL=>?_;obtain rfl:=oi bI;refine JL.rt func43 rfl rfl ?_;exact ag _ _ _ _ ((((((A.trans K).trans O).trans av).trans a1).trans a3).trans bJ) rfl ⟨ah,ai,rfl,rfl,bK⟩ bL
   ·intro bM;refine JL.block ?_;refine JL.wk [(2,iV p2),(9,.slice none 0 0),(23,.slice ay (U).length az),(24,iV ((U).length:Int)),(25,iV 0)] rfl ?_;refine JL.Bf bE (fun L s Z=>∃(aj:LH) (aa:Ar) (ab:Nat) (ac:Seg),Jn aw H aj [ac] [(2,iV p2),(9,.slice aa (Z.1).length ab),(23,.slice ay (U).length az),(24,iV ((U).length:Int)),(25,iV Z.2)] L s (OL 3 rI aj aa ab ac (Z.1))) ⟨aw,none,0,[],rfl,rfl,(Le.refl _),bD,OL.nil⟩ ?_;rintro _ _ Z ⟨aj,aa,ab,ac,rfl,rfl,aE,a5,aF⟩ bN ⟨cA,aG⟩ bO;have aH:=aG;unfold MN at aH;refine zg 5 rfl ?_;refine JL.ifs (p:=Z.2<((U).length:Int)) rfl (fun aI=>?_) (fun aI=>?_)
    ·have bP:=ip aH aI;obtain⟨ae,bQ,bR⟩:=bs bP;refine zg 5 rfl ?_;refine JS.BF (bC.mono aE) bQ rfl rfl rfl rfl rfl underlying130 (Ag type133) ?_;rintro cB cC _ ⟨_,_,rfl,rfl,⟨_,_,rfl,rfl,⟨bS,bT,rfl,cD⟩⟩⟩ bU;refine JL.Bj bU (Al underlying133) (Ag type133) rfl rfl ?_;refine JS.alloc rfl rfl rfl a5 (AO type133) fun cE bV=>?_;refine JS.st (v:= .agg #[iV ae.1,iV ae.2.1,.slice bS (ae.2.2).length bT]) (off:=0) 1 bV (Ag type133) rfl rfl rfl rfl fun bW=>?_;refine JS.Ba 1 bW rfl fun aJ aK a6 a7=>?_;refine zg 3 rfl ?_;refine JL.fd underlying133 (Ag type97) rfl rfl rfl ?_;refine JL.fd underlying97 (Ag type3) rfl rfl rfl ?_;refine JL.ld 1 a6 (Al underlying3) rfl rfl rfl ?_;obtain⟨aL,a8,bX⟩:=bs bR;refine zg 3 rfl ?_;refine JL.join (fun L s=>∃(ak:LH) (al:Ar) (am:Nat) (an:Seg),Jn aJ H ak [an] [(2,iV p2),(9,.slice al (aL).length am),(23,.slice ay (U).length az),(24,iV ((U).length:Int)),(25,iV Z.2)] L s (OL 3 rI ak al am an (aL))) ?_ ?_
     ·rintro _ _ ⟨ak,al,am,an,rfl,rfl,bY,bZ,b0⟩;obtain⟨b1,b2,b3⟩:=bs bX;refine zg 2 rfl ?_;refine JL.Y rfl (fun ρ h=>Yl.A0 (h _ _ rfl) (h _ _ rfl) b2) ?_;refine zg 2 rfl ?_;obtain rfl:=oi b3;exact JL.kw (bO _ _ (aL,b1) ⟨ak,al,am,an,rfl,rfl,((aE.trans aK).trans bY),bZ,b0⟩ aG) rfl
     ·intro a9;refine JL.ifs (p:=ae.2.1≤p2) rfl (fun aM=>?_) (fun aM=>?_)
      ·have b4:=ip a8 aM;refine zg 2 rfl ?_;refine JL.fd underlying133 (Ag type3) rfl rfl rfl ?_;refine JL.ld 0 a6 (Al underlying3) rfl rfl rfl ?_;obtain⟨cF,b5,b6⟩:=bs b4;refine JS.app (pp:=rI) (v:=iV ae.1) (a:=aa) (c:=ab) 0 b5 rfl rfl rfl rfl (fun _=>rfl) rfl (fun _=>rfl) rfl rfl rfl underlying28 underlying28 underlying28 (Ag type3) (Cs type3) (AO type3) rfl (by decide) (by decide) (by decide) (by decide) (aF.mono aK) rfl a7 rfl fun cG b7 b8 b9 ca cb=>?_;refine zg 2 rfl ?_;obtain rfl:=oi b6;exact JL.kw (a9 _ _ ⟨aJ,b7,b8,b9,rfl,rfl,(Le.refl _),cb,ca⟩) rfl
      ·have cc:=im a8 aM;refine JL.skip ?_;obtain rfl:=oi cc;exact JL.kw (a9 _ _ ⟨aJ,aa,ab,ac,rfl,rfl,(Le.refl _),a7,(aF.mono aK)⟩) rfl
    ·have cd:=im aH aI;refine JL.exit rfl ?_;obtain rfl:=oi cd;obtain rfl:=bN _ aG;exact JL.kw (bM _ _ ⟨aj,aa,ab,ac,rfl,rfl,aE,a5,aF⟩) rfl
end Pal
namespace Pal
open Go Go.Conc Go.Proofs
open Go.Proofs.Tryz
def M4(fuel:Nat)(p2:Int)(K:(Option (Br))×(Int×(List (By)))×Int)(A:Int×Int):Option (A4 (Int×Int) (Int)):=
 if A.2<((K.2.1.2).length:Int) then(
  (ix K.2.1.2 (A.2)).bind fun O=>
  (f103 fuel O.2.2 p2).bind fun U=>
  Option.bind (
   if U=true then(
    (Ax (A.1+1)).bind fun Z=>
    some Z
   ) else(
    some A.1
   )
  ) fun aa=>
  (Ax (A.2+1)).bind fun ab=>
  some (.more (aa,ab))
 ) else(
  some (.done A.1)
 )
def Lf(fuel:Nat)(p0:A2)(p1:AW)(p2:Int):Option (Int×Int):=
 (Gv fuel p0 p1).bind fun O=>
 if O≠0 then(
  some (0,O)
 ) else(
  (Ax (((p1).length:Int) - 1)).bind fun U=>
  (f101 fuel p2 0 U).bind fun Z=>
  if Z=true then(
   some (0,3)
  ) else(
   (G7 fuel p0 p1 p2 false).bind fun A=>
   if A.2.2≠0 then(
    some (0,A.2.2)
   ) else(
    Option.bind (iter (M4 fuel p2 A) fuel (0,0)) fun K=>
    Option.bind (
     Option.bind (
      Option.bind (
       if 0<K then(
        some (decide (K<((A.2.1.2).length:Int)))
       ) else(
        some false
       )
      ) fun aa=>
      if aa=true then(
       (Ax (0+1)).bind fun ab=>
       (Ax (ab+1)).bind fun ac=>
       some ac
      ) else(
       if K=0 then(
        (Ax (0+1)).bind fun ae=>
        some ae
       ) else(
        some 0
       )
      )
     ) fun ag=>
     (Ax (ag+1)).bind fun ah=>
     some ah
    ) fun ai=>
    some (ai,0)
   )
  )
 )
theorem SF{E:LH}{aj:Ar}{c2:Nat}{ak:Ar}{al:Nat}{aK:Ar}{aL:Nat}{p0:A2}{p1:AW}{p2:Int}(aM:GE E)(aN:Ao (rL rI) E aj c2 (p0.1))(aO:Ao (rL rI) E ak al (p0.2))(aP:Ao Bv E aK aL (p1)){fuel:Nat}{r:Int×Int}(aQ:Lf fuel p0 p1 p2=some r):Aq (Cr Tryz.prog) 49 [.agg #[.slice aj (p0.1).length c2,.slice ak (p0.2).length al],.slice aK (p1).length aL,iV p2] E [] (fun w E' B'=>w= .tuple #[iV r.1,iV r.2]∧B'= []):=by
 refine Aq.en func49 rfl rfl fun Q cz cs H bd ac=>?_;unfold Lf at aQ;refine zg 2 rfl ?_;refine JS.box (v:= .agg #[.slice aj (p0.1).length c2,.slice ak (p0.2).length al]) rfl rfl rfl bd rfl fun cA bf=>?_;refine JS.Ba 1 bf rfl fun cB A aR bg=>?_;refine zg 6 rfl ?_;refine JL.Bj aR (Al underlying24) (Ag type24) rfl rfl ?_;obtain⟨bh,bi,aS⟩:=bs aQ;refine zg 1 rfl ?_;refine JS.cl (HA (aM.mono A) (aN.mono A) (aO.mono A) (aP.mono A) bi) rfl rfl (Aw func69 rfl) bg ?_;rintro _ cC _ O ⟨rfl,rfl⟩ aT;refine zg 7 rfl ?_;refine JL.ifs (p:=bh≠0) rfl (fun am=>?_) (fun am=>?_)
 ·have bj:=ip aS am;refine zg 6 rfl ?_;obtain rfl:=oi bj;refine JL.rt func49 rfl rfl ?_;exact ac _ _ _ _ (A.trans O) rfl ⟨rfl,rfl⟩ aT
 ·have bk:=im aS am;refine zg 6 rfl ?_;refine JL.Y rfl (fun ρ h=>Yl.len rfl underlying25 (h _ _ rfl)) ?_;obtain⟨cD,bl,bm⟩:=bs bk;refine JL.Y rfl (fun ρ h=>Yl.Bb (h _ _ rfl) (h _ _ rfl) bl) ?_;obtain⟨bn,bo,aU⟩:=bs bm;refine JS.cl (Gk bo) rfl rfl (Aw func101 rfl) aT ?_;rintro _ cE _ U ⟨rfl,rfl⟩ aV;refine JL.done ?_;refine JL.split (t:=bn) rfl (fun an=>?_) (fun an=>?_)
  ·have bp:=ip aU an;refine zg 5 rfl ?_;obtain rfl:=oi bp;refine JL.rt func49 rfl rfl ?_;exact ac _ _ _ _ ((A.trans O).trans U) rfl ⟨rfl,rfl⟩ aV
  ·have bq:=ib aU an;refine zg 3 rfl ?_;refine JL.Bj (aR.mono (O.trans U)) (Al underlying24) (Ag type24) rfl rfl ?_;obtain⟨K,br,aW⟩:=bs bq;refine zg 2 rfl ?_;refine JS.cl (IN (aM.mono ((A.trans O).trans U)) (aN.mono ((A.trans O).trans U)) (aO.mono ((A.trans O).trans U)) (aP.mono ((A.trans O).trans U)) br) rfl rfl (Aw func78 rfl) aV ?_;rintro _ cF _ aX ⟨cG,ae,ag,rfl,rfl,cH,bu⟩ bv;refine zg 4 rfl ?_;refine JS.alloc rfl rfl rfl bv (AO type97) fun ah bw=>?_;refine zg 1 rfl ?_;refine JS.st (v:= .agg #[iV K.2.1.1,.slice ae (K.2.1.2).length ag]) (off:=0) 5 bw (Ag type97) rfl rfl rfl rfl fun bx=>?_;refine JS.Ba 5 bx rfl fun ao ap aY aZ=>?_;refine zg 8 rfl ?_;refine JL.ifs (p:=K.2.2≠0) rfl (fun aq=>?_) (fun aq=>?_)
   ·have bz:=ip aW aq;refine zg 6 rfl ?_;obtain rfl:=oi bz;refine JL.rt func49 rfl rfl ?_;exact ac _ _ _ _ ((((A.trans O).trans U).trans aX).trans ap) rfl ⟨rfl,rfl⟩ aZ
   ·have bA:=im aW aq;refine zg 8 rfl ?_;refine JL.fd underlying97 (Ag type95) rfl rfl rfl ?_;refine JL.ld 1 aY (Al underlying95) rfl rfl rfl ?_;refine JL.Y rfl (fun ρ h=>Yl.len rfl underlying95 (h _ _ rfl)) ?_;obtain⟨ai,bB,bC⟩:=bs bA;refine zg 2 rfl ?_;refine JL.join (fun L s=>∃(Z:LH),Jm ao H Z [] [(10,.pointer (some ⟨ah,0,none⟩)),(12,iV ai)] L s) ?_ ?_
    ·rintro _ _ ⟨Z,rfl,rfl,a0,a1⟩;obtain⟨bD,bE,bF⟩:=bs bC;refine zg 5 rfl ?_;refine JL.join (fun L s=>∃(a2:LH),Jm Z H a2 [] [(15,iV bD)] L s) ?_ ?_
     ·rintro _ _ ⟨a2,rfl,rfl,bG,bH⟩;refine zg 6 rfl ?_;obtain rfl:=oi bF;refine JL.rt func49 rfl rfl ?_;exact ac _ _ _ _ ((((((A.trans O).trans U).trans aX).trans ap).trans a0).trans bG) rfl ⟨rfl,rfl⟩ bH
     ·intro bI;obtain⟨bJ,bK,bL⟩:=bs bE;refine zg 2 rfl ?_;refine JL.join (fun L s=>∃(ar:LH),Jm Z H ar [] [(15,iV bJ)] L s) ?_ ?_
      ·rintro _ _ ⟨ar,rfl,rfl,bM,bN⟩;obtain⟨cI,bO,bP⟩:=bs bL;refine zg 3 rfl ?_;refine JL.Y rfl (fun ρ h=>Yl.A0 (h _ _ rfl) (h _ _ rfl) bO) ?_;refine zg 3 rfl ?_;obtain rfl:=oi bP;exact JL.kw (bI _ _ ⟨ar,rfl,rfl,bM,bN⟩) rfl
      ·intro au;obtain⟨a3,a4,a5⟩:=bs bK;refine zg 12 rfl ?_;refine JL.BI [9] (fun L s=>∃(aa:LH),Jm Z H aa [] [(12,iV ai),(15,iV 0),(61,.bool a3)] L s) ?_ ?_
       ·rintro _ _ ⟨aa,rfl,rfl,av,aw⟩;refine zg 2 rfl ?_;refine JL.split (t:=a3) rfl (fun ay=>?_) (fun ay=>?_)
        ·have bQ:=ip a5 ay;obtain⟨cJ,bR,bS⟩:=bs bQ;refine zg 3 rfl ?_;refine JL.Y rfl (fun ρ h=>Yl.A0 (h _ _ rfl) (h _ _ rfl) bR) ?_;obtain⟨cK,bT,bU⟩:=bs bS;refine zg 5 rfl ?_;refine JL.Y rfl (fun ρ h=>Yl.A0 (h _ _ rfl) (h _ _ rfl) bT) ?_;refine zg 3 rfl ?_;obtain rfl:=oi bU;exact JL.kw (au _ _ ⟨aa,rfl,rfl,av,aw⟩) rfl
        ·have a6:=ib a5 ay;refine zg 7 rfl ?_;refine JL.ifs (p:=ai=0) rfl (fun az=>?_) (fun az=>?_)
         ·have bV:=ip a6 az;obtain⟨cM,bW,bX⟩:=bs bV;refine zg 3 rfl ?_;refine JL.Y rfl (fun ρ h=>Yl.A0 (h _ _ rfl) (h _ _ rfl) bW) ?_;refine zg 3 rfl ?_;obtain rfl:=oi bX;exact JL.kw (au _ _ ⟨aa,rfl,rfl,av,aw⟩) rfl
         ·have bY:=im a6 az;refine zg 2 rfl ?_;obtain rfl:=oi bY;exact JL.kw (au _ _ ⟨aa,rfl,rfl,av,aw⟩) rfl
       ·intro a7;refine JL.BW (q:=0<ai) (i:=55) rfl (fun aA=>?_) (fun aA=>?_)
        ·have bZ:=ip a4 aA;refine zg 1 rfl ?_;refine JL.fd underlying97 (Ag type95) rfl rfl rfl ?_;refine JL.ld 1 (aY.mono a0) (Al underlying95) rfl rfl rfl ?_;refine JL.Y rfl (fun ρ h=>Yl.len rfl underlying95 (h _ _ rfl)) ?_;refine zg 2 rfl ?_;obtain rfl:=oi bZ;exact JL.kw (a7 _ _ ⟨Z,rfl,rfl,(Le.refl _),a1⟩) rfl
        ·have b0:=im a4 aA;refine zg 6 rfl ?_;obtain rfl:=oi b0;exact JL.kw (a7 _ _ ⟨Z,rfl,rfl,(Le.refl _),a1⟩) rfl
    ·intro b1;refine JL.block ?_;refine JL.wk [(2,iV p2),(10,.pointer (some ⟨ah,0,none⟩)),(12,iV 0),(39,.slice ae (K.2.1.2).length ag),(40,iV ((K.2.1.2).length:Int)),(41,iV 0)] rfl ?_;refine JL.Bf bB (fun L s ab=>∃(aB:LH),Jm ao H aB [] [(2,iV p2),(10,.pointer (some ⟨ah,0,none⟩)),(12,iV ab.1),(39,.slice ae (K.2.1.2).length ag),(40,iV ((K.2.1.2).length:Int)),(41,iV ab.2)] L s) ⟨ao,rfl,rfl,(Le.refl _),aZ⟩ ?_;rintro _ _ ab ⟨aB,rfl,rfl,aC,a8⟩ b2 ⟨cN,aD⟩ b3;have aE:=aD;unfold M4 at aE;refine zg 5 rfl ?_;refine JL.ifs (p:=ab.2<((K.2.1.2).length:Int)) rfl (fun aF=>?_) (fun aF=>?_)
     ·have b4:=ip aE aF;obtain⟨aG,b5,b6⟩:=bs b4;refine zg 5 rfl ?_;refine JS.BF (bu.mono (ap.trans aC)) b5 rfl rfl rfl rfl rfl underlying95 (Ag type104) ?_;rintro cO cP _ ⟨_,_,rfl,rfl,⟨_,_,rfl,⟨b7,b8,rfl,cQ⟩,rfl⟩⟩ b9;refine JL.Bj b9 (Al underlying104) (Ag type104) rfl rfl ?_;refine JS.alloc rfl rfl rfl a8 (AO type104) fun cR ca=>?_;refine JS.st (v:= .agg #[iV aG.1,.slice b7 (aG.2.1).length b8,.int .u16 ((aG.2.2:Nat):Int)]) (off:=0) 0 ca (Ag type104) rfl rfl rfl rfl fun cb=>?_;refine JS.Ba 0 cb rfl fun cT cc cd ce=>?_;refine zg 3 rfl ?_;refine JL.fd underlying104 (Ag type102) rfl rfl rfl ?_;refine JL.ld 2 cd (Al underlying102) rfl rfl rfl ?_;obtain⟨cf,cg,ci⟩:=bs b6;refine zg 1 rfl ?_;refine JS.cl (Kp cg) rfl rfl (Aw func103 rfl) ce ?_;rintro _ aH _ ck ⟨rfl,rfl⟩ a9;obtain⟨ba,bb,cm⟩:=bs ci;refine JL.done ?_;refine JL.join (fun L s=>∃(aI:LH),Jm aH H aI [] [(2,iV p2),(10,.pointer (some ⟨ah,0,none⟩)),(12,iV ba),(39,.slice ae (K.2.1.2).length ag),(40,iV ((K.2.1.2).length:Int)),(41,iV ab.2)] L s) ?_ ?_
      ·rintro _ _ ⟨aI,rfl,rfl,cn,co⟩;obtain⟨cp,cq,cr⟩:=bs cm;refine zg 2 rfl ?_;refine JL.Y rfl (fun ρ h=>Yl.A0 (h _ _ rfl) (h _ _ rfl) cq) ?_;refine zg 2 rfl ?_;obtain rfl:=oi cr;exact JL.kw (b3 _ _ (ba,cp) ⟨aI,rfl,rfl,(((aC.trans cc).trans ck).trans cn),co⟩ aD) rfl
      ·intro bc;refine JL.split (t:=cf) rfl (fun aJ=>?_) (fun aJ=>?_)
       ·have ct:=ip bb aJ;obtain⟨cV,cu,cv⟩:=bs ct;refine zg 2 rfl ?_;refine JL.Y rfl (fun ρ h=>Yl.A0 (h _ _ rfl) (h _ _ rfl) cu) ?_;refine zg 2 rfl ?_;obtain rfl:=oi cv;exact JL.kw (bc _ _ ⟨aH,rfl,rfl,(Le.refl _),a9⟩) rfl
       ·have cw:=ib bb aJ;refine JL.skip ?_;obtain rfl:=oi cw;exact JL.kw (bc _ _ ⟨aH,rfl,rfl,(Le.refl _),a9⟩) rfl
     ·have cy:=im aE aF;refine JL.exit rfl ?_;obtain rfl:=oi cy;obtain rfl:=b2 _ aD;exact JL.kw (b1 _ _ ⟨aB,rfl,rfl,aC,a8⟩) rfl
def MX(fuel:Nat)(U:By)(O:(List Int))(A:(List Nat)×Int):Option (A4 ((List Nat)×Int) ((List Nat))):=
 if A.2<((O).length:Int) then(
  (ix O (A.2)).bind fun K=>
  (ix A.1 (K)).bind fun Z=>
  (f90 fuel Z U.1).bind fun aa=>
  (ix A.1 (K)).bind fun ac=>
  (Ax (A.2+1)).bind fun ab=>
  some (.more ((A.1.set (Int.toNat K) aa),ab))
 ) else(
  some (.done A.1)
 )
def MY(fuel:Nat)(K:(Option (Br))×(Int×(List (By)))×Int)(U:Br)(Z:Int×Int×Int)(A:(List Nat)×Int):Option (A4 ((List Nat)×Int) ((List Nat))):=
 if A.2<((K.2.1.2).length:Int) then(
  (ix K.2.1.2 (A.2)).bind fun O=>
  (f88 fuel U O Z.2.2).bind fun aa=>
  (f89 fuel aa).bind fun ab=>
  Option.bind (iter (MX fuel O ab) fuel (A.1,0)) fun ac=>
  (Ax (A.2+1)).bind fun ae=>
  some (.more (ac,ae))
 ) else(
  some (.done A.1)
 )
def M1(fuel:Nat)(K:(List Nat))(A:Int×Int):Option (A4 (Int×Int) (Int)):=
 if A.2<8 then(
  (ix K (A.2)).bind fun O=>
  (f85 fuel O).bind fun U=>
  (Ax (A.2+1)).bind fun Z=>
  some (.more (max (A.1) (U),Z))
 ) else(
  some (.done A.1)
 )
def M6(fuel:Nat)(U:(Option (Br))×(Int×(List (By)))×Int)(Z:Br)(A:Int×Int×Int):Option (A4 (Int×Int×Int) (Int×Int)):=
 if A.2.2<7 then(
  Option.bind (iter (MY fuel U Z A) fuel ((List.replicate 8 (0:Nat)),0)) fun aa=>
  Option.bind (iter (M1 fuel aa) fuel (0,0)) fun K=>
  Option.bind (
   if K<A.2.1 then(
    some (A.2.2,K)
   ) else(
    some (A.1,A.2.1)
   )
  ) fun O=>
  (Ax (A.2.2+1)).bind fun ab=>
  some (.more (O.1,O.2,ab))
 ) else(
  some (.done (A.1,A.2.1))
 )
def KZ(fuel:Nat)(p0:A2)(p1:AW):Option (Int×Int×Int):=
 (G7 fuel p0 p1 (-1) false).bind fun A=>
 if A.2.2≠0 then(
  some (0,0,A.2.2)
 ) else(
  (f87 fuel A.2.1.2).bind fun O=>
  (f85 fuel O).bind fun U=>
  (A.1).bind fun Z=>
  Option.bind (iter (M6 fuel A Z) fuel ((-1),U,0)) fun K=>
  if K.1<0 then(
   some (0,0,11)
  ) else(
   some (K.1,K.2,0)
  )
 )
theorem Sm{E:LH}{aM:Ar}{c2:Nat}{aN:Ar}{aO:Nat}{bg:Ar}{bh:Nat}{p0:A2}{p1:AW}(bQ:GE E)(bR:Ao (rL rI) E aM c2 (p0.1))(bS:Ao (rL rI) E aN aO (p0.2))(bT:Ao Bv E bg bh (p1)){fuel:Nat}{r:Int×Int×Int}(bi:KZ fuel p0 p1=some r):Aq (Cr Tryz.prog) 35 [.agg #[.slice aM (p0.1).length c2,.slice aN (p0.2).length aO],.slice bg (p1).length bh] E [] (fun w E' B'=>w= .tuple #[iV r.1,iV r.2.1,iV r.2.2]∧B'= []):=by
 refine Aq.en func35 rfl rfl fun Q dV cs H bU aP=>?_;unfold KZ at bi;refine zg 2 rfl ?_;refine JS.box (v:= .agg #[.slice aM (p0.1).length c2,.slice aN (p0.2).length aO]) rfl rfl rfl bU rfl fun dW bV=>?_;refine JS.Ba 1 bV rfl fun dX ac bW bX=>?_;refine zg 6 rfl ?_;refine JL.Bj bW (Al underlying24) (Ag type24) rfl rfl ?_;obtain⟨K,bY,bj⟩:=bs bi;refine zg 1 rfl ?_;refine JS.cl (IN (bQ.mono ac) (bR.mono ac) (bS.mono ac) (bT.mono ac) bY) rfl rfl (Aw func78 rfl) bX ?_;rintro _ dY _ aQ ⟨dZ,ak,al,rfl,rfl,bZ,bk⟩ b0;refine zg 4 rfl ?_;refine JS.alloc rfl rfl rfl b0 (AO type97) fun U b1=>?_;refine zg 1 rfl ?_;refine JS.st (v:= .agg #[iV K.2.1.1,.slice ak (K.2.1.2).length al]) (off:=0) 3 b1 (Ag type97) rfl rfl rfl rfl fun b2=>?_;refine JS.Ba 3 b2 rfl fun ea am bl bm=>?_;refine zg 8 rfl ?_;refine JL.ifs (p:=K.2.2≠0) rfl (fun aR=>?_) (fun aR=>?_)
 ·have b3:=ip bj aR;refine zg 7 rfl ?_;obtain rfl:=oi b3;refine JL.rt func35 rfl rfl ?_;exact aP _ _ _ _ ((ac.trans aQ).trans am) rfl ⟨rfl,rfl⟩ bm
 ·have b4:=im bj aR;refine zg 8 rfl ?_;refine JL.fd underlying97 (Ag type95) rfl rfl rfl ?_;refine JL.ld 1 bl (Al underlying95) rfl rfl rfl ?_;obtain⟨b5,b6,b7⟩:=bs b4;refine JS.cl (T4 (bk.mono am) b6) rfl rfl (Aw func87 rfl) bm ?_;rintro _ eb _ aw ⟨rfl,rfl⟩ b8;obtain⟨b9,ca,cb⟩:=bs b7;refine JS.Gr (vs:= [.int .u16 ((b5:Nat):Int)]) (Ol ca) rfl rfl rfl rfl (Aw func85 rfl) rfl b8 ?_;rintro _ aS _ ay ⟨rfl,rfl⟩ cc;obtain⟨ec,cd,ce⟩:=bs cb;have bn:=(bZ.mono ((am.trans aw).trans ay));refine zg 11 rfl ?_;rw [cd] at bn;obtain⟨Z,aa,_,rfl,cf,⟨_,_,rfl,⟨ed,ee,rfl,cg⟩,⟨_,ef,rfl,⟨eg,eh,rfl,ci⟩,ck⟩⟩⟩:=bn;obtain⟨aT,cm,bo⟩:=bs ce;refine JL.join (fun L s=>∃(bp:LH),Jm aS H bp [] [(4,iV aT.1),(10,iV aT.2)] L s) ?_ ?_
  ·rintro _ _ ⟨bp,rfl,rfl,bq,br⟩;refine zg 6 rfl ?_;refine JL.ifs (p:=aT.1<0) rfl (fun aU=>?_) (fun aU=>?_)
   ·have cn:=ip bo aU;refine zg 6 rfl ?_;obtain rfl:=oi cn;refine JL.rt func35 rfl rfl ?_;exact aP _ _ _ _ (((((ac.trans aQ).trans am).trans aw).trans ay).trans bq) rfl ⟨rfl,rfl⟩ br
   ·have co:=im bo aU;refine zg 9 rfl ?_;obtain rfl:=oi co;refine JL.rt func35 rfl rfl ?_;exact aP _ _ _ _ (((((ac.trans aQ).trans am).trans aw).trans ay).trans bq) rfl ⟨rfl,rfl⟩ br
  ·intro cp;refine JL.block ?_;refine JL.wk [(4,iV (-1)),(7,.pointer (some ⟨Z,aa,none⟩)),(8,.pointer (some ⟨U,0,none⟩)),(9,(.func (.func 85) #[] #[])),(10,iV b9),(35,iV 0)] rfl ?_;refine JL.Bf cm (fun L s A=>∃(ae:LH),Jm aS H ae [] [(4,iV A.1),(7,.pointer (some ⟨Z,aa,none⟩)),(8,.pointer (some ⟨U,0,none⟩)),(9,(.func (.func 85) #[] #[])),(10,iV A.2.1),(35,iV A.2.2)] L s) ⟨aS,rfl,rfl,(Le.refl _),cc⟩ ?_;rintro _ _ A ⟨ae,rfl,rfl,ab,bu⟩ cq ⟨ei,aV⟩ cr;have aW:=aV;unfold M6 at aW;refine zg 5 rfl ?_;refine JL.ifs (p:=A.2.2<7) rfl (fun aX=>?_) (fun aX=>?_)
   ·have ct:=ip aW aX;refine zg 10 rfl ?_;refine JS.alloc rfl rfl rfl bu (AO type114) fun O cu=>?_;refine zg 4 rfl ?_;refine JL.fd underlying97 (Ag type95) rfl rfl rfl ?_;refine JL.ld 1 (bl.mono ((aw.trans ay).trans ab)) (Al underlying95) rfl rfl rfl ?_;refine JL.Y rfl (fun ρ h=>Yl.len rfl underlying95 (h _ _ rfl)) ?_;obtain⟨cv,cw,cy⟩:=bs ct;refine zg 2 rfl ?_;refine JL.join (fun L s=>∃(an:LH) (ao:List Value),Jn ae H an [[(O,.cells (([]:List Value)++ao).toArray 114 (0,0))]] [(4,iV A.1),(7,.pointer (some ⟨Z,aa,none⟩)),(8,.pointer (some ⟨U,0,none⟩)),(9,(.func (.func 85) #[] #[])),(10,iV A.2.1),(11,iV A.2.2),(12,.pointer (some ⟨O,0,none⟩)),(35,iV A.2.2)] L s ((rA 8 (rN .u16)).r an ao (cv))) ?_ ?_
    ·rintro _ _ ⟨an,ao,rfl,rfl,cz,bv,bw⟩;refine zg 7 rfl ?_;refine JL.Y (v:= .agg ao.toArray) rfl (fun ρ h=>Yl.HM (kk:=8) (pp:=(rN .u16)) bw (Al underlying114) (Ag type114) (h _ _ rfl) (Ik (l:= []) 0 bv rfl)) ?_;obtain⟨bx,cA,cB⟩:=bs cy;refine zg 2 rfl ?_;refine JL.join (fun L s=>∃(az:LH),Jm an H az [] [(4,iV A.1),(7,.pointer (some ⟨Z,aa,none⟩)),(8,.pointer (some ⟨U,0,none⟩)),(9,(.func (.func 85) #[] #[])),(10,iV A.2.1),(11,iV A.2.2),(17,iV bx),(35,iV A.2.2)] L s) ?_ ?_
     ·rintro _ _ ⟨az,rfl,rfl,cC,bz⟩;obtain⟨aE,bA,cD⟩:=bs cB;refine zg 6 rfl ?_;refine JL.join (fun L s=>∃(aY:LH),Jm az H aY [] [(4,iV aE.1),(7,.pointer (some ⟨Z,aa,none⟩)),(8,.pointer (some ⟨U,0,none⟩)),(9,(.func (.func 85) #[] #[])),(10,iV aE.2),(35,iV A.2.2)] L s) ?_ ?_
      ·rintro _ _ ⟨aY,rfl,rfl,cE,cF⟩;obtain⟨cG,cH,cI⟩:=bs cD;refine zg 2 rfl ?_;refine JL.Y rfl (fun ρ h=>Yl.A0 (h _ _ rfl) (h _ _ rfl) cH) ?_;refine zg 2 rfl ?_;obtain rfl:=oi cI;exact JL.kw (cr _ _ (aE.1,aE.2,cG) ⟨aY,rfl,rfl,(((ab.trans cz).trans cC).trans cE),cF⟩ aV) rfl
      ·intro bB;refine JL.ifs (p:=bx<A.2.1) rfl (fun aZ=>?_) (fun aZ=>?_)
       ·have cJ:=ip bA aZ;refine zg 6 rfl ?_;obtain rfl:=oi cJ;exact JL.kw (bB _ _ ⟨az,rfl,rfl,(Le.refl _),bz⟩) rfl
       ·have cK:=im bA aZ;refine JL.skip ?_;obtain rfl:=oi cK;exact JL.kw (bB _ _ ⟨az,rfl,rfl,(Le.refl _),bz⟩) rfl
     ·intro cM;refine JL.block ?_;refine JS.drop 0 bv rfl fun cN=>?_;refine JL.wk [(4,iV A.1),(7,.pointer (some ⟨Z,aa,none⟩)),(8,.pointer (some ⟨U,0,none⟩)),(9,(.func (.func 85) #[] #[])),(10,iV A.2.1),(11,iV A.2.2),(17,iV 0),(35,iV A.2.2),(65,.agg ao.toArray),(66,iV 0)] rfl ?_;refine JL.Bf cA (fun L s ap=>∃(a0:LH),Jm an H a0 [] [(4,iV A.1),(7,.pointer (some ⟨Z,aa,none⟩)),(8,.pointer (some ⟨U,0,none⟩)),(9,(.func (.func 85) #[] #[])),(10,iV A.2.1),(11,iV A.2.2),(17,iV ap.1),(35,iV A.2.2),(65,.agg ao.toArray),(66,iV ap.2)] L s) ⟨an,rfl,rfl,(Le.refl _),cN⟩ ?_;rintro _ _ ap ⟨a0,rfl,rfl,a1,bC⟩ cO ⟨ej,a2⟩ cP;have a3:=a2;unfold M1 at a3;refine zg 5 rfl ?_;refine JL.ifs (p:=ap.2<8) rfl (fun a4=>?_) (fun a4=>?_)
      ·have cQ:=ip a3 a4;obtain⟨cR,cT,cV⟩:=bs cQ;refine zg 5 rfl ?_;refine JS.UB (Rp.mono _ a1 bw) cT rfl rfl rfl rfl rfl underlying114 (Ag type102) (Al underlying102) ?_ (fun _=>rfl);rintro _ rfl;obtain⟨bD,cW,cX⟩:=bs cV;refine zg 6 rfl ?_;refine JS.Gr (vs:= [.int .u16 ((cR:Nat):Int)]) (Ol cW) rfl rfl rfl rfl (Aw func85 rfl) rfl bC ?_;rintro _ cY _ cZ ⟨rfl,rfl⟩ c0;refine JL.Y (v:=iV (max (ap.1) (bD))) rfl (fun ρ h=>Yl.max2 (h _ _ rfl) (h _ _ rfl)) ?_;obtain⟨c1,c3,c4⟩:=bs cX;refine zg 4 rfl ?_;refine JL.Y rfl (fun ρ h=>Yl.A0 (h _ _ rfl) (h _ _ rfl) c3) ?_;refine zg 2 rfl ?_;obtain rfl:=oi c4;exact JL.kw (cP _ _ (max (ap.1) (bD),c1) ⟨cY,rfl,rfl,(a1.trans cZ),c0⟩ a2) rfl
      ·have c5:=im a3 a4;refine JL.exit rfl ?_;obtain rfl:=oi c5;obtain rfl:=cO _ a2;exact JL.kw (cM _ _ ⟨a0,rfl,rfl,a1,bC⟩) rfl
    ·intro c6;refine JL.block ?_;refine JL.wk [(4,iV A.1),(7,.pointer (some ⟨Z,aa,none⟩)),(8,.pointer (some ⟨U,0,none⟩)),(9,(.func (.func 85) #[] #[])),(10,iV A.2.1),(11,iV A.2.2),(12,.pointer (some ⟨O,0,none⟩)),(35,iV A.2.2),(39,.slice ak (K.2.1.2).length al),(40,iV ((K.2.1.2).length:Int)),(41,iV 0)] rfl ?_;refine JL.Bf cw (fun L s ag=>∃(aF:LH) (aA:List Value),Jn ae H aF [[(O,.cells (([]:List Value)++aA).toArray 114 (0,0))]] [(4,iV A.1),(7,.pointer (some ⟨Z,aa,none⟩)),(8,.pointer (some ⟨U,0,none⟩)),(9,(.func (.func 85) #[] #[])),(10,iV A.2.1),(11,iV A.2.2),(12,.pointer (some ⟨O,0,none⟩)),(35,iV A.2.2),(39,.slice ak (K.2.1.2).length al),(40,iV ((K.2.1.2).length:Int)),(41,iV ag.2)] L s ((rA 8 (rN .u16)).r aF aA (ag.1))) ⟨ae,(List.replicate 8 (.int .u16 ((0:Nat):Int)):List Value),rfl,rfl,(Le.refl _),cu,(GY (E:=ae) (pp:=(rN .u16)) rfl)⟩ ?_;rintro _ _ ag ⟨aF,aA,rfl,rfl,ah,bE,bF⟩ c7 ⟨ek,a5⟩ c8;have a6:=a5;unfold MY at a6;refine zg 5 rfl ?_;refine JL.ifs (p:=ag.2<((K.2.1.2).length:Int)) rfl (fun a7=>?_) (fun a7=>?_)
     ·have c9:=ip a6 a7;obtain⟨aB,da,db⟩:=bs c9;refine zg 5 rfl ?_;refine JS.BF (bk.mono ((((am.trans aw).trans ay).trans ab).trans ah)) da rfl rfl rfl rfl rfl underlying95 (Ag type104) ?_;rintro el em _ ⟨_,_,rfl,rfl,⟨_,_,rfl,⟨dc,dd,rfl,de⟩,rfl⟩⟩ df;refine JL.Bj df (Al underlying104) (Ag type104) rfl rfl ?_;refine JS.alloc rfl rfl rfl bE (AO type104) fun bG dg=>?_;refine JS.st (v:= .agg #[iV aB.1,.slice dc (aB.2.1).length dd,.int .u16 ((aB.2.2:Nat):Int)]) (off:=0) 1 dg (Ag type104) rfl rfl rfl rfl fun dh=>?_;refine JS.Ba 1 dh rfl fun eo ai bH di=>?_;refine zg 4 rfl ?_;refine JL.Bj bH (Al underlying104) (Ag type104) rfl rfl ?_;obtain⟨ep,dj,dk⟩:=bs db;refine zg 1 rfl ?_;refine JS.cl (TP (cf.mono ((ab.trans ah).trans ai)) (cg.mono ((ab.trans ah).trans ai)) (ci.mono ((ab.trans ah).trans ai)) (Rp.mono _ ((ab.trans ah).trans ai) ck) (de.mono ai) dj) rfl rfl (Aw func88 rfl) di ?_;rintro _ eq _ a8 ⟨rfl,rfl⟩ dl;obtain⟨aC,dm,dn⟩:=bs dk;refine JS.cl (Gp dm) rfl rfl (Aw func89 rfl) dl ?_;rintro _ a9 _ ba ⟨bI,bJ,rfl,rfl,dp⟩ dq;refine JL.Y rfl (fun ρ h=>Yl.len rfl underlying28 (h _ _ rfl)) ?_;obtain⟨bK,dr,dt⟩:=bs dn;refine zg 2 rfl ?_;refine JL.join (fun L s=>∃(aG:LH) (aH:List Value),Jn a9 H aG [[(O,.cells (([]:List Value)++aH).toArray 114 (0,0))]] [(4,iV A.1),(7,.pointer (some ⟨Z,aa,none⟩)),(8,.pointer (some ⟨U,0,none⟩)),(9,(.func (.func 85) #[] #[])),(10,iV A.2.1),(11,iV A.2.2),(12,.pointer (some ⟨O,0,none⟩)),(35,iV A.2.2),(39,.slice ak (K.2.1.2).length al),(40,iV ((K.2.1.2).length:Int)),(41,iV ag.2)] L s ((rA 8 (rN .u16)).r aG aH (bK))) ?_ ?_
      ·rintro _ _ ⟨aG,aH,rfl,rfl,du,dv,dw⟩;obtain⟨dx,dy,dz⟩:=bs dt;refine zg 2 rfl ?_;refine JL.Y rfl (fun ρ h=>Yl.A0 (h _ _ rfl) (h _ _ rfl) dy) ?_;refine zg 2 rfl ?_;obtain rfl:=oi dz;exact JL.kw (c8 _ _ (bK,dx) ⟨aG,aH,rfl,rfl,((((ah.trans ai).trans a8).trans ba).trans du),dv,dw⟩ a5) rfl
      ·intro dA;refine JL.block ?_;refine JL.wk [(4,iV A.1),(7,.pointer (some ⟨Z,aa,none⟩)),(8,.pointer (some ⟨U,0,none⟩)),(9,(.func (.func 85) #[] #[])),(10,iV A.2.1),(11,iV A.2.2),(12,.pointer (some ⟨O,0,none⟩)),(14,.pointer (some ⟨bG,0,none⟩)),(35,iV A.2.2),(39,.slice ak (K.2.1.2).length al),(40,iV ((K.2.1.2).length:Int)),(41,iV ag.2),(49,.slice bI (aC).length bJ),(50,iV ((aC).length:Int)),(51,iV 0)] rfl ?_;refine JL.Bf dr (fun L s aq=>∃(aI:LH) (ar:List Value),Jn a9 H aI [[(O,.cells (([]:List Value)++ar).toArray 114 (0,0))]] [(4,iV A.1),(7,.pointer (some ⟨Z,aa,none⟩)),(8,.pointer (some ⟨U,0,none⟩)),(9,(.func (.func 85) #[] #[])),(10,iV A.2.1),(11,iV A.2.2),(12,.pointer (some ⟨O,0,none⟩)),(14,.pointer (some ⟨bG,0,none⟩)),(35,iV A.2.2),(39,.slice ak (K.2.1.2).length al),(40,iV ((K.2.1.2).length:Int)),(41,iV ag.2),(49,.slice bI (aC).length bJ),(50,iV ((aC).length:Int)),(51,iV aq.2)] L s ((rA 8 (rN .u16)).r aI ar (aq.1))) ⟨a9,aA,rfl,rfl,(Le.refl _),dq,(Rp.mono _ ((ai.trans a8).trans ba) bF)⟩ ?_;rintro _ _ aq ⟨aI,ar,rfl,rfl,aJ,aD,au⟩ dB ⟨er,bb⟩ dC;have bc:=bb;unfold MX at bc;refine zg 5 rfl ?_;refine JL.ifs (p:=aq.2<((aC).length:Int)) rfl (fun bd=>?_) (fun bd=>?_)
       ·have dD:=ip bc bd;obtain⟨av,dE,dF⟩:=bs dD;refine zg 5 rfl ?_;refine JS.BF (dp.mono aJ) dE rfl rfl rfl rfl rfl underlying28 (Ag type3) ?_;rintro et eu _ rfl dG;refine JL.ld 0 dG (Al underlying3) rfl rfl rfl ?_;refine zg 2 rfl ?_;refine JG.Ce 7 [O] ⟨⟨0,_,rfl⟩,trivial⟩ aD mixed rfl (by decide+kernel) fun ht=>?_;refine JG.ms ht rfl [0,1] rfl ?_;obtain⟨bL,bM,dH⟩:=bs dF;obtain⟨_,rfl,_,_,dI⟩:=FV (kk:=8) (pp:=(rN .u16)) au bM;refine JG.V (v:= .pointer (some ⟨O,0+Int.toNat (av)*1,none⟩)) 2 ht rfl rfl (fun ρ h s' hs=>Yl.G3 (kk:=8) (pp:=(rN .u16)) au bM underlying114 (Ag type102) (h _ _ rfl) (h _ _ rfl)) ?_;refine JG.V (v:= .int .u16 ((bL:Nat):Int)) 3 ht rfl rfl (fun ρ h s' hs=>Yl.load (Al underlying102) (h _ _ rfl) (PW (l:= []) 0 aD rfl (by simp [AH]) hs (dI 0 _ rfl))) ?_;refine JG.fd 4 ht underlying104 (Ag type3) rfl rfl rfl rfl ?_;refine JG.V (v:=iV aB.1) 5 ht rfl rfl (fun ρ h s' hs=>Yl.load (Al underlying3) (h _ _ rfl) (At.CO (j:=0) (bH.mono ((a8.trans ba).trans aJ)) (CM aD hs ⟨⟨0,_,rfl⟩,trivial⟩) rfl)) ?_;obtain⟨aj,dJ,dK⟩:=bs dH;refine JG.Jl (i:=6) ⟨⟨0,_,rfl⟩,trivial⟩ (vs:= [.int .u16 ((bL:Nat):Int),iV aB.1]) (Jh dJ) (by decide+kernel) rfl rfl rfl (Aw func90 rfl) rfl aD ?_;rintro _ bN _ aK ⟨rfl,rfl⟩ dL;refine Av.leaf (tail:= [7,8]) (by decide+kernel) (fun t=>A1 (by decide+kernel) (A1 (by decide+kernel) BM) t) ?_;obtain⟨ew,bf,dM⟩:=bs dK;obtain⟨_,rfl,_,_,ex⟩:=FV (kk:=8) (pp:=(rN .u16)) (Rp.mono _ aK au) bf;refine JL.Y (v:= .pointer (some ⟨O,0+Int.toNat (av)*1,none⟩)) rfl (fun ρ h=>Yl.G3 (kk:=8) (pp:=(rN .u16)) (Rp.mono _ aK au) bf underlying114 (Ag type102) (h _ _ rfl) (h _ _ rfl)) ?_;have aL:=Kj (us:= [.int .u16 ((aj:Nat):Int)]) (y:=aj) (Rp.mono _ aK au) bf rfl;refine JS.HB (v:= .int .u16 ((aj:Nat):Int)) (l:= []) (ws:=ar) (us:= [.int .u16 ((aj:Nat):Int)]) (o:=Int.toNat (av)*1) 0 rfl rfl rfl dL rfl rfl rfl (Ag type102) (by simp [Value.cells,BB]) rfl aL.2 fun bO=>?_;replace aL:=aL.1;generalize dN:Fo ar (Int.toNat (av)*1) [.int .u16 ((aj:Nat):Int)]=bP at bO ⊢;have dO:(rA 8 (rN .u16)).r bN bP (aq.1.set (Int.toNat av) aj):=by rw [← dN];exact aL
        obtain⟨dP,dQ,dR⟩:=bs dM;refine zg 3 rfl ?_;refine JL.Y rfl (fun ρ h=>Yl.A0 (h _ _ rfl) (h _ _ rfl) dQ) ?_;refine zg 2 rfl ?_;obtain rfl:=oi dR;exact JL.kw (dC _ _ ((aq.1.set (Int.toNat av) aj),dP) ⟨bN,bP,rfl,rfl,(aJ.trans aK),bO,dO⟩ bb) rfl
       ·have dS:=im bc bd;refine JL.exit rfl ?_;obtain rfl:=oi dS;obtain rfl:=dB _ bb;exact JL.kw (dA _ _ ⟨aI,ar,rfl,rfl,aJ,aD,au⟩) rfl
     ·have dT:=im a6 a7;refine JL.exit rfl ?_;obtain rfl:=oi dT;obtain rfl:=c7 _ a5;exact JL.kw (c6 _ _ ⟨aF,aA,rfl,rfl,ah,bE,bF⟩) rfl
   ·have dU:=im aW aX;refine JL.exit rfl ?_;obtain rfl:=oi dU;obtain rfl:=cq _ aV;exact JL.kw (cp _ _ ⟨ae,rfl,rfl,ab,bu⟩) rfl
def KX(fuel:Nat)(p0:A2)(p1:AW)(p2:AW):Option (Bool×Int):=
 (Gv fuel p0 p1).bind fun K=>
 if K≠0 then(
  some (false,K)
 ) else(
  (Gv fuel p0 p2).bind fun O=>
  if O≠0 then(
   some (false,O)
  ) else(
   (f92 fuel p0).bind fun ab=>
   (ab).bind fun A=>
   (f93 fuel A p1).bind fun U=>
   (f93 fuel A p2).bind fun Z=>
   Option.bind (
    if((U.2).length:Int)=0 then(
     some true
    ) else(
     some (decide (((Z.2).length:Int)=0))
    )
   ) fun ac=>
   if ac=true then(
    some (false,0)
   ) else(
    (f94 fuel p1 p2).bind fun ae=>
    (f93 fuel A ae).bind fun aa=>
    Option.bind (
     if 0<((aa.2).length:Int) then(
      (Ax (U.1+Z.1)).bind fun ag=>
      some (decide (aa.1≤ag))
     ) else(
      some false
     )
    ) fun ah=>
    some (ah,0)
   )
  )
 )
theorem S4{E:LH}{ai:Ar}{c2:Nat}{aj:Ar}{ak:Nat}{al:Ar}{am:Nat}{an:Ar}{ao:Nat}{p0:A2}{p1:AW}{p2:AW}(aM:GE E)(ap:Ao (rL rI) E ai c2 (p0.1))(aq:Ao (rL rI) E aj ak (p0.2))(ar:Ao Bv E al am (p1))(au:Ao Bv E an ao (p2)){fuel:Nat}{r:Bool×Int}(aN:KX fuel p0 p1 p2=some r):Aq (Cr Tryz.prog) 37 [.agg #[.slice ai (p0.1).length c2,.slice aj (p0.2).length ak],.slice al (p1).length am,.slice an (p2).length ao] E [] (fun w E' B'=>w= .tuple #[.bool r.1,iV r.2]∧B'= []):=by
 refine Aq.en func37 rfl rfl fun Q cd cs H a9 ah=>?_;unfold KX at aN;refine zg 2 rfl ?_;refine JS.box (v:= .agg #[.slice ai (p0.1).length c2,.slice aj (p0.2).length ak]) rfl rfl rfl a9 rfl fun ce ba=>?_;refine JS.Ba 1 ba rfl fun cf A av bb=>?_;refine zg 6 rfl ?_;refine JL.Bj av (Al underlying24) (Ag type24) rfl rfl ?_;obtain⟨bc,bd,aO⟩:=bs aN;refine zg 1 rfl ?_;refine JS.cl (HA (aM.mono A) (ap.mono A) (aq.mono A) (ar.mono A) bd) rfl rfl (Aw func69 rfl) bb ?_;rintro _ cg _ K ⟨rfl,rfl⟩ aP;refine zg 7 rfl ?_;refine JL.ifs (p:=bc≠0) rfl (fun aw=>?_) (fun aw=>?_)
 ·have bf:=ip aO aw;refine zg 6 rfl ?_;obtain rfl:=oi bf;refine JL.rt func37 rfl rfl ?_;exact ah _ _ _ _ (A.trans K) rfl ⟨rfl,rfl⟩ aP
 ·have bg:=im aO aw;refine zg 4 rfl ?_;refine JL.Bj (av.mono K) (Al underlying24) (Ag type24) rfl rfl ?_;obtain⟨bh,bi,aQ⟩:=bs bg;refine zg 1 rfl ?_;refine JS.cl (HA (aM.mono (A.trans K)) (ap.mono (A.trans K)) (aq.mono (A.trans K)) (au.mono (A.trans K)) bi) rfl rfl (Aw func69 rfl) aP ?_;rintro _ ci _ U ⟨rfl,rfl⟩ bj;refine JS.norm (S':= [[],[],[],[]]) rfl bj fun aR=>?_;refine zg 7 rfl ?_;refine JL.ifs (p:=bh≠0) rfl (fun ay=>?_) (fun ay=>?_)
  ·have bk:=ip aQ ay;refine zg 6 rfl ?_;obtain rfl:=oi bk;refine JL.rt func37 rfl rfl ?_;exact ah _ _ _ _ ((A.trans K).trans U) rfl ⟨rfl,rfl⟩ aR
  ·have bl:=im aQ ay;refine zg 3 rfl ?_;refine JL.Bj (av.mono (K.trans U)) (Al underlying24) (Ag type24) rfl rfl ?_;obtain⟨ck,bm,bn⟩:=bs bl;refine JS.cl (Jg (ap.mono ((A.trans K).trans U)) (aq.mono ((A.trans K).trans U)) bm) rfl rfl (Aw func92 rfl) aR ?_;rintro cm cn _ ag ⟨_,rfl,rfl,bo⟩ bp;obtain⟨co,bq,br⟩:=bs bn;have aS:=bo;refine zg 6 rfl ?_;rw [bq] at aS;obtain⟨bu,bv,_,rfl,az,⟨_,_,rfl,⟨cp,cq,rfl,aA⟩,⟨_,cr,rfl,⟨ct,cu,rfl,aB⟩,aC⟩⟩⟩:=aS;obtain⟨aD,bw,bx⟩:=bs br;refine JS.cl (Jf az aA aB aC (ar.mono (((A.trans K).trans U).trans ag)) bw) rfl rfl (Aw func93 rfl) bp ?_;rintro _ cv _ O ⟨bz,bA,rfl,rfl,cw⟩ bB;obtain⟨aT,bC,bD⟩:=bs bx;refine zg 2 rfl ?_;refine JS.cl (Jf (az.mono O) (aA.mono O) (aB.mono O) (Rp.mono _ O aC) (au.mono ((((A.trans K).trans U).trans ag).trans O)) bC) rfl rfl (Aw func93 rfl) bB ?_;rintro _ cy _ ab ⟨bE,bF,rfl,rfl,cz⟩ bG;refine JS.norm (S':= [[],[],[],[],[],[],[]]) rfl bG fun bH=>?_;refine JS.alloc rfl rfl rfl bH (AO type97) fun bI bJ=>?_;refine JS.alloc rfl rfl rfl bJ (AO type97) fun aU bK=>?_;refine JS.st (v:= .agg #[iV aD.1,.slice bz (aD.2).length bA]) (off:=0) 7 bK (Ag type97) rfl rfl rfl rfl fun bL=>?_;refine JS.Ba 7 bL rfl fun cA ac aV bM=>?_;refine JS.norm (S':= [[],[],[],[],[],[],[],[],[(aU,.cells #[iV 0,.slice none 0 0] 97 (0,0))]]) rfl bM fun bN=>?_;refine JS.st (v:= .agg #[iV aT.1,.slice bE (aT.2).length bF]) (off:=0) 8 bN (Ag type97) rfl rfl rfl rfl fun bO=>?_;refine JS.Ba 8 bO rfl fun aE Z aW aX=>?_;refine zg 4 rfl ?_;refine JL.fd underlying97 (Ag type95) rfl rfl rfl ?_;refine JL.ld 1 (aV.mono Z) (Al underlying95) rfl rfl rfl ?_;refine JL.Y rfl (fun ρ h=>Yl.len rfl underlying95 (h _ _ rfl)) ?_;obtain⟨aY,aZ,a0⟩:=bs bD;refine zg 2 rfl ?_;refine JL.BI [] (fun L s=>∃(a1:LH),Jm aE H a1 [] [(1,.slice al (p1).length am),(2,.slice an (p2).length ao),(10,.pointer (some ⟨bu,bv,none⟩)),(11,.pointer (some ⟨bI,0,none⟩)),(12,.pointer (some ⟨aU,0,none⟩)),(43,.bool aY)] L s) ?_ ?_
   ·rintro _ _ ⟨a1,rfl,rfl,aa,a2⟩;refine JL.done ?_;refine JL.split (t:=aY) rfl (fun aF=>?_) (fun aF=>?_)
    ·have bP:=ip a0 aF;refine zg 5 rfl ?_;obtain rfl:=oi bP;refine JL.rt func37 rfl rfl ?_;exact ah _ _ _ _ ((((((((A.trans K).trans U).trans ag).trans O).trans ab).trans ac).trans Z).trans aa) rfl ⟨rfl,rfl⟩ a2
    ·have bQ:=ib a0 aF;obtain⟨cB,bR,bS⟩:=bs bQ;refine zg 6 rfl ?_;refine JS.cl (Uh (ar.mono ((((((((A.trans K).trans U).trans ag).trans O).trans ab).trans ac).trans Z).trans aa)) (au.mono ((((((((A.trans K).trans U).trans ag).trans O).trans ab).trans ac).trans Z).trans aa)) bR) rfl rfl (Aw func94 rfl) a2 ?_;rintro _ cC _ ae ⟨cD,cE,rfl,rfl,bT⟩ bU;obtain⟨aG,bV,bW⟩:=bs bS;refine JS.cl (Jf (az.mono (((((O.trans ab).trans ac).trans Z).trans aa).trans ae)) (aA.mono (((((O.trans ab).trans ac).trans Z).trans aa).trans ae)) (aB.mono (((((O.trans ab).trans ac).trans Z).trans aa).trans ae)) (Rp.mono _ (((((O.trans ab).trans ac).trans Z).trans aa).trans ae) aC) bT bV) rfl rfl (Aw func93 rfl) bU ?_;rintro _ cF _ aH ⟨bX,bY,rfl,rfl,cG⟩ bZ;refine JS.norm (S':= [[],[]]) rfl bZ fun b0=>?_;refine JS.alloc rfl rfl rfl b0 (AO type97) fun cH b1=>?_;refine JS.st (v:= .agg #[iV aG.1,.slice bX (aG.2).length bY]) (off:=0) 2 b1 (Ag type97) rfl rfl rfl rfl fun b2=>?_;refine JS.Ba 2 b2 rfl fun aI aJ a3 a4=>?_;refine zg 3 rfl ?_;refine JL.fd underlying97 (Ag type95) rfl rfl rfl ?_;refine JL.ld 1 a3 (Al underlying95) rfl rfl rfl ?_;refine JL.Y rfl (fun ρ h=>Yl.len rfl underlying95 (h _ _ rfl)) ?_;obtain⟨b3,a5,b4⟩:=bs bW;refine zg 2 rfl ?_;refine JL.BI [14,15] (fun L s=>∃(a6:LH),Jm aI H a6 [] [(62,.bool b3)] L s) ?_ ?_
     ·rintro _ _ ⟨a6,rfl,rfl,b5,b6⟩;refine zg 3 rfl ?_;obtain rfl:=oi b4;refine JL.rt func37 rfl rfl ?_;exact ah _ _ _ _ ((((((((((((A.trans K).trans U).trans ag).trans O).trans ab).trans ac).trans Z).trans aa).trans ae).trans aH).trans aJ).trans b5) rfl ⟨rfl,rfl⟩ b6
     ·intro a7;refine JL.BW (q:=0<((aG.2).length:Int)) (i:=53) rfl (fun aK=>?_) (fun aK=>?_)
      ·have b7:=ip a5 aK;refine JL.fd underlying97 (Ag type3) rfl rfl rfl ?_;refine JL.ld 0 a3 (Al underlying3) rfl rfl rfl ?_;refine JL.fd underlying97 (Ag type3) rfl rfl rfl ?_;refine JL.ld 0 (aV.mono ((((Z.trans aa).trans ae).trans aH).trans aJ)) (Al underlying3) rfl rfl rfl ?_;refine JL.fd underlying97 (Ag type3) rfl rfl rfl ?_;refine JL.ld 0 (aW.mono (((aa.trans ae).trans aH).trans aJ)) (Al underlying3) rfl rfl rfl ?_;obtain⟨cI,b8,b9⟩:=bs b7;refine JL.Y rfl (fun ρ h=>Yl.A0 (h _ _ rfl) (h _ _ rfl) b8) ?_;refine zg 2 rfl ?_;obtain rfl:=oi b9;exact JL.kw (a7 _ _ ⟨aI,rfl,rfl,(Le.refl _),a4⟩) rfl
      ·have ca:=im a5 aK;refine zg 9 rfl ?_;obtain rfl:=oi ca;exact JL.kw (a7 _ _ ⟨aI,rfl,rfl,(Le.refl _),a4⟩) rfl
   ·intro a8;refine JL.BW (q:=((aD.2).length:Int)=0) (i:=38) rfl (fun aL=>?_) (fun aL=>?_)
    ·have cb:=ip aZ aL;refine zg 5 rfl ?_;obtain rfl:=oi cb;exact JL.kw (a8 _ _ ⟨aE,rfl,rfl,(Le.refl _),aX⟩) rfl
    ·have cc:=im aZ aL;refine JL.fd underlying97 (Ag type95) rfl rfl rfl ?_;refine JL.ld 1 aW (Al underlying95) rfl rfl rfl ?_;refine JL.Y rfl (fun ρ h=>Yl.len rfl underlying95 (h _ _ rfl)) ?_;refine zg 2 rfl ?_;obtain rfl:=oi cc;exact JL.kw (a8 _ _ ⟨aE,rfl,rfl,(Le.refl _),aX⟩) rfl
end Pal
namespace Pal
open Go Go.Conc Go.Proofs
open Go.Proofs.Tryz
def G9(fuel:Nat):Option (Bool):=
 (f71 fuel).bind fun ae=>
 (Lb fuel ae 4).bind fun O=>
 (f71 fuel).bind fun ag=>
 (Hb fuel ag 5).bind fun U=>
 (f71 fuel).bind fun ah=>
 (f72 fuel).bind fun ai=>
 (K1 fuel ah ai 2).bind fun Z=>
 (f71 fuel).bind fun aj=>
 (Lc fuel aj ([])).bind fun aa=>
 (f71 fuel).bind fun ak=>
 (f73 fuel).bind fun al=>
 (Lf fuel ak al 1).bind fun ab=>
 (f71 fuel).bind fun am=>
 (KZ fuel am ([])).bind fun A=>
 (f71 fuel).bind fun an=>
 (f72 fuel).bind fun ao=>
 (f72 fuel).bind fun ap=>
 (KX fuel an ao ap).bind fun ac=>
 (f71 fuel).bind fun aq=>
 (f73 fuel).bind fun ar=>
 (Lh fuel aq ar).bind fun K=>
 Option.bind (
  if O.2=0 then(
   some (decide (U.2=0))
  ) else(
   some false
  )
 ) fun au=>
 Option.bind (
  if au=true then(
   some (decide (Z.2=0))
  ) else(
   some false
  )
 ) fun av=>
 Option.bind (
  if av=true then(
   some (decide (aa.2=0))
  ) else(
   some false
  )
 ) fun aw=>
 Option.bind (
  if aw=true then(
   some (decide (ab.2=0))
  ) else(
   some false
  )
 ) fun ay=>
 Option.bind (
  if ay=true then(
   some (decide (A.2.2=0))
  ) else(
   some false
  )
 ) fun az=>
 Option.bind (
  if az=true then(
   some (decide (ac.2=0))
  ) else(
   some false
  )
 ) fun aA=>
 Option.bind (
  if aA=true then(
   some (decide (K.2.2=0))
  ) else(
   some false
  )
 ) fun aB=>
 Option.bind (
  if aB=true then(
   some (decide (U.1=3))
  ) else(
   some false
  )
 ) fun aC=>
 Option.bind (
  if aC=true then(
   some (decide (aa.1=15))
  ) else(
   some false
  )
 ) fun aD=>
 Option.bind (
  if aD=true then(
   some (decide (ab.1=1))
  ) else(
   some false
  )
 ) fun aE=>
 Option.bind (
  if aE=true then(
   some (decide (A.1=0))
  ) else(
   some false
  )
 ) fun aF=>
 Option.bind (
  if aF=true then(
   some (decide (A.2.1=9))
  ) else(
   some false
  )
 ) fun aG=>
 Option.bind (
  if aG=true then(
   some ac.1
  ) else(
   some false
  )
 ) fun aH=>
 Option.bind (
  if aH=true then(
   some (decide (K.1=3))
  ) else(
   some false
  )
 ) fun aI=>
 Option.bind (
  if aI=true then(
   (f32 fuel O.1 ([4,5]:List Int)).bind fun aJ=>
   some aJ
  ) else(
   some false
  )
 ) fun aK=>
 Option.bind (
  if aK=true then(
   (f32 fuel Z.1 ([2,3,4]:List Int)).bind fun aL=>
   some aL
  ) else(
   some false
  )
 ) fun aM=>
 Option.bind (
  if aM=true then(
   (f32 fuel K.2.1 ([3,4]:List Int)).bind fun aN=>
   some aN
  ) else(
   some false
  )
 ) fun aO=>
 some aO
theorem N7{E:LH}(ao:GE E){fuel:Nat}{r:Bool}(bB:G9 fuel=some r):Aq (Cr Tryz.prog) 22 [] E [] (fun w E' B'=>w= .bool r∧B'= []):=by
 refine Aq.en func22 rfl rfl fun Q fY cs H cT cV=>?_;unfold G9 at bB;obtain⟨fZ,cW,cX⟩:=bs bB;refine zg 6 rfl ?_;refine JS.cl (F5 cW) rfl rfl (Aw func71 rfl) cT ?_;rintro _ ga _ al ⟨gb,gc,gd,ge,rfl,rfl,cY,cZ⟩ c0;obtain⟨ab,c1,c2⟩:=bs cX;refine JS.cl (Sw (ao.mono al) cY cZ c1) rfl rfl (Aw func51 rfl) c0 ?_;rintro _ gf _ ap ⟨ag,ah,rfl,rfl,c3⟩ c4;obtain⟨gg,c5,c6⟩:=bs c2;refine zg 8 rfl ?_;refine JS.cl (F5 c5) rfl rfl (Aw func71 rfl) c4 ?_;rintro _ gh _ am ⟨gi,gj,gk,gl,rfl,rfl,c7,c8⟩ c9;obtain⟨aw,da,db⟩:=bs c6;refine JS.cl (NS (ao.mono ((al.trans ap).trans am)) c7 c8 da) rfl rfl (Aw func57 rfl) c9 ?_;rintro _ gm _ aq ⟨rfl,rfl⟩ dc;obtain⟨gn,dd,de⟩:=bs db;refine zg 8 rfl ?_;refine JS.cl (F5 dd) rfl rfl (Aw func71 rfl) dc ?_;rintro _ gp _ ar ⟨gq,gr,gt,gu,rfl,rfl,df,dg⟩ dh;obtain⟨gv,di,dj⟩:=bs de;refine JS.cl (Kw di) rfl rfl (Aw func72 rfl) dh ?_;rintro _ gw _ aj ⟨gx,gy,rfl,rfl,dk⟩ dl;obtain⟨U,dm,dn⟩:=bs dj;refine JS.cl (S9 (ao.mono (((((al.trans ap).trans am).trans aq).trans ar).trans aj)) (df.mono aj) (dg.mono aj) dk dm) rfl rfl (Aw func43 rfl) dl ?_;rintro _ gz _ ay ⟨ac,ae,rfl,rfl,dp⟩ dq;obtain⟨gA,dr,dt⟩:=bs dn;refine zg 8 rfl ?_;refine JS.cl (F5 dr) rfl rfl (Aw func71 rfl) dq ?_;rintro _ gB _ au ⟨gC,gD,gE,gF,rfl,rfl,du,dv⟩ dw;obtain⟨ak,dx,dy⟩:=bs dt;refine JS.cl (S7 (ao.mono (((((((al.trans ap).trans am).trans aq).trans ar).trans aj).trans ay).trans au)) du dv Ao.nil dx) rfl rfl (Aw func28 rfl) dw ?_;rintro _ gG _ az ⟨rfl,rfl⟩ dz;obtain⟨gH,dA,dB⟩:=bs dy;refine zg 8 rfl ?_;refine JS.cl (F5 dA) rfl rfl (Aw func71 rfl) dz ?_;rintro _ gI _ aA ⟨gJ,gK,gL,gM,rfl,rfl,dC,dD⟩ dE;obtain⟨gN,dF,dG⟩:=bs dB;refine JS.cl (OB dF) rfl rfl (Aw func73 rfl) dE ?_;rintro _ gO _ an ⟨gP,gQ,rfl,rfl,dH⟩ dI;obtain⟨ai,dJ,dK⟩:=bs dG;refine JS.cl (SF (ao.mono ((((((((((al.trans ap).trans am).trans aq).trans ar).trans aj).trans ay).trans au).trans az).trans aA).trans an)) (dC.mono an) (dD.mono an) dH dJ) rfl rfl (Aw func49 rfl) dI ?_;rintro _ gR _ aC ⟨rfl,rfl⟩ dL;obtain⟨gS,dM,dN⟩:=bs dK;refine zg 8 rfl ?_;refine JS.cl (F5 dM) rfl rfl (Aw func71 rfl) dL ?_;rintro _ gT _ aD ⟨gU,gV,gW,gX,rfl,rfl,dO,dP⟩ dQ;obtain⟨K,dR,dS⟩:=bs dN;refine JS.cl (Sm (ao.mono ((((((((((((al.trans ap).trans am).trans aq).trans ar).trans aj).trans ay).trans au).trans az).trans aA).trans an).trans aC).trans aD)) dO dP Ao.nil dR) rfl rfl (Aw func35 rfl) dQ ?_;rintro _ gY _ aF ⟨rfl,rfl⟩ dT;obtain⟨gZ,dU,dV⟩:=bs dS;refine zg 10 rfl ?_;refine JS.cl (F5 dU) rfl rfl (Aw func71 rfl) dT ?_;rintro _ g0 _ aG ⟨g1,g2,g3,g4,rfl,rfl,dW,dX⟩ dY;obtain⟨g5,dZ,ea⟩:=bs dV;refine JS.cl (Kw dZ) rfl rfl (Aw func72 rfl) dY ?_;rintro _ g6 _ aB ⟨g7,g8,rfl,rfl,eb⟩ ec;obtain⟨g9,ed,ee⟩:=bs ea;refine JS.cl (Kw ed) rfl rfl (Aw func72 rfl) ec ?_;rintro _ ha _ av ⟨hb,hc,rfl,rfl,ef⟩ eg;obtain⟨O,eh,ei⟩:=bs ee;refine JS.cl (S4 (ao.mono ((((((((((((((((al.trans ap).trans am).trans aq).trans ar).trans aj).trans ay).trans au).trans az).trans aA).trans an).trans aC).trans aD).trans aF).trans aG).trans aB).trans av)) (dW.mono (aB.trans av)) (dX.mono (aB.trans av)) (eb.mono av) ef eh) rfl rfl (Aw func37 rfl) eg ?_;rintro _ hd _ aU ⟨rfl,rfl⟩ ej;obtain⟨he,ek,el⟩:=bs ei;refine zg 8 rfl ?_;refine JS.cl (F5 ek) rfl rfl (Aw func71 rfl) ej ?_;rintro _ hf _ aV ⟨hg,hj,hk,hl,rfl,rfl,em,eo⟩ ep;obtain⟨hm,eq,er⟩:=bs el;refine JS.cl (OB eq) rfl rfl (Aw func73 rfl) ep ?_;rintro _ hn _ aE ⟨ho,hp,rfl,rfl,et⟩ eu;obtain⟨A,ew,ex⟩:=bs er;refine JS.cl (SW (ao.mono (((((((((((((((((((al.trans ap).trans am).trans aq).trans ar).trans aj).trans ay).trans au).trans az).trans aA).trans an).trans aC).trans aD).trans aF).trans aG).trans aB).trans av).trans aU).trans aV).trans aE)) (em.mono aE) (eo.mono aE) et ew) rfl rfl (Aw func30 rfl) eu ?_;rintro _ bd _ bf ⟨Z,aa,rfl,rfl,ey⟩ bC;obtain⟨bD,bE,ez⟩:=bs ex;refine zg 13 rfl ?_;refine JL.BI [6,7,8,9,10,11,12,13,14,15,16,17,18,19,20,21,22,23,24,25,26,27,28,29,30,31,32,33,34,35,36,37,38,39,40,41,42,43,44,45,46,47,48,49,50,51,52,53,54,55,56,57,58,59,60,61,62,63,64,65,66,67,68,69,70,71,72] (fun L s=>∃(aH:LH),Jm bd H aH [] [(1,.slice ag (ab.1).length ah),(3,iV aw.1),(5,.slice ac (U.1).length ae),(6,iV U.2),(7,iV ak.1),(8,iV ak.2),(9,iV ai.1),(10,iV ai.2),(11,iV K.1),(12,iV K.2.1),(13,iV K.2.2),(14,.bool O.1),(15,iV O.2),(16,iV A.1),(17,.slice Z (A.2.1).length aa),(18,iV A.2.2),(71,.bool bD)] L s) ?_ ?_
 ·rintro _ _ ⟨aH,rfl,rfl,aW,bF⟩;obtain⟨bG,bH,eA⟩:=bs ez;refine zg 1 rfl ?_;refine JL.BI [10,11,12,13,14,15,16,17,18,19,20,21,22,23,24,25,26,27,28,29,30,31,32,33,34,35,36,37,38,39,40,41,42,43,44,45,46,47,48,49,50,51,52,53,54,55,56,57,58,59,60,61,62,63,64,65,66,67,68,69,70,71,72] (fun L s=>∃(aI:LH),Jm aH H aI [] [(1,.slice ag (ab.1).length ah),(3,iV aw.1),(5,.slice ac (U.1).length ae),(7,iV ak.1),(8,iV ak.2),(9,iV ai.1),(10,iV ai.2),(11,iV K.1),(12,iV K.2.1),(13,iV K.2.2),(14,.bool O.1),(15,iV O.2),(16,iV A.1),(17,.slice Z (A.2.1).length aa),(18,iV A.2.2),(75,.bool bG)] L s) ?_ ?_
  ·rintro _ _ ⟨aI,rfl,rfl,aX,bI⟩;obtain⟨bJ,bK,eB⟩:=bs eA;refine zg 1 rfl ?_;refine JL.BI [14,15,16,17,18,19,20,21,22,23,24,25,26,27,28,29,30,31,32,33,34,35,36,37,38,39,40,41,42,43,44,45,46,47,48,49,50,51,52,53,54,55,56,57,58,59,60,61,62,63,64,65,66,67,68,69,70,71,72] (fun L s=>∃(aJ:LH),Jm aI H aJ [] [(1,.slice ag (ab.1).length ah),(3,iV aw.1),(5,.slice ac (U.1).length ae),(7,iV ak.1),(9,iV ai.1),(10,iV ai.2),(11,iV K.1),(12,iV K.2.1),(13,iV K.2.2),(14,.bool O.1),(15,iV O.2),(16,iV A.1),(17,.slice Z (A.2.1).length aa),(18,iV A.2.2),(79,.bool bJ)] L s) ?_ ?_
   ·rintro _ _ ⟨aJ,rfl,rfl,aY,bL⟩;obtain⟨bM,bN,eC⟩:=bs eB;refine zg 1 rfl ?_;refine JL.BI [18,19,20,21,22,23,24,25,26,27,28,29,30,31,32,33,34,35,36,37,38,39,40,41,42,43,44,45,46,47,48,49,50,51,52,53,54,55,56,57,58,59,60,61,62,63,64,65,66,67,68,69,70,71,72] (fun L s=>∃(aK:LH),Jm aJ H aK [] [(1,.slice ag (ab.1).length ah),(3,iV aw.1),(5,.slice ac (U.1).length ae),(7,iV ak.1),(9,iV ai.1),(11,iV K.1),(12,iV K.2.1),(13,iV K.2.2),(14,.bool O.1),(15,iV O.2),(16,iV A.1),(17,.slice Z (A.2.1).length aa),(18,iV A.2.2),(83,.bool bM)] L s) ?_ ?_
    ·rintro _ _ ⟨aK,rfl,rfl,aZ,bO⟩;obtain⟨bP,bQ,eD⟩:=bs eC;refine zg 1 rfl ?_;refine JL.BI [22,23,24,25,26,27,28,29,30,31,32,33,34,35,36,37,38,39,40,41,42,43,44,45,46,47,48,49,50,51,52,53,54,55,56,57,58,59,60,61,62,63,64,65,66,67,68,69,70,71,72] (fun L s=>∃(aL:LH),Jm aK H aL [] [(1,.slice ag (ab.1).length ah),(3,iV aw.1),(5,.slice ac (U.1).length ae),(7,iV ak.1),(9,iV ai.1),(11,iV K.1),(12,iV K.2.1),(14,.bool O.1),(15,iV O.2),(16,iV A.1),(17,.slice Z (A.2.1).length aa),(18,iV A.2.2),(87,.bool bP)] L s) ?_ ?_
     ·rintro _ _ ⟨aL,rfl,rfl,a0,bR⟩;obtain⟨bS,bT,eE⟩:=bs eD;refine zg 1 rfl ?_;refine JL.BI [26,27,28,29,30,31,32,33,34,35,36,37,38,39,40,41,42,43,44,45,46,47,48,49,50,51,52,53,54,55,56,57,58,59,60,61,62,63,64,65,66,67,68,69,70,71,72] (fun L s=>∃(aM:LH),Jm aL H aM [] [(1,.slice ag (ab.1).length ah),(3,iV aw.1),(5,.slice ac (U.1).length ae),(7,iV ak.1),(9,iV ai.1),(11,iV K.1),(12,iV K.2.1),(14,.bool O.1),(16,iV A.1),(17,.slice Z (A.2.1).length aa),(18,iV A.2.2),(91,.bool bS)] L s) ?_ ?_
      ·rintro _ _ ⟨aM,rfl,rfl,a1,bU⟩;obtain⟨bV,bW,eF⟩:=bs eE;refine zg 1 rfl ?_;refine JL.BI [30,31,32,33,34,35,36,37,38,39,40,41,42,43,44,45,46,47,48,49,50,51,52,53,54,55,56,57,58,59,60,61,62,63,64,65,66,67,68,69,70,71,72] (fun L s=>∃(aN:LH),Jm aM H aN [] [(1,.slice ag (ab.1).length ah),(3,iV aw.1),(5,.slice ac (U.1).length ae),(7,iV ak.1),(9,iV ai.1),(11,iV K.1),(12,iV K.2.1),(14,.bool O.1),(16,iV A.1),(17,.slice Z (A.2.1).length aa),(95,.bool bV)] L s) ?_ ?_
       ·rintro _ _ ⟨aN,rfl,rfl,a2,bX⟩;obtain⟨bY,bZ,eG⟩:=bs eF;refine zg 1 rfl ?_;refine JL.BI [34,35,36,37,38,39,40,41,42,43,44,45,46,47,48,49,50,51,52,53,54,55,56,57,58,59,60,61,62,63,64,65,66,67,68,69,70,71,72] (fun L s=>∃(aO:LH),Jm aN H aO [] [(1,.slice ag (ab.1).length ah),(5,.slice ac (U.1).length ae),(7,iV ak.1),(9,iV ai.1),(11,iV K.1),(12,iV K.2.1),(14,.bool O.1),(16,iV A.1),(17,.slice Z (A.2.1).length aa),(99,.bool bY)] L s) ?_ ?_
        ·rintro _ _ ⟨aO,rfl,rfl,a3,b0⟩;obtain⟨b1,b2,eH⟩:=bs eG;refine zg 1 rfl ?_;refine JL.BI [38,39,40,41,42,43,44,45,46,47,48,49,50,51,52,53,54,55,56,57,58,59,60,61,62,63,64,65,66,67,68,69,70,71,72] (fun L s=>∃(aP:LH),Jm aO H aP [] [(1,.slice ag (ab.1).length ah),(5,.slice ac (U.1).length ae),(9,iV ai.1),(11,iV K.1),(12,iV K.2.1),(14,.bool O.1),(16,iV A.1),(17,.slice Z (A.2.1).length aa),(103,.bool b1)] L s) ?_ ?_
         ·rintro _ _ ⟨aP,rfl,rfl,a4,b3⟩;obtain⟨b4,b5,eI⟩:=bs eH;refine zg 1 rfl ?_;refine JL.BI [42,43,44,45,46,47,48,49,50,51,52,53,54,55,56,57,58,59,60,61,62,63,64,65,66,67,68,69,70,71,72] (fun L s=>∃(aQ:LH),Jm aP H aQ [] [(1,.slice ag (ab.1).length ah),(5,.slice ac (U.1).length ae),(11,iV K.1),(12,iV K.2.1),(14,.bool O.1),(16,iV A.1),(17,.slice Z (A.2.1).length aa),(107,.bool b4)] L s) ?_ ?_
          ·rintro _ _ ⟨aQ,rfl,rfl,a5,b6⟩;obtain⟨b7,b8,eJ⟩:=bs eI;refine zg 1 rfl ?_;refine JL.BI [46,47,48,49,50,51,52,53,54,55,56,57,58,59,60,61,62,63,64,65,66,67,68,69,70,71,72] (fun L s=>∃(aR:LH),Jm aQ H aR [] [(1,.slice ag (ab.1).length ah),(5,.slice ac (U.1).length ae),(12,iV K.2.1),(14,.bool O.1),(16,iV A.1),(17,.slice Z (A.2.1).length aa),(111,.bool b7)] L s) ?_ ?_
           ·rintro _ _ ⟨aR,rfl,rfl,a6,b9⟩;obtain⟨ca,cb,eK⟩:=bs eJ;refine zg 1 rfl ?_;refine JL.BI [50,51,52,53,54,55,56,57,58,59,60,61,62,63,64,65,66,67,68,69,70,71,72] (fun L s=>∃(aS:LH),Jm aR H aS [] [(1,.slice ag (ab.1).length ah),(5,.slice ac (U.1).length ae),(14,.bool O.1),(16,iV A.1),(17,.slice Z (A.2.1).length aa),(115,.bool ca)] L s) ?_ ?_
            ·rintro _ _ ⟨aS,rfl,rfl,a7,cc⟩;obtain⟨cd,ce,eL⟩:=bs eK;refine zg 1 rfl ?_;refine JL.BI [53,54,55,56,57,58,59,60,61,62,63,64,65,66,67,68,69,70,71,72] (fun L s=>∃(aT:LH),Jm aS H aT [] [(1,.slice ag (ab.1).length ah),(5,.slice ac (U.1).length ae),(16,iV A.1),(17,.slice Z (A.2.1).length aa),(118,.bool cd)] L s) ?_ ?_
             ·rintro _ _ ⟨aT,rfl,rfl,a8,cf⟩;obtain⟨cg,ci,eM⟩:=bs eL;refine zg 1 rfl ?_;refine JL.BI [57,58,59,60,61,62,63,64,65,66,67,68,69,70,71,72] (fun L s=>∃(a9:LH),Jm aT H a9 [] [(1,.slice ag (ab.1).length ah),(5,.slice ac (U.1).length ae),(17,.slice Z (A.2.1).length aa),(122,.bool cg)] L s) ?_ ?_
              ·rintro _ _ ⟨a9,rfl,rfl,ba,ck⟩;obtain⟨cm,cn,eN⟩:=bs eM;refine zg 1 rfl ?_;refine JL.BI [62,63,64,65,66,67,68,69,70,71,72] (fun L s=>∃(bb:LH),Jm a9 H bb [] [(5,.slice ac (U.1).length ae),(17,.slice Z (A.2.1).length aa),(127,.bool cm)] L s) ?_ ?_
               ·rintro _ _ ⟨bb,rfl,rfl,bg,co⟩;obtain⟨cp,cq,eO⟩:=bs eN;refine zg 1 rfl ?_;refine JL.BI [67,68,69,70,71,72] (fun L s=>∃(bc:LH),Jm bb H bc [] [(17,.slice Z (A.2.1).length aa),(132,.bool cp)] L s) ?_ ?_
                ·rintro _ _ ⟨bc,rfl,rfl,cr,ct⟩;obtain⟨eP,cu,eQ⟩:=bs eO;refine zg 1 rfl ?_;refine JL.BI [72] (fun L s=>∃(cv:LH),Jm bc H cv [] [(137,.bool eP)] L s) ?_ ?_
                 ·rintro _ _ ⟨cv,rfl,rfl,eR,eS⟩;refine zg 2 rfl ?_;obtain rfl:=oi eQ;refine JL.rt func22 rfl rfl ?_;exact cV _ _ _ _ (((((((((((((((((((((((((((((((((((((al.trans ap).trans am).trans aq).trans ar).trans aj).trans ay).trans au).trans az).trans aA).trans an).trans aC).trans aD).trans aF).trans aG).trans aB).trans av).trans aU).trans aV).trans aE).trans bf).trans aW).trans aX).trans aY).trans aZ).trans a0).trans a1).trans a2).trans a3).trans a4).trans a5).trans a6).trans a7).trans a8).trans ba).trans bg).trans cr).trans eR) rfl ⟨rfl,rfl⟩ eS
                 ·intro cw;refine JL.Cg (c:=cp) (i:=133) rfl (fun bh=>?_) (fun bh=>?_)
                  ·have eT:=ip cu bh;refine zg 1 rfl ?_;refine JS.lit (pp:=rI) [iV 3,iV 4] [3,4] rfl rfl rfl underlying28 (Ag type3) (AO type3) (by decide) rfl rfl rfl ⟨rfl,rfl,trivial⟩ ct fun hq hr eU eV=>?_;refine JS.BJ 0 eU eV rfl fun hu cy eW eX=>?_;obtain⟨hv,eY,eZ⟩:=bs eT;refine JS.cl (Jb (ey.mono ((((((((((((((((aW.trans aX).trans aY).trans aZ).trans a0).trans a1).trans a2).trans a3).trans a4).trans a5).trans a6).trans a7).trans a8).trans ba).trans bg).trans cr).trans cy)) eW eY) rfl rfl (Aw func32 rfl) eX ?_;rintro _ e0 _ e1 ⟨rfl,rfl⟩ e2;refine zg 1 rfl ?_;obtain rfl:=oi eZ;exact JL.kw (cw _ _ ⟨e0,rfl,rfl,(cy.trans e1),e2⟩) rfl
                  ·have e3:=ib cu bh;refine zg 4 rfl ?_;obtain rfl:=oi e3;exact JL.kw (cw _ _ ⟨bc,rfl,rfl,(Le.refl _),ct⟩) rfl
                ·intro cz;refine JL.Cg (c:=cm) (i:=128) rfl (fun bi=>?_) (fun bi=>?_)
                 ·have e4:=ip cq bi;refine zg 1 rfl ?_;refine JS.lit (pp:=rI) [iV 2,iV 3,iV 4] [2,3,4] rfl rfl rfl underlying28 (Ag type3) (AO type3) (by decide) rfl rfl rfl ⟨rfl,rfl,rfl,trivial⟩ co fun hw hx e5 e6=>?_;refine JS.BJ 0 e5 e6 rfl fun hy cA e7 e8=>?_;obtain⟨hz,e9,fa⟩:=bs e4;refine JS.cl (Jb (dp.mono (((((((((((((((((((((((((((((au.trans az).trans aA).trans an).trans aC).trans aD).trans aF).trans aG).trans aB).trans av).trans aU).trans aV).trans aE).trans bf).trans aW).trans aX).trans aY).trans aZ).trans a0).trans a1).trans a2).trans a3).trans a4).trans a5).trans a6).trans a7).trans a8).trans ba).trans bg).trans cA)) e7 e9) rfl rfl (Aw func32 rfl) e8 ?_;rintro _ fb _ fc ⟨rfl,rfl⟩ fe;refine zg 1 rfl ?_;obtain rfl:=oi fa;exact JL.kw (cz _ _ ⟨fb,rfl,rfl,(cA.trans fc),fe⟩) rfl
                 ·have ff:=ib cq bi;refine zg 4 rfl ?_;obtain rfl:=oi ff;exact JL.kw (cz _ _ ⟨bb,rfl,rfl,(Le.refl _),co⟩) rfl
               ·intro cB;refine JL.Cg (c:=cg) (i:=123) rfl (fun bj=>?_) (fun bj=>?_)
                ·have fg:=ip cn bj;refine zg 1 rfl ?_;refine JS.lit (pp:=rI) [iV 4,iV 5] [4,5] rfl rfl rfl underlying28 (Ag type3) (AO type3) (by decide) rfl rfl rfl ⟨rfl,rfl,trivial⟩ ck fun hA hB fh fj=>?_;refine JS.BJ 0 fh fj rfl fun hC cC fk fm=>?_;obtain⟨hD,fo,fp⟩:=bs fg;refine JS.cl (Jb (c3.mono (((((((((((((((((((((((((((((((((am.trans aq).trans ar).trans aj).trans ay).trans au).trans az).trans aA).trans an).trans aC).trans aD).trans aF).trans aG).trans aB).trans av).trans aU).trans aV).trans aE).trans bf).trans aW).trans aX).trans aY).trans aZ).trans a0).trans a1).trans a2).trans a3).trans a4).trans a5).trans a6).trans a7).trans a8).trans ba).trans cC)) fk fo) rfl rfl (Aw func32 rfl) fm ?_;rintro _ fq _ fs ⟨rfl,rfl⟩ fu;refine zg 1 rfl ?_;obtain rfl:=oi fp;exact JL.kw (cB _ _ ⟨fq,rfl,rfl,(cC.trans fs),fu⟩) rfl
                ·have fv:=ib cn bj;refine zg 4 rfl ?_;obtain rfl:=oi fv;exact JL.kw (cB _ _ ⟨a9,rfl,rfl,(Le.refl _),ck⟩) rfl
              ·intro cD;refine JL.Cg (c:=cd) (i:=119) rfl (fun bk=>?_) (fun bk=>?_)
               ·have fw:=ip ci bk;refine zg 3 rfl ?_;obtain rfl:=oi fw;exact JL.kw (cD _ _ ⟨aT,rfl,rfl,(Le.refl _),cf⟩) rfl
               ·have fx:=ib ci bk;refine zg 3 rfl ?_;obtain rfl:=oi fx;exact JL.kw (cD _ _ ⟨aT,rfl,rfl,(Le.refl _),cf⟩) rfl
             ·intro cE;refine JL.Cg (c:=ca) (i:=116) rfl (fun bl=>?_) (fun bl=>?_)
              ·have fy:=ip ce bl;refine zg 2 rfl ?_;obtain rfl:=oi fy;exact JL.kw (cE _ _ ⟨aS,rfl,rfl,(Le.refl _),cc⟩) rfl
              ·have fz:=ib ce bl;refine zg 2 rfl ?_;obtain rfl:=oi fz;exact JL.kw (cE _ _ ⟨aS,rfl,rfl,(Le.refl _),cc⟩) rfl
            ·intro cF;refine JL.Cg (c:=b7) (i:=112) rfl (fun bm=>?_) (fun bm=>?_)
             ·have fA:=ip cb bm;refine zg 3 rfl ?_;obtain rfl:=oi fA;exact JL.kw (cF _ _ ⟨aR,rfl,rfl,(Le.refl _),b9⟩) rfl
             ·have fB:=ib cb bm;refine zg 3 rfl ?_;obtain rfl:=oi fB;exact JL.kw (cF _ _ ⟨aR,rfl,rfl,(Le.refl _),b9⟩) rfl
           ·intro cG;refine JL.Cg (c:=b4) (i:=108) rfl (fun bn=>?_) (fun bn=>?_)
            ·have fC:=ip b8 bn;refine zg 3 rfl ?_;obtain rfl:=oi fC;exact JL.kw (cG _ _ ⟨aQ,rfl,rfl,(Le.refl _),b6⟩) rfl
            ·have fD:=ib b8 bn;refine zg 3 rfl ?_;obtain rfl:=oi fD;exact JL.kw (cG _ _ ⟨aQ,rfl,rfl,(Le.refl _),b6⟩) rfl
          ·intro cH;refine JL.Cg (c:=b1) (i:=104) rfl (fun bo=>?_) (fun bo=>?_)
           ·have fE:=ip b5 bo;refine zg 3 rfl ?_;obtain rfl:=oi fE;exact JL.kw (cH _ _ ⟨aP,rfl,rfl,(Le.refl _),b3⟩) rfl
           ·have fF:=ib b5 bo;refine zg 3 rfl ?_;obtain rfl:=oi fF;exact JL.kw (cH _ _ ⟨aP,rfl,rfl,(Le.refl _),b3⟩) rfl
         ·intro cI;refine JL.Cg (c:=bY) (i:=100) rfl (fun bp=>?_) (fun bp=>?_)
          ·have fG:=ip b2 bp;refine zg 3 rfl ?_;obtain rfl:=oi fG;exact JL.kw (cI _ _ ⟨aO,rfl,rfl,(Le.refl _),b0⟩) rfl
          ·have fH:=ib b2 bp;refine zg 3 rfl ?_;obtain rfl:=oi fH;exact JL.kw (cI _ _ ⟨aO,rfl,rfl,(Le.refl _),b0⟩) rfl
        ·intro cJ;refine JL.Cg (c:=bV) (i:=96) rfl (fun bq=>?_) (fun bq=>?_)
         ·have fI:=ip bZ bq;refine zg 3 rfl ?_;obtain rfl:=oi fI;exact JL.kw (cJ _ _ ⟨aN,rfl,rfl,(Le.refl _),bX⟩) rfl
         ·have fJ:=ib bZ bq;refine zg 3 rfl ?_;obtain rfl:=oi fJ;exact JL.kw (cJ _ _ ⟨aN,rfl,rfl,(Le.refl _),bX⟩) rfl
       ·intro cK;refine JL.Cg (c:=bS) (i:=92) rfl (fun br=>?_) (fun br=>?_)
        ·have fK:=ip bW br;refine zg 3 rfl ?_;obtain rfl:=oi fK;exact JL.kw (cK _ _ ⟨aM,rfl,rfl,(Le.refl _),bU⟩) rfl
        ·have fL:=ib bW br;refine zg 3 rfl ?_;obtain rfl:=oi fL;exact JL.kw (cK _ _ ⟨aM,rfl,rfl,(Le.refl _),bU⟩) rfl
      ·intro cM;refine JL.Cg (c:=bP) (i:=88) rfl (fun bu=>?_) (fun bu=>?_)
       ·have fM:=ip bT bu;refine zg 3 rfl ?_;obtain rfl:=oi fM;exact JL.kw (cM _ _ ⟨aL,rfl,rfl,(Le.refl _),bR⟩) rfl
       ·have fN:=ib bT bu;refine zg 3 rfl ?_;obtain rfl:=oi fN;exact JL.kw (cM _ _ ⟨aL,rfl,rfl,(Le.refl _),bR⟩) rfl
     ·intro cN;refine JL.Cg (c:=bM) (i:=84) rfl (fun bv=>?_) (fun bv=>?_)
      ·have fO:=ip bQ bv;refine zg 3 rfl ?_;obtain rfl:=oi fO;exact JL.kw (cN _ _ ⟨aK,rfl,rfl,(Le.refl _),bO⟩) rfl
      ·have fP:=ib bQ bv;refine zg 3 rfl ?_;obtain rfl:=oi fP;exact JL.kw (cN _ _ ⟨aK,rfl,rfl,(Le.refl _),bO⟩) rfl
    ·intro cO;refine JL.Cg (c:=bJ) (i:=80) rfl (fun bw=>?_) (fun bw=>?_)
     ·have fQ:=ip bN bw;refine zg 3 rfl ?_;obtain rfl:=oi fQ;exact JL.kw (cO _ _ ⟨aJ,rfl,rfl,(Le.refl _),bL⟩) rfl
     ·have fR:=ib bN bw;refine zg 3 rfl ?_;obtain rfl:=oi fR;exact JL.kw (cO _ _ ⟨aJ,rfl,rfl,(Le.refl _),bL⟩) rfl
   ·intro cP;refine JL.Cg (c:=bG) (i:=76) rfl (fun bx=>?_) (fun bx=>?_)
    ·have fS:=ip bK bx;refine zg 3 rfl ?_;obtain rfl:=oi fS;exact JL.kw (cP _ _ ⟨aI,rfl,rfl,(Le.refl _),bI⟩) rfl
    ·have fT:=ib bK bx;refine zg 3 rfl ?_;obtain rfl:=oi fT;exact JL.kw (cP _ _ ⟨aI,rfl,rfl,(Le.refl _),bI⟩) rfl
  ·intro cQ;refine JL.Cg (c:=bD) (i:=72) rfl (fun bz=>?_) (fun bz=>?_)
   ·have fU:=ip bH bz;refine zg 3 rfl ?_;obtain rfl:=oi fU;exact JL.kw (cQ _ _ ⟨aH,rfl,rfl,(Le.refl _),bF⟩) rfl
   ·have fV:=ib bH bz;refine zg 3 rfl ?_;obtain rfl:=oi fV;exact JL.kw (cQ _ _ ⟨aH,rfl,rfl,(Le.refl _),bF⟩) rfl
 ·intro cR;refine JL.BW (q:=ab.2=0) (i:=68) rfl (fun bA=>?_) (fun bA=>?_)
  ·have fW:=ip bE bA;refine zg 3 rfl ?_;obtain rfl:=oi fW;exact JL.kw (cR _ _ ⟨bd,rfl,rfl,(Le.refl _),bC⟩) rfl
  ·have fX:=im bE bA;refine zg 3 rfl ?_;obtain rfl:=oi fX;exact JL.kw (cR _ _ ⟨bd,rfl,rfl,(Le.refl _),bC⟩) rfl
end Pal
namespace Pal
theorem C5{f:Nat→Option Int}{n i:Nat}{c:Int}(A:∀q,q<i→f q=none)(K:f i=some c)(hi:i<n):(List.range n).findSome? f=some c:=by
 have key:∀(k:Nat),i<k→(List.range k).findSome? f=some c:=by
  intro k
  induction k with
  | zero=>intro h;omega
  | succ k O=>
   intro h;rw [List.range_succ,List.findSome?_append];by_cases e:i=k
   ·subst e;have:(List.range i).findSome? f=none:=List.findSome?_eq_none_iff.2 fun q U=>A q (List.mem_range.1 U);rw [this];simp [K]
   ·rw [O (by omega)];rfl
 exact key n hi
theorem EZ{f:Nat→Option Int}{n:Nat}(A:∀q,q<n→f q=none):(List.range n).findSome? f=none:=List.findSome?_eq_none_iff.2 fun q K=>A q (List.mem_range.1 K)
def Dl(n:Nat)(m:Int)(b:Bool)(l:List Int)(i:Nat):Option Int:=
 if l.getD i 0<0∨(n:Int) - 1<l.getD i 0 then some 3 else if l.getD i 0=m∧b=false then some 8 else if 0<i∧l.getD i 0≤l.getD (i - 1) 0 then some 5 else none
def Db(n:Nat)(m:Int)(b:Bool)(l:List Int):Option Int:=(List.range l.length).findSome? (Dl n m b l)
theorem Ec{α:Type}{l:List α}{i:Nat}{d:α}(h:i<l.length):l.getD i d=l[i]:=by rw [List.getD_eq_getElem?_getD,List.getElem?_eq_getElem h];rfl
theorem Mp{F:Nat}{J:JW}{m:Int}{l:List Int}{b:Bool}(ag:100<F)(ah:l.length<100)(ai:J.1.length<100):Ad (f136 F J m l b) (fun e=>e.map (·.1)=Db J.1.length m b l):=by
 unfold f136;refine Ad.b (S:=fun q=>(∃c,q=Sum.inl (some (c,m))∧Db J.1.length m b l=some c)∨(q=Sum.inr ()∧Db J.1.length m b l=none)) ?_ ?_
 ·refine Ad.upto l.length (fun i s=>s=(i:Int)∧∀q,q<i→Dl J.1.length m b l q=none) ⟨rfl,fun q ae=>by omega⟩ (by omega) ?_ ?_
  ·rintro i s hi ⟨rfl,K⟩;unfold IL;have Z:l.getD i 0=l[i]:=Ec hi;refine Ad.pos (by omega) ?_;refine Ad.Bo (m:=i) rfl hi ?_;refine Ad.A6 ((J.1.length:Int) - 1) rfl (by omega) (by omega) ?_;refine Ad.be (M3 F _ _ _) ?_;refine Ad.ite (fun h=>?_) (fun h=>?_)
   ·have O:=of_decide_eq_true h;exact Ad.intro (.inl ⟨3,rfl,C5 K (by unfold Dl;rw [Z,if_pos O]) hi⟩)
   ·have O:¬(l[i]<0∨(J.1.length:Int) - 1<l[i]):=fun x=>h (decide_eq_true x);refine Ad.b (S:=fun c=>c=decide (l[i]=m∧b=false)) ?_ ?_
    ·refine Ad.ite (fun A=>Ad.intro ?_) (fun A=>Ad.intro ?_)
     ·cases b <;> simp [A]
     ·simp [A]
    ·rintro c rfl;refine Ad.ite (fun A=>?_) (fun A=>?_)
     ·have aa:=of_decide_eq_true A;exact Ad.intro (.inl ⟨8,rfl,C5 K (by unfold Dl;rw [Z,if_neg O,if_pos aa]) hi⟩)
     ·have aa:¬(l[i]=m∧b=false):=fun x=>A (decide_eq_true x);refine Ad.b (S:=fun c=>c=decide (0<i∧l[i]≤l.getD (i - 1) 0)) ?_ ?_
      ·refine Ad.ite (fun U=>?_) (fun U=>?_)
       ·have ac:i - 1<l.length:=by omega
        refine Ad.A6 ((i - 1:Nat):Int) (by omega) (by omega) (by omega) ?_;refine Ad.Bo (m:=i - 1) rfl ac ?_;refine Ad.intro ?_;rw [Ec ac];exact decide_eq_decide.2 ⟨fun x=>⟨by omega,x⟩,fun x=>x.2⟩
       ·exact Ad.intro (decide_eq_false (by omega)).symm
      ·rintro c rfl;refine Ad.ite (fun U=>?_) (fun U=>?_)
       ·have ab:=of_decide_eq_true U;exact Ad.intro (.inl ⟨5,rfl,C5 K (by unfold Dl;rw [Z,if_neg O,if_neg aa,if_pos ab]) hi⟩)
       ·have ab:¬(0<i∧l[i]≤l.getD (i - 1) 0):=fun x=>U (decide_eq_true x);refine Ad.A6 ((i+1:Nat):Int) (by simp) (by omega) (by omega) ?_;refine Ad.intro ⟨rfl,fun q ae=>?_⟩;by_cases e:q=i
        ·subst e;unfold Dl;rw [Z,if_neg O,if_neg aa,if_neg ab]
        ·exact K q (by omega)
  ·rintro s ⟨rfl,K⟩;unfold IL;exact Ad.neg (by omega) (Ad.intro ⟨_,rfl,.inr ⟨rfl,EZ K⟩⟩)
 ·rintro q (⟨c,rfl,h⟩ | ⟨rfl,h⟩)
  ·exact Ad.intro h.symm
  ·exact Ad.intro h.symm
theorem Hv(F:Nat)(a lo hi:Int):f104 F a lo hi=some (decide (lo≤a∧a≤hi)):=by
 unfold f104;by_cases h:lo≤a
 ·simp [h]
 ·simp [h]
theorem Qr{F:Nat}{J:JW}{m:Int}{l:List Int}(ac:100<F)(ae:l.length<100)(ag:J.1.length<100):f114 F J l=some (if l.length=0 then 7 else if 3<l.length then 6 else(Db J.1.length m true l).getD 0):=by
 refine Ad.Dv ?_;unfold f114;refine Ad.ite (fun h=>?_) (fun h=>?_)
 ·rw [if_pos (show l.length=0 by omega)];exact Ad.intro rfl
 rw [if_neg (show ¬l.length=0 by omega)];refine Ad.ite (fun h=>?_) (fun h=>?_)
 ·rw [if_pos (show 3<l.length by omega)];exact Ad.intro rfl
 rw [if_neg (show ¬3<l.length by omega)];refine Ad.b (S:=fun q=>(∃c,q=Sum.inl c∧Db J.1.length m true l=some c)∨(q=Sum.inr ()∧Db J.1.length m true l=none)) ?_ ?_
 ·refine Ad.upto l.length (fun i s=>s=(i:Int)∧∀q,q<i→Dl J.1.length m true l q=none) ⟨rfl,fun q ab=>by omega⟩ (by omega) ?_ ?_
  ·rintro i s hi ⟨rfl,A⟩;unfold Iy;have U:l.getD i 0=l[i]:=Ec hi;refine Ad.pos (by omega) ?_;refine Ad.Bo (m:=i) rfl hi ?_;refine Ad.A6 ((J.1.length:Int) - 1) rfl (by omega) (by omega) ?_;refine Ad.be (Hv F _ _ _) ?_;refine Ad.ite (fun h=>?_) (fun h=>?_)
   ·have O:l[i]<0∨(J.1.length:Int) - 1<l[i]:=by simp at h;omega
    exact Ad.intro (.inl ⟨3,rfl,C5 A (by unfold Dl;rw [U,if_pos O]) hi⟩)
   ·have O:¬(l[i]<0∨(J.1.length:Int) - 1<l[i]):=by simp at h;omega
    refine Ad.b (S:=fun c=>c=decide (0<i∧l[i]≤l.getD (i - 1) 0)) ?_ ?_
    ·refine Ad.ite (fun K=>?_) (fun K=>?_)
     ·have aa:i - 1<l.length:=by omega
      refine Ad.Bo (m:=i) rfl hi ?_;refine Ad.A6 ((i - 1:Nat):Int) (by omega) (by omega) (by omega) ?_;refine Ad.Bo (m:=i - 1) rfl aa ?_;refine Ad.intro ?_;rw [Ec aa];exact decide_eq_decide.2 ⟨fun x=>⟨by omega,x⟩,fun x=>x.2⟩
     ·exact Ad.intro (decide_eq_false (by omega)).symm
    ·rintro c rfl;refine Ad.ite (fun K=>?_) (fun K=>?_)
     ·have Z:=of_decide_eq_true K;exact Ad.intro (.inl ⟨5,rfl,C5 A (by unfold Dl;rw [U,if_neg O,if_neg (by simp),if_pos Z]) hi⟩)
     ·have Z:¬(0<i∧l[i]≤l.getD (i - 1) 0):=fun x=>K (decide_eq_true x);refine Ad.A6 ((i+1:Nat):Int) (by simp) (by omega) (by omega) ?_;refine Ad.intro ⟨rfl,fun q ab=>?_⟩;by_cases e:q=i
      ·subst e;unfold Dl;rw [U,if_neg O,if_neg (by simp),if_neg Z]
      ·exact A q (by omega)
  ·rintro s ⟨rfl,A⟩;unfold Iy;exact Ad.neg (by omega) (Ad.intro ⟨_,rfl,.inr ⟨rfl,EZ A⟩⟩)
 ·rintro q (⟨c,rfl,h⟩ | ⟨rfl,h⟩)
  ·exact Ad.intro (by rw [h];rfl)
  ·exact Ad.intro (by rw [h];rfl)
theorem Q1{F:Nat}{J:JW}{m:Int}{l:List Int}(ag:100<F)(ah:l.length<100)(ai:J.1.length<100):f115 F J m l=some (if 3<l.length then 6 else(Db J.1.length m false l).getD 0):=by
 refine Ad.Dv ?_;unfold f115;refine Ad.ite (fun h=>?_) (fun h=>?_)
 ·rw [if_pos (show 3<l.length by omega)];exact Ad.intro rfl
 rw [if_neg (show ¬3<l.length by omega)];refine Ad.b (S:=fun q=>(∃c,q=Sum.inl c∧Db J.1.length m false l=some c)∨(q=Sum.inr ()∧Db J.1.length m false l=none)) ?_ ?_
 ·refine Ad.upto l.length (fun i s=>s=(i:Int)∧∀q,q<i→Dl J.1.length m false l q=none) ⟨rfl,fun q ae=>by omega⟩ (by omega) ?_ ?_
  ·rintro i s hi ⟨rfl,A⟩;unfold It;have U:l.getD i 0=l[i]:=Ec hi;refine Ad.pos (by omega) ?_;refine Ad.Bo (m:=i) rfl hi ?_;refine Ad.A6 ((J.1.length:Int) - 1) rfl (by omega) (by omega) ?_;refine Ad.be (Hv F _ _ _) ?_;refine Ad.ite (fun h=>?_) (fun h=>?_)
   ·have K:l[i]<0∨(J.1.length:Int) - 1<l[i]:=by simp at h;omega
    exact Ad.intro (.inl ⟨3,rfl,C5 A (by unfold Dl;rw [U,if_pos K]) hi⟩)
   ·have K:¬(l[i]<0∨(J.1.length:Int) - 1<l[i]):=by simp at h;omega
    refine Ad.Bo (m:=i) rfl hi ?_;refine Ad.ite (fun Z=>?_) (fun Z=>?_)
    ·exact Ad.intro (.inl ⟨8,rfl,C5 A (by unfold Dl;rw [U,if_neg K,if_pos ⟨Z,rfl⟩]) hi⟩)
    have ab:¬(l[i]=m∧false=false):=fun x=>Z x.1;refine Ad.b (S:=fun c=>c=decide (0<i∧l[i]≤l.getD (i - 1) 0)) ?_ ?_
    ·refine Ad.ite (fun O=>?_) (fun O=>?_)
     ·have ac:i - 1<l.length:=by omega
      refine Ad.Bo (m:=i) rfl hi ?_;refine Ad.A6 ((i - 1:Nat):Int) (by omega) (by omega) (by omega) ?_;refine Ad.Bo (m:=i - 1) rfl ac ?_;refine Ad.intro ?_;rw [Ec ac];exact decide_eq_decide.2 ⟨fun x=>⟨by omega,x⟩,fun x=>x.2⟩
     ·exact Ad.intro (decide_eq_false (by omega)).symm
    ·rintro c rfl;refine Ad.ite (fun O=>?_) (fun O=>?_)
     ·have aa:=of_decide_eq_true O;exact Ad.intro (.inl ⟨5,rfl,C5 A (by unfold Dl;rw [U,if_neg K,if_neg ab,if_pos aa]) hi⟩)
     ·have aa:¬(0<i∧l[i]≤l.getD (i - 1) 0):=fun x=>O (decide_eq_true x);refine Ad.A6 ((i+1:Nat):Int) (by simp) (by omega) (by omega) ?_;refine Ad.intro ⟨rfl,fun q ae=>?_⟩;by_cases e:q=i
      ·subst e;unfold Dl;rw [U,if_neg K,if_neg ab,if_neg aa]
      ·exact A q (by omega)
  ·rintro s ⟨rfl,A⟩;unfold It;exact Ad.neg (by omega) (Ad.intro ⟨_,rfl,.inr ⟨rfl,EZ A⟩⟩)
 ·rintro q (⟨c,rfl,h⟩ | ⟨rfl,h⟩)
  ·exact Ad.intro (by rw [h];rfl)
  ·exact Ad.intro (by rw [h];rfl)
def CC(J:JW)(i:Nat):Option Int:=
 if(J.1.getD i []).length=0 then some 7 else if 3<(J.1.getD i []).length then some 6 else match Db J.1.length i true (J.1.getD i []) with
  | some c=>some c
  | none=>if 3<(J.2.getD i []).length then some 6 else Db J.1.length i false (J.2.getD i [])
def CJ(J:JW):Option Int:=if J.1.length=0 then some 7 else if 8<J.1.length then some 6 else if J.2.length≠J.1.length then some 9 else(List.range J.1.length).findSome? (CC J)
structure NL (J:JW):Prop where
 l1:J.1.length≤20
 l2:J.2.length≤20
 n1:∀l∈J.1,l.length≤20
 n2:∀l∈J.2,l.length≤20
theorem Qq{F:Nat}{J:JW}(ab:100<F)(U:NL J):Ad (f113 F J) (fun e=>e.map (·.1)=CJ J):=by
 have ah:=U.l1;unfold f113 CJ;refine Ad.ite (fun h=>?_) (fun h=>?_)
 ·rw [if_pos (show J.1.length=0 by omega)];exact Ad.intro rfl
 rw [if_neg (show ¬J.1.length=0 by omega)];refine Ad.ite (fun h=>?_) (fun h=>?_)
 ·rw [if_pos (show 8<J.1.length by omega)];exact Ad.intro rfl
 rw [if_neg (show ¬8<J.1.length by omega)];refine Ad.ite (fun h=>?_) (fun h=>?_)
 ·rw [if_pos (show J.2.length≠J.1.length by omega)];exact Ad.intro rfl
 rw [if_neg (show ¬J.2.length≠J.1.length by omega)];refine Ad.b (S:=fun q=>(∃c,q=Sum.inl (some c)∧(List.range J.1.length).findSome? (CC J)=some c.1)∨(q=Sum.inr ()∧(List.range J.1.length).findSome? (CC J)=none)) ?_ ?_
 ·refine Ad.upto J.1.length (fun i s=>s=(i:Int)∧∀q,q<i→CC J q=none) ⟨rfl,fun q ag=>by omega⟩ (by omega) ?_ ?_
  ·rintro i s hi ⟨rfl,A⟩;unfold IE;have O:i<J.2.length:=by omega
   have K:J.1.getD i []=J.1[i]:=Ec hi;have Z:J.2.getD i []=J.2[i]:=Ec O;have n1:=U.n1 _ (List.getElem_mem hi);have n2:=U.n2 _ (List.getElem_mem O);refine Ad.pos (by omega) ?_;refine Ad.Bo (m:=i) rfl hi ?_;refine Ad.ite (fun h=>?_) (fun ai=>?_)
   ·exact Ad.intro (.inl ⟨(7,(i:Int)),rfl,C5 A (by unfold CC;rw [K,if_pos (by omega)]) hi⟩)
   refine Ad.ite (fun h=>?_) (fun aj=>?_)
   ·exact Ad.intro (.inl ⟨(6,(i:Int)),rfl,C5 A (by unfold CC;rw [K,if_neg (by omega),if_pos (by omega)]) hi⟩)
   refine Ad.b (Mp ab (by omega) (by omega)) ?_;intro e he;refine Ad.ite (fun h=>?_) (fun h=>?_)
   ·obtain⟨c,rfl⟩:=Option.isSome_iff_exists.1 h;refine Ad.intro (.inl ⟨c,rfl,C5 A ?_ hi⟩);unfold CC;rw [K,if_neg (by omega),if_neg (by omega),← he];rfl
   ·obtain rfl:e=none:=by cases e <;> simp_all
    have aa:Db J.1.length (i:Int) true J.1[i]=none:=he.symm;refine Ad.Bo (m:=i) rfl O ?_;refine Ad.ite (fun h=>?_) (fun ak=>?_)
    ·refine Ad.intro (.inl ⟨(6,(i:Int)),rfl,C5 A ?_ hi⟩);unfold CC;rw [K,Z,if_neg (by omega),if_neg (by omega),aa];simp only;rw [if_pos (by omega)]
    refine Ad.Bo (m:=i) rfl O ?_;refine Ad.b (Mp ab (by omega) (by omega)) ?_;intro ac ae;refine Ad.ite (fun h=>?_) (fun h=>?_)
    ·obtain⟨c,rfl⟩:=Option.isSome_iff_exists.1 h;refine Ad.intro (.inl ⟨c,rfl,C5 A ?_ hi⟩);unfold CC;rw [K,Z,if_neg (by omega),if_neg (by omega),aa];simp only;rw [if_neg (by omega),← ae];rfl
    ·obtain rfl:ac=none:=by cases ac <;> simp_all
     refine Ad.A6 ((i+1:Nat):Int) (by simp) (by omega) (by omega) ?_;refine Ad.intro ⟨rfl,fun q ag=>?_⟩;by_cases e:q=i
     ·subst e;unfold CC;rw [K,Z,if_neg (by omega),if_neg (by omega),aa];simp only;rw [if_neg (by omega),← ae];rfl
     ·exact A q (by omega)
  ·rintro s ⟨rfl,A⟩;unfold IE;exact Ad.neg (by omega) (Ad.intro ⟨_,rfl,.inr ⟨rfl,EZ A⟩⟩)
 ·rintro q (⟨c,rfl,h⟩ | ⟨rfl,h⟩)
  ·exact Ad.intro h.symm
  ·exact Ad.intro h.symm
theorem Iw{n:Nat}{m:Int}{b:Bool}{l:List Int}{c:Int}(h:Db n m b l=some c):c≠0:=by
 obtain⟨i,_,hi⟩:=List.exists_of_findSome?_eq_some h;unfold Dl at hi;split at hi
 ·cases hi;omega
 ·split at hi
  ·cases hi;omega
  ·split at hi
   ·cases hi;omega
   ·cases hi
theorem R3{J:JW}{i:Nat}{c:Int}(h:CC J i=some c):c≠0:=by
 unfold CC at h;split at h
 ·cases h;omega
 ·split at h
  ·cases h;omega
  ·split at h
   ·rename_i e;cases h;exact Iw e
   ·split at h
    ·cases h;omega
    ·exact Iw h
theorem HJ{J:JW}{c:Int}(h:CJ J=some c):c≠0:=by
 unfold CJ at h;split at h
 ·cases h;omega
 ·split at h
  ·cases h;omega
  ·split at h
   ·cases h;omega
   ·obtain⟨i,_,hi⟩:=List.exists_of_findSome?_eq_some h;exact R3 hi
theorem Nr{F:Nat}{J:JW}(ac:100<F)(U:NL J):f68 F J=some ((CJ J).getD 0):=by
 have ag:=U.l1;refine Ad.Dv ?_;unfold f68 CJ;refine Ad.ite (fun h=>?_) (fun h=>?_)
 ·rw [if_pos (show J.1.length=0 by omega)];exact Ad.intro rfl
 rw [if_neg (show ¬J.1.length=0 by omega)];refine Ad.ite (fun h=>?_) (fun h=>?_)
 ·rw [if_pos (show 8<J.1.length by omega)];exact Ad.intro rfl
 rw [if_neg (show ¬8<J.1.length by omega)];refine Ad.ite (fun h=>?_) (fun h=>?_)
 ·rw [if_pos (show J.2.length≠J.1.length by omega)];exact Ad.intro rfl
 rw [if_neg (show ¬J.2.length≠J.1.length by omega)];refine Ad.b (S:=fun q=>(∃c,q=Sum.inl c∧(List.range J.1.length).findSome? (CC J)=some c)∨(q=Sum.inr ()∧(List.range J.1.length).findSome? (CC J)=none)) ?_ ?_
 ·refine Ad.upto J.1.length (fun i s=>s=(i:Int)∧∀q,q<i→CC J q=none) ⟨rfl,fun q ae=>by omega⟩ (by omega) ?_ ?_
  ·rintro i s hi ⟨rfl,A⟩;unfold IX;have Z:i<J.2.length:=by omega
   have O:J.1.getD i []=J.1[i]:=Ec hi;have aa:J.2.getD i []=J.2[i]:=Ec Z;have n1:=U.n1 _ (List.getElem_mem hi);have n2:=U.n2 _ (List.getElem_mem Z);refine Ad.pos (by omega) ?_;refine Ad.Bo (m:=i) rfl hi ?_;refine Ad.be (Qr (m:=(i:Int)) ac (by omega) (by omega)) ?_;by_cases K:J.1[i].length=0
   ·rw [if_pos K];exact Ad.pos (by omega) (Ad.intro (.inl ⟨7,rfl,C5 A (by unfold CC;rw [O,if_pos K]) hi⟩))
   rw [if_neg K];by_cases c2:3<J.1[i].length
   ·rw [if_pos c2];exact Ad.pos (by omega) (Ad.intro (.inl ⟨6,rfl,C5 A (by unfold CC;rw [O,if_neg K,if_pos c2]) hi⟩))
   rw [if_neg c2];cases he:Db J.1.length (i:Int) true J.1[i] with
   | some c=>
    exact Ad.pos (Iw he) (Ad.intro (.inl ⟨c,rfl,C5 A (by unfold CC;rw [O,if_neg K,if_neg c2,he]) hi⟩))
   | none=>
    refine Ad.neg (by simp) ?_;refine Ad.Bo (m:=i) rfl Z ?_;refine Ad.be (Q1 (m:=(i:Int)) ac (by omega) (by omega)) ?_;by_cases c3:3<J.2[i].length
    ·rw [if_pos c3];refine Ad.pos (by omega) (Ad.intro (.inl ⟨6,rfl,C5 A ?_ hi⟩));unfold CC;rw [O,aa,if_neg K,if_neg c2,he];simp only;rw [if_pos c3]
    rw [if_neg c3];cases ab:Db J.1.length (i:Int) false J.2[i] with
    | some c=>
     refine Ad.pos (Iw ab) (Ad.intro (.inl ⟨c,rfl,C5 A ?_ hi⟩));unfold CC;rw [O,aa,if_neg K,if_neg c2,he];simp only;rw [if_neg c3,ab]
    | none=>
     refine Ad.neg (by simp) ?_;refine Ad.A6 ((i+1:Nat):Int) (by simp) (by omega) (by omega) ?_;refine Ad.intro ⟨rfl,fun q ae=>?_⟩;by_cases e:q=i
     ·subst e;unfold CC;rw [O,aa,if_neg K,if_neg c2,he];simp only;rw [if_neg c3,ab]
     ·exact A q (by omega)
  ·rintro s ⟨rfl,A⟩;unfold IX;exact Ad.neg (by omega) (Ad.intro ⟨_,rfl,.inr ⟨rfl,EZ A⟩⟩)
 ·rintro q (⟨c,rfl,h⟩ | ⟨rfl,h⟩)
  ·exact Ad.intro (by rw [h];rfl)
  ·exact Ad.intro (by rw [h];rfl)
theorem LM{n:Nat}{m:Int}{b:Bool}{l:List Int}(h:Db n m b l=none):Dz n l∧l.Pairwise (·<·)∧(b=false→m ∉ l):=by
 have A:∀i (hi:i<l.length),¬(l[i]<0∨(n:Int) - 1<l[i])∧¬(l[i]=m∧b=false)∧¬(0<i∧l[i]≤l.getD (i - 1) 0):=fun i hi=>by
  have:=List.findSome?_eq_none_iff.1 h i (List.mem_range.2 hi);unfold Dl at this;rw [Ec hi] at this;split at this
  ·cases this
  ·split at this
   ·cases this
   ·split at this
    ·cases this
    ·rename_i O U Z;exact⟨O,U,Z⟩
 refine⟨fun x aa=>?_,?_,fun hb hm=>?_⟩
 ·obtain⟨i,hi,rfl⟩:=List.mem_iff_getElem.1 aa;have:=(A i hi).1;omega
 ·have step:∀i (hi:i+1<l.length),l[i]<l[i+1]:=fun i hi=>by
   have:=(A (i+1) hi).2.2;rw [show i+1 - 1=i by omega,Ec (by omega)] at this;omega
  rw [List.pairwise_iff_getElem];intro i j hi ag ah;have key:∀k (K:i+1+k<l.length),l[i]<l[i+1+k]:=fun k=>by
   induction k with
   | zero=>intro K;exact step i K
   | succ k ab=>intro K;have ac:=ab (by omega);have ae:=step (i+1+k) (by omega);exact Int.lt_trans ac ae
  have:=key (j - i - 1) (by omega);simpa [show i+1+(j - i - 1)=j by omega] using this
 ·obtain⟨i,hi,e⟩:=List.mem_iff_getElem.1 hm;exact(A i hi).2.1 ⟨e,hb⟩
theorem Hr{J:JW}(h:CJ J=none):VJ J.1.length J:=by
 unfold CJ at h;split at h
 ·cases h
 rename_i ah;split at h
 ·cases h
 rename_i ai;split at h
 ·cases h
 rename_i aj;have K:∀i,i<J.1.length→(J.1.getD i []).length≠0∧(J.1.getD i []).length≤3∧Db J.1.length i true (J.1.getD i [])=none∧(J.2.getD i []).length≤3∧Db J.1.length i false (J.2.getD i [])=none:=fun i hi=>by
  have:=List.findSome?_eq_none_iff.1 h i (List.mem_range.2 hi);unfold CC at this;split at this
  ·cases this
  ·split at this
   ·cases this
   ·split at this
    ·cases this
    ·rename_i ab ak _ ac;split at this
     ·cases this
     ·rename_i al;exact⟨ab,by omega,ac,by omega,this⟩
 refine⟨by omega,by omega,rfl,by omega,fun i l A=>?_,fun i l A=>?_⟩
 ·have hi:=(List.getElem?_eq_some_iff.1 A).1;obtain⟨ae,O,U,_,_⟩:=K i hi;have e:J.1.getD i []=l:=by rw [List.getD_eq_getElem?_getD,A];rfl
  rw [e] at ae O U;obtain⟨v1,v2,_⟩:=LM U;exact⟨⟨O,v1,v2⟩,by omega⟩
 ·have hi:i<J.1.length:=by have:=(List.getElem?_eq_some_iff.1 A).1;omega
  obtain⟨_,_,_,Z,aa⟩:=K i hi;have e:J.2.getD i []=l:=by rw [List.getD_eq_getElem?_getD,A];rfl
  rw [e] at Z aa;obtain⟨v1,v2,ag⟩:=LM aa;exact⟨⟨Z,v1,v2⟩,ag rfl⟩
theorem Mj{F:Nat}{J:JW}(A:100<F)(K:NL J):HP F J=some ((CJ J).getD 0):=by
 refine Ad.Dv ?_;unfold HP;refine Ad.b (Qq A K) ?_;intro e he;rw [← he];cases e with
 | none=>
  refine Ad.be (b:=0) ?_ (Ad.intro rfl);have:=PL F;unfold Kv at this;exact this
 | some q=>exact Ad.be (b:=q.1) rfl (Ad.intro rfl)
end Pal
namespace Pal
theorem L2{F:Nat}{J:JW}{ys:List Int}{c:Int}(A:100<F)(K:NL J)(h:CJ J=some c):FE F J ys=some (none,c):=by
 refine Ad.Dv ?_;unfold FE;refine Ad.be (Mj A K) ?_;rw [h];exact Ad.pos (HJ h) (Ad.intro rfl)
theorem L4{F:Nat}{J:JW}{ys:List Int}(U:100<F)(Z:NL J)(ac:ys.length<100)(h:CJ J=none):Ad (FE F J ys) (fun r=>(Dz 13 ys∧r=(some (J.1,J.2,ER J),0))∨(¬Dz 13 ys∧r=(none,1))):=by
 have aa:=Hr h;unfold FE;refine Ad.be (Mj U Z) ?_;rw [h];refine Ad.neg (by simp) ?_;refine Ad.b (S:=fun q=>(Dz 13 ys∧q=Sum.inr ())∨(¬Dz 13 ys∧q=Sum.inl (none,1))) ?_ ?_
 ·refine Ad.upto ys.length (fun i s=>s=(i:Int)∧Dz 13 (ys.take i)) ⟨rfl,fun x A=>by simp at A⟩ (by omega) ?_ ?_
  ·rintro i s hi ⟨rfl,K⟩;unfold Io;have hm:=List.getElem_mem hi;refine Ad.pos (by omega) ?_;refine Ad.Bo (m:=i) rfl hi ?_;refine Ad.be (M3 F _ _ _) ?_;refine Ad.ite (fun h=>?_) (fun h=>?_)
   ·have ab:=of_decide_eq_true h;refine Ad.intro (.inr ⟨fun A=>?_,rfl⟩);have:=A _ hm;omega
   ·have ab:¬(ys[i]<0∨12<ys[i]):=fun x=>h (decide_eq_true x);refine Ad.A6 ((i+1:Nat):Int) (by simp) (by omega) (by omega) ?_;refine Ad.intro ⟨rfl,fun x A=>?_⟩;rw [List.take_add_one,List.getElem?_eq_getElem hi] at A;simp only [Option.toList_some,List.mem_append,List.mem_singleton] at A;rcases A with A | rfl
    ·exact K x A
    ·omega
  ·rintro s ⟨rfl,K⟩;unfold Io;rw [List.take_length] at K;exact Ad.neg (by omega) (Ad.intro ⟨_,rfl,.inl ⟨K,rfl⟩⟩)
 ·rintro q (⟨O,rfl⟩ | ⟨O,rfl⟩)
  ·rw [Sum.elim_inr];refine Ad.be (SA U aa) ?_;exact Ad.intro (.inl ⟨O,rfl⟩)
  ·exact Ad.intro (.inr ⟨O,rfl⟩)
def Hz(J:JW)(a:Int)(r:Int×Int):Prop:=(∃c,CJ J=some c∧r=(0,c))∨(CJ J=none∧((¬(0≤a∧a≤12)∧r=(0,1))∨((0≤a∧a≤12)∧∃k:Nat,r=((k:Int),0)∧PS J a.toNat k∧∀j,j<k→¬PS J a.toNat j)))
def HF(J:JW)(a b:Int)(r:Bool×Int):Prop:=(∃c,CJ J=some c∧r=(false,c))∨(CJ J=none∧((¬((0≤a∧a≤12)∧(0≤b∧b≤12))∧r=(false,1))∨(((0≤a∧a≤12)∧(0≤b∧b≤12))∧r.2=0∧(r.1=true↔PS J a.toNat b.toNat))))
theorem Hz.uniq{J:JW}{a:Int}{r q:Int×Int}(h:Hz J a r)(Z:Hz J a q):r=q:=by
 rcases h with⟨c,U,rfl⟩ | ⟨U,K⟩ <;> rcases Z with⟨ab,A,rfl⟩ | ⟨A,O⟩
 ·rw [U] at A;cases A;rfl
 ·rw [U] at A;cases A
 ·rw [U] at A;cases A
 ·rcases K with⟨K,rfl⟩ | ⟨K,k,rfl,k1,aa⟩ <;> rcases O with⟨O,rfl⟩ | ⟨O,k',rfl,l1,l2⟩
  ·rfl
  ·exact absurd O K
  ·exact absurd K O
  ·have e:k=k':=by
    rcases Nat.lt_trichotomy k k' with e | e | e
    ·exact absurd k1 (l2 k e)
    ·exact e
    ·exact absurd l1 (aa k' e)
   rw [e]
theorem HF.uniq{J:JW}{a b:Int}{r q:Bool×Int}(h:HF J a b r)(Z:HF J a b q):r=q:=by
 rcases h with⟨c,U,rfl⟩ | ⟨U,K⟩ <;> rcases Z with⟨ab,A,rfl⟩ | ⟨A,O⟩
 ·rw [U] at A;cases A;rfl
 ·rw [U] at A;cases A
 ·rw [U] at A;cases A
 ·rcases K with⟨K,rfl⟩ | ⟨K,k1,aa⟩ <;> rcases O with⟨O,rfl⟩ | ⟨O,l1,l2⟩
  ·rfl
  ·exact absurd O K
  ·exact absurd K O
  ·refine Prod.ext ?_ (k1.trans l1.symm);rw [Bool.eq_iff_iff,aa,l2]
theorem QM{F:Nat}{J:JW}{a:Int}(K:100<F)(U:NL J):Ad (Hb F J a) (Hz J a):=by
 unfold Hb;cases h:CJ J with
 | some c=>
  refine Ad.be (L2 K U h) ?_;exact Ad.pos (HJ h) (Ad.intro (.inl ⟨c,h,rfl⟩))
 | none=>
  have Z:=Hr h;refine Ad.b (L4 K U (by simp) h) ?_;rintro r (⟨O,rfl⟩ | ⟨O,rfl⟩)
  ·have ai:=O a (by simp);obtain⟨b,rfl⟩:∃b:Nat,a=(b:Int):=⟨a.toNat,by omega⟩;refine Ad.neg (by simp) ?_;refine Ad.be (b:=(J.1,J.2,ER J)) rfl ?_;refine Ad.b (S:=fun r=>∃k:Nat,r=(k:Int)∧PS J b k∧∀j,j<k→¬PS J b j) ?_ ?_
   ·refine Ad.iter (fun m s=>∃k:Nat,s=(k:Int)∧k≤b∧m=b - k∧∀j,j<k→¬PS J b j) ?_ (m:=b) ⟨0,rfl,by omega,rfl,fun j ag=>by omega⟩ (by omega);rintro m s ⟨k,rfl,aj,rfl,aa⟩;unfold Kg;refine Ad.b (MQ K Z (by omega) (by omega)) ?_;intro r ab;refine Ad.ite (fun h=>?_) (fun h=>?_)
    ·have ac:¬PS J b k:=fun A=>by rw [ab.2 A] at h;cases h
     have ak:k≠b:=fun e=>by subst e;exact ac (PS.self Z k)
     refine Ad.A6 ((k+1:Nat):Int) (by simp) (by omega) (by omega) ?_;refine Ad.intro ⟨b - (k+1),by omega,k+1,rfl,by omega,rfl,fun j ag=>?_⟩;rcases Nat.lt_or_ge j k with A | A
     ·exact aa j A
     ·obtain rfl:j=k:=by omega
      exact ac
    ·have A:r=true:=by cases r <;> simp_all
     exact Ad.intro ⟨k,rfl,ab.1 A,aa⟩
   ·rintro r ⟨k,rfl,k1,ah⟩;exact Ad.intro (.inr ⟨h,.inr ⟨by omega,k,rfl,k1,ah⟩⟩)
  ·refine Ad.pos (by simp) (Ad.intro (.inr ⟨h,.inl ⟨fun al=>O fun x ae=>?_,rfl⟩⟩));simp at ae;subst ae;omega
theorem QS{F:Nat}{J:JW}{a b:Int}(K:100<F)(O:NL J):Ad (HT F J a b) (HF J a b):=by
 unfold HT;cases h:CJ J with
 | some c=>
  refine Ad.be (L2 K O h) ?_;exact Ad.pos (HJ h) (Ad.intro (.inl ⟨c,h,rfl⟩))
 | none=>
  have Z:=Hr h;refine Ad.b (L4 K O (by simp) h) ?_;rintro r (⟨A,rfl⟩ | ⟨A,rfl⟩)
  ·have ab:=A a (by simp);have hb:=A b (by simp);obtain⟨x,rfl⟩:∃b:Nat,a=(b:Int):=⟨a.toNat,by omega⟩;obtain⟨y,rfl⟩:∃x:Nat,b=(x:Int):=⟨b.toNat,by omega⟩;refine Ad.neg (by simp) ?_;refine Ad.be (b:=(J.1,J.2,ER J)) rfl ?_;refine Ad.b (MQ K Z (by omega) (by omega)) ?_;intro r aa;exact Ad.intro (.inr ⟨h,.inr ⟨⟨by omega,by omega⟩,rfl,aa⟩⟩)
  ·refine Ad.pos (by simp) (Ad.intro (.inr ⟨h,.inl ⟨fun ac=>A fun x U=>?_,rfl⟩⟩));simp at U;rcases U with rfl | rfl <;> omega
theorem Ri{F n a m:Nat}{J:JW}{due A:List Bool}(al:100<F)(U:VJ n J)(ai:FP J n a due)(hm:m<n)(ab:A.length=n):
  Ad (iter (GK F J due (A,(m:Int))) F (A,0)) (fun r=>r.length=n∧∀x:Nat,x<n→(r[x]? =some true↔A[x]? =some true∨((AG J a).testBit m=true∧(x:Int)∈J.1.getD m []))):=by
 have am:=U.l1;have an:=U.le;have K:m<J.1.length:=by omega
 obtain⟨ac,ao⟩:=U.nx m _ (List.getElem?_eq_getElem K);have hlen:=ac.len;have aj:J.1.getD m []=J.1[m]:=Ec K;have ae:=ai.2 m hm;cases ag:(AG J a).testBit m with
 | false=>
  refine Ad.upto 0 (fun i st=>st=(A,0)) rfl (by omega) (fun i st hi=>by omega) ?_;rintro st rfl;unfold GK;refine Ad.Bo (m:=m) rfl K ?_;refine Ad.b (S:=fun c=>c=false) ?_ ?_
  ·refine Ad.ite (fun h=>?_) (fun h=>Ad.intro rfl);refine Ad.be (C6 (m:=m) rfl ae) ?_;exact Ad.intro ag
  ·rintro c rfl;refine Ad.neg (by simp) (Ad.intro ⟨_,rfl,ab,fun x O=>?_⟩);simp
 | true=>
  refine Ad.upto J.1[m].length (fun i st=>∃nx:List Bool,st=(nx,(i:Int))∧nx.length=n∧∀x:Nat,x<n→(nx[x]? =some true↔A[x]? =some true∨(x:Int)∈J.1[m].take i)) ⟨A,rfl,ab,fun x O=>by simp⟩ (by omega) ?_ ?_
  ·rintro i st hi ⟨nx,rfl,Z,aa⟩;unfold GK;refine Ad.Bo (m:=m) rfl K ?_;refine Ad.b (S:=fun c=>c=true) ?_ ?_
   ·refine Ad.pos (by simp only;omega) ?_;refine Ad.be (C6 (m:=m) rfl ae) ?_;exact Ad.intro ag
   ·rintro c rfl;refine Ad.pos rfl ?_;refine Ad.Bo (m:=m) rfl K ?_;refine Ad.Bo (m:=i) rfl hi ?_;have O:=ac.inr J.1[m][i] (List.getElem_mem hi);have ah:J.1[m][i].toNat<nx.length:=by omega
    refine Ad.Bo (m:=J.1[m][i].toNat) (show J.1[m][i]=_ by omega) ah ?_;refine Ad.A6 ((i+1:Nat):Int) (by simp) (by omega) (by omega) ?_;refine Ad.intro ⟨nx.set J.1[m][i].toNat true,rfl,by simpa using Z,fun x ak=>?_⟩;rw [Qo ah,aa x ak,List.take_add_one,List.getElem?_eq_getElem hi];simp only [Option.toList_some,List.mem_append,List.mem_singleton];rw [or_assoc];refine or_congr Iff.rfl (or_congr Iff.rfl ⟨fun h=>by omega,fun h=>by omega⟩)
  ·rintro st ⟨nx,rfl,Z,aa⟩;unfold GK;refine Ad.Bo (m:=m) rfl K ?_;refine Ad.b (S:=fun c=>c=false) (Ad.neg (by simp) (Ad.intro rfl)) ?_;rintro c rfl;refine Ad.neg (by simp) (Ad.intro ⟨_,rfl,Z,fun x O=>?_⟩);rw [aa x O,List.take_length,aj];simp
theorem Rc{F n a:Nat}{J:JW}{due:List Bool}(ab:100<F)(Z:VJ n J)(aa:FP J n a due):Ad (f119 F J due) (FP J n (a+1)):=by
 have al:=Z.le;have ac:=aa.1;unfold f119;refine Ad.be (b:=List.replicate n false) ?_ ?_
 ·unfold F6;rw [if_pos (by omega),ac];rfl
 refine Ad.b (S:=FP J n (a+1)) ?_ (fun r ae=>Ad.intro ae);refine Ad.upto n (fun k st=>∃nx:List Bool,st=(nx,(k:Int))∧Li J n a k nx) ⟨_,rfl,by simp,fun x O=>?_⟩ (by omega) ?_ ?_
 ·rw [List.getElem?_replicate,if_pos O];simp
 ·rintro k st ag ⟨nx,rfl,U⟩;unfold Ir;refine Ad.pos (by simp only;omega) ?_;refine Ad.b (Ri (m:=k) ab Z aa ag U.1) ?_;rintro ah ⟨ai,aj⟩;refine Ad.A6 ((k+1:Nat):Int) (by simp) (by omega) (by omega) ?_;refine Ad.intro ⟨ah,rfl,ai,fun x O=>?_⟩;rw [aj x O,U.2 x O];constructor
  ·rintro(⟨m,ak,A,K⟩ | ⟨A,K⟩)
   ·exact⟨m,by omega,A,K⟩
   ·exact⟨k,by omega,A,K⟩
  ·rintro⟨m,ak,A,K⟩;rcases Nat.lt_or_ge m k with h | h
   ·exact .inl ⟨m,h,A,K⟩
   ·obtain rfl:m=k:=by omega
    exact .inr ⟨A,K⟩
 ·rintro st ⟨nx,rfl,U⟩;unfold Ir;exact Ad.neg (by simp only;omega) (Ad.intro ⟨_,rfl,U.due Z⟩)
theorem Ux{n:Nat}{J:JW}(A:0<n):FP J n 0 ((List.replicate n false).set 0 true):=by
 refine⟨by simp,fun m hm=>?_⟩;by_cases e:m=0
 ·subst e;rw [List.getElem?_set_self (by simpa using hm)];exact congrArg some (show true=(1:Nat).testBit 0 by decide)
 ·rw [List.getElem?_set_ne (by omega),List.getElem?_replicate,if_pos hm];have:(AG J 0).testBit m=false:=by
   show(1:Nat).testBit m=false;have:=Nat.testBit_two_pow_of_ne (n:=0) (m:=m) (by omega);simpa using this
  rw [this]
theorem NU{F n a:Nat}{J:JW}(U:100<F)(A:VJ n J)(ac:a<13):Ad (f82 F J (a:Int)) (FP J n a):=by
 have ae:=A.le;have O:=A.pos;have Z:=A.l1;unfold f82;refine Ad.be (b:=List.replicate n false) ?_ ?_
 ·unfold F6;rw [if_pos (by omega),Z];rfl
 refine Ad.Bo (m:=0) rfl (by simpa using O) ?_;refine Ad.b (S:=FP J n a) ?_ (fun r aa=>Ad.intro aa);refine Ad.upto a (fun i st=>∃d:List Bool,st=(d,(i:Int))∧FP J n i d) ⟨_,rfl,Ux O⟩ (by omega) ?_ ?_
 ·rintro i st hi ⟨d,rfl,K⟩;unfold IV;refine Ad.pos (by simp only;omega) ?_;refine Ad.b (Rc U A K) ?_;intro d2 ab;refine Ad.A6 ((i+1:Nat):Int) (by simp) (by omega) (by omega) ?_;exact Ad.intro ⟨d2,rfl,ab⟩
 ·rintro st ⟨d,rfl,K⟩;unfold IV;exact Ad.neg (by simp) (Ad.intro ⟨_,rfl,K⟩)
theorem No{F n a b:Nat}{J:JW}(aj:100<F)(O:VJ n J)(ao:a<13)(hb:b<13):Ad (f110 F J (a:Int) (b:Int)) (fun r=>r=true↔PS J a b):=by
 have au:=O.le;have av:=O.l2;have ap:=G0 O a;have aw:=G0 O b;unfold f110;refine Ad.b (NU aj O ao) ?_;intro own ak;refine Ad.b (NU aj O hb) ?_;intro ay ht;have az:=ak.1;have aA:=ht.1;refine Ad.b (S:=fun q=>(q=Sum.inl true∧PS J a b)∨(q=Sum.inr ()∧¬PS J a b)) ?_ ?_
 ·refine Ad.upto n (fun i s=>s=(i:Int)∧∀m,m<i→¬((AG J a).testBit m=true∧((AG J b).testBit m=true∨∃x:Nat,(x:Int)∈J.2.getD m []∧(AG J b).testBit x=true))) ⟨rfl,fun m hm=>by omega⟩ (by omega) ?_ ?_
  ·rintro i s hi ⟨rfl,U⟩;unfold Iu;have al:=ak.2 i hi;have aq:=ht.2 i hi;have ae:=O.OX i;have hlen:=ae.len;have Z:J.2[i]? =some (J.2.getD i []):=by rw [List.getD_eq_getElem?_getD,List.getElem?_eq_getElem (by omega)];rfl
   refine Ad.pos (by omega) ?_;refine Ad.be (C6 (m:=i) rfl al) ?_;refine Ad.b (S:=fun c=>c=((AG J a).testBit i&&(AG J b).testBit i)) ?_ ?_
   ·refine Ad.ite (fun h=>?_) (fun h=>?_)
    ·refine Ad.be (C6 (m:=i) rfl aq) (Ad.intro ?_);rw [h];rfl
    ·refine Ad.intro ?_;cases aa:(AG J a).testBit i
     ·rfl
     ·exact absurd aa h
   ·rintro c rfl;refine Ad.ite (fun h=>?_) (fun h=>?_)
    ·rw [Bool.and_eq_true] at h;exact Ad.intro (.inl ⟨rfl,i,h.1,.inl h.2⟩)
    ·generalize am:J.2.getD i []=l at ae hlen Z U;refine Ad.b (S:=fun q=>(q=Sum.inl true∧PS J a b)∨(q=Sum.inr ()∧¬((AG J a).testBit i=true∧∃x:Nat,(x:Int)∈l∧(AG J b).testBit x=true))) ?_ ?_
     ·refine Ad.upto l.length (fun k s=>s=(k:Int)∧¬((AG J a).testBit i=true∧∃x:Nat,(x:Int)∈l.take k∧(AG J b).testBit x=true)) ⟨rfl,by simp⟩ (by omega) ?_ ?_
      ·rintro k s ab ⟨rfl,ac⟩;unfold Iz;have aa:=ae.inr l[k] (List.getElem_mem ab);obtain⟨x,ag⟩:∃x:Nat,l[k]=(x:Int):=⟨l[k].toNat,by omega⟩;have ar:=ht.2 x (by omega);refine Ad.be (C6 (m:=i) rfl Z) ?_;refine Ad.pos (by omega) ?_;refine Ad.be (C6 (m:=i) rfl al) ?_;refine Ad.b (S:=fun c=>c=((AG J a).testBit i&&(AG J b).testBit x)) ?_ ?_
       ·refine Ad.ite (fun h=>?_) (fun h=>?_)
        ·refine Ad.be (C6 (m:=i) rfl Z) ?_;refine Ad.Bo (m:=k) rfl ab ?_;refine Ad.be (C6 (m:=x) ag ar) (Ad.intro ?_);rw [h];rfl
        ·refine Ad.intro ?_;cases aa:(AG J a).testBit i
         ·rfl
         ·exact absurd aa h
       ·rintro c rfl;refine Ad.ite (fun h=>?_) (fun h=>?_)
        ·rw [Bool.and_eq_true] at h;refine Ad.intro (.inl ⟨rfl,i,h.1,.inr ⟨x,?_,h.2⟩⟩);rw [am,← ag];exact List.getElem_mem ab
        ·refine Ad.A6 ((k+1:Nat):Int) (by simp) (by omega) (by omega) ?_;refine Ad.intro ⟨rfl,?_⟩;rintro⟨K,y,A,an⟩;rw [List.take_add_one,List.getElem?_eq_getElem ab] at A;simp only [Option.toList_some,List.mem_append,List.mem_singleton] at A;rcases A with A | A
         ·exact ac ⟨K,y,A,an⟩
         ·rw [ag] at A;obtain rfl:y=x:=by omega
          rw [K,an] at h;exact h rfl
      ·rintro s ⟨rfl,ac⟩;unfold Iz;refine Ad.be (C6 (m:=i) rfl Z) ?_;refine Ad.neg (by omega) (Ad.intro ⟨_,rfl,.inr ⟨rfl,?_⟩⟩);rw [List.take_length] at ac;exact ac
     ·rintro q (⟨rfl,ah⟩ | ⟨rfl,ah⟩)
      ·exact Ad.intro (.inl ⟨rfl,ah⟩)
      ·rw [Sum.elim_inr];refine Ad.A6 ((i+1:Nat):Int) (by simp) (by omega) (by omega) ?_;refine Ad.intro ⟨rfl,fun m hm=>?_⟩;by_cases e:m=i
       ·subst e;rintro⟨K,A | A⟩
        ·rw [K,A] at h;exact h rfl
        ·rw [am] at A;exact ah ⟨K,A⟩
       ·exact U m (by omega)
  ·rintro s ⟨rfl,U⟩;unfold Iu;refine Ad.neg (by omega) (Ad.intro ⟨_,rfl,.inr ⟨rfl,?_⟩⟩);rintro⟨m,K,A⟩;exact U m (GI ap K) ⟨K,A⟩
 ·rintro q (⟨rfl,h⟩ | ⟨rfl,h⟩)
  ·exact Ad.intro ⟨fun _=>h,fun _=>rfl⟩
  ·exact Ad.intro ⟨fun ai=>(by cases ai),fun ai=>absurd ai h⟩
theorem Ra{F:Nat}{J:JW}{a:Int}(K:100<F)(ab:NL J):Ad (f58 F J a) (Hz J a):=by
 unfold f58;refine Ad.be (Nr K ab) ?_;cases h:CJ J with
 | some c=>exact Ad.pos (HJ h) (Ad.intro (.inl ⟨c,h,rfl⟩))
 | none=>
  have O:=Hr h;refine Ad.neg (by simp) ?_;refine Ad.be (Hv F _ _ _) ?_;refine Ad.ite (fun A=>?_) (fun A=>?_)
  ·exact Ad.intro (.inr ⟨h,.inl ⟨by simp at A;omega,rfl⟩⟩)
  ·have ag:0≤a∧a≤12:=by simpa using A
   obtain⟨b,rfl⟩:∃b:Nat,a=(b:Int):=⟨a.toNat,by omega⟩;refine Ad.b (S:=fun r=>∃k:Nat,r=(k:Int)∧PS J b k∧∀j,j<k→¬PS J b j) ?_ ?_
   ·refine Ad.iter (fun m s=>∃k:Nat,s=(k:Int)∧k≤b∧m=b - k∧∀j,j<k→¬PS J b j) ?_ (m:=b) ⟨0,rfl,by omega,rfl,fun j ac=>by omega⟩ (by omega);rintro m s ⟨k,rfl,ah,rfl,U⟩;unfold Ki;refine Ad.b (No K O (by omega) (by omega)) ?_;intro r Z;refine Ad.ite (fun h=>?_) (fun h=>?_)
    ·have aa:¬PS J b k:=fun A=>by rw [Z.2 A] at h;cases h
     have ai:k≠b:=fun e=>by subst e;exact aa (PS.self O k)
     refine Ad.A6 ((k+1:Nat):Int) (by simp) (by omega) (by omega) ?_;refine Ad.intro ⟨b - (k+1),by omega,k+1,rfl,by omega,rfl,fun j ac=>?_⟩;rcases Nat.lt_or_ge j k with A | A
     ·exact U j A
     ·obtain rfl:j=k:=by omega
      exact aa
    ·have A:r=true:=by cases r <;> simp_all
     exact Ad.intro ⟨k,rfl,Z.1 A,U⟩
   ·rintro r ⟨k,rfl,k1,ae⟩;exact Ad.intro (.inr ⟨h,.inr ⟨by omega,k,rfl,k1,ae⟩⟩)
theorem Rz{F:Nat}{J:JW}{a b:Int}(O:100<F)(U:NL J):Ad (f60 F J a b) (HF J a b):=by
 unfold f60;refine Ad.be (Nr O U) ?_;cases h:CJ J with
 | some c=>exact Ad.pos (HJ h) (Ad.intro (.inl ⟨c,h,rfl⟩))
 | none=>
  have Z:=Hr h;refine Ad.neg (by simp) ?_;refine Ad.be (Hv F _ _ _) ?_;refine Ad.b (S:=fun c=>c=decide (¬((0≤a∧a≤12)∧(0≤b∧b≤12)))) ?_ ?_
  ·refine Ad.ite (fun A=>?_) (fun A=>?_)
   ·have K:¬(0≤a∧a≤12):=by simp at A;omega
    exact Ad.intro (decide_eq_true (show ¬((0≤a∧a≤12)∧(0≤b∧b≤12)) from fun x=>K x.1)).symm
   ·have K:0≤a∧a≤12:=by simpa using A
    refine Ad.be (Hv F _ _ _) (Ad.intro ?_);rw [← decide_not];exact decide_eq_decide.2 ⟨fun x y=>x y.2,fun x y=>x ⟨K,y⟩⟩
  ·rintro c rfl;refine Ad.ite (fun A=>?_) (fun A=>?_)
   ·exact Ad.intro (.inr ⟨h,.inl ⟨of_decide_eq_true A,rfl⟩⟩)
   ·have aa:(0≤a∧a≤12)∧(0≤b∧b≤12):=by simp at A;omega
    obtain⟨⟨ac,ae⟩,⟨ag,ah⟩⟩:=aa;obtain⟨x,rfl⟩:∃b:Nat,a=(b:Int):=⟨a.toNat,by omega⟩;obtain⟨y,rfl⟩:∃x:Nat,b=(x:Int):=⟨b.toNat,by omega⟩;refine Ad.b (No O Z (by omega) (by omega)) ?_;intro r ab;exact Ad.intro (.inr ⟨h,.inr ⟨⟨⟨by omega,by omega⟩,⟨by omega,by omega⟩⟩,rfl,ab⟩⟩)
theorem Ob{F:Nat}{l:List (List Int)}(ab:100<F)(ac:l.length≤20)(O:∀x∈l,x.length≤20):f77 F l=some l:=by
 refine Ad.Dv ?_;unfold f77;refine Ad.be (b:=List.replicate l.length []) ?_ ?_
 ·unfold F6;rw [if_pos (by omega)];rfl
 refine Ad.b (S:=fun r=>r=l) ?_ (fun r U=>Ad.intro U);refine Ad.upto l.length (fun i s=>s.2=(i:Int)∧s.1=l.take i++List.replicate (l.length - i) []) ⟨rfl,by simp⟩ (by omega) ?_ ?_
 ·rintro i ⟨o,c⟩ hi ⟨A,K⟩;simp only at A K;subst A;subst K;unfold I0;refine Ad.pos (by simp only;omega) ?_;refine Ad.Bo (m:=i) rfl hi ?_;refine Ad.be (b:=l[i]) ?_ ?_
  ·unfold f108;have:C7 ([]:List Int) l[i]=some l[i]:=by unfold C7;rw [if_pos (by have:=O _ (List.getElem_mem hi);simp;omega)];rfl
   rw [this];rfl
  have Z:(l.take i).length=i:=by rw [List.length_take];omega
  refine Ad.Bo (m:=i) rfl (by simp;omega) ?_;refine Ad.A6 ((i+1:Nat):Int) (by simp) (by omega) (by omega) ?_;refine Ad.intro ⟨rfl,?_⟩;simp only;rw [show Int.toNat (i:Int)=i by omega,List.set_append,if_neg (by omega),Z,Nat.sub_self];obtain⟨k,aa⟩:∃k,l.length - i=k+1:=⟨l.length - i - 1,by omega⟩;rw [aa,List.replicate_succ,List.set_cons_zero,List.take_add_one,List.getElem?_eq_getElem hi,show l.length - (i+1)=k by omega];simp only [Option.toList_some,List.append_assoc,List.cons_append,List.nil_append]
 ·rintro⟨o,c⟩ ⟨A,K⟩;simp only at A K;subst A;subst K;unfold I0;exact Ad.neg (by simp) (Ad.intro ⟨_,rfl,by simp⟩)
theorem SK{F:Nat}{J:JW}(K:100<F)(A:NL J):f26 F J=some J:=by
 unfold f26;rw [Ob K A.l1 A.n1,Option.bind_some,Ob K A.l2 A.n2];rfl
theorem Tu{F:Nat}{l:List Int}(A:100<F)(K:l.length≤20):f32 F l l=some true:=by
 refine Ad.Dv ?_;unfold f32;refine Ad.b (S:=fun q=>q=Sum.inr ()) ?_ (by rintro q rfl;exact Ad.intro (by simp));refine Ad.upto l.length (fun i s=>s=(i:Int)) rfl (by omega) ?_ ?_
 ·rintro i s hi rfl;unfold IW;refine Ad.b (S:=fun c=>c=true) (Ad.pos (by omega) (Ad.intro (decide_eq_true (by omega)))) ?_;rintro c rfl;refine Ad.pos rfl ?_;refine Ad.Bo (m:=i) rfl hi ?_;refine Ad.Bo (m:=i) rfl hi ?_;refine Ad.neg (by simp) ?_;refine Ad.A6 ((i+1:Nat):Int) (by simp) (by omega) (by omega) ?_;exact Ad.intro rfl
 ·rintro s rfl;unfold IW;refine Ad.b (S:=fun c=>c=false) (Ad.neg (by omega) (Ad.intro rfl)) ?_;rintro c rfl;exact Ad.neg (by simp) (Ad.intro ⟨_,rfl,rfl⟩)
theorem N3{F:Nat}{l:List (List Int)}(A:100<F)(O:l.length≤20)(K:∀x∈l,x.length≤20):f84 F l l=some true:=by
 refine Ad.Dv ?_;unfold f84;refine Ad.b (S:=fun q=>q=Sum.inr ()) ?_ (by rintro q rfl;exact Ad.intro (by simp));refine Ad.upto l.length (fun i s=>s=(i:Int)) rfl (by omega) ?_ ?_
 ·rintro i s hi rfl;unfold IT;refine Ad.b (S:=fun c=>c=true) (Ad.pos (by omega) (Ad.intro (decide_eq_true (by omega)))) ?_;rintro c rfl;refine Ad.pos rfl ?_;refine Ad.Bo (m:=i) rfl hi ?_;refine Ad.Bo (m:=i) rfl hi ?_;refine Ad.be (Tu A (K _ (List.getElem_mem hi))) ?_;refine Ad.neg (by simp) ?_;refine Ad.A6 ((i+1:Nat):Int) (by simp) (by omega) (by omega) ?_;exact Ad.intro rfl
 ·rintro s rfl;unfold IT;refine Ad.b (S:=fun c=>c=false) (Ad.neg (by omega) (Ad.intro rfl)) ?_;rintro c rfl;exact Ad.neg (by simp) (Ad.intro ⟨_,rfl,rfl⟩)
theorem Tm{F:Nat}{J:JW}(K:100<F)(A:NL J):f33 F J J=some true:=by
 refine Ad.Dv ?_;unfold f33;refine Ad.be (N3 K A.l1 A.n1) ?_;refine Ad.b (S:=fun c=>c=true) (Ad.pos rfl (Ad.be (N3 K A.l2 A.n2) (Ad.intro rfl))) ?_;rintro c rfl;exact Ad.intro rfl
theorem VJ.nl{n:Nat}{J:JW}(A:VJ n J):NL J:=by
 have O:=A.l1;have U:=A.l2;have Z:=A.le;refine⟨by omega,by omega,fun l K=>?_,fun l K=>?_⟩
 ·obtain⟨i,hi,rfl⟩:=List.mem_iff_getElem.1 K;have:=(A.nx i _ (List.getElem?_eq_getElem hi)).1.len;omega
 ·obtain⟨i,hi,rfl⟩:=List.mem_iff_getElem.1 K;have:=(A.fl i _ (List.getElem?_eq_getElem hi)).1.len;omega
theorem NN{F:Nat}{l:List (List Int)}(aa:100<F):Ad (f76 F l) (fun r=>r=false→l.length≤20∧∀x∈l,x.length≤20):=by
 unfold f76;refine Ad.b (S:=fun q=>q=Sum.inl true∨(q=Sum.inr ()∧∀x∈l.take 20,x.length≤20)) ?_ ?_
 ·refine Ad.upto (min l.length 20) (fun i s=>s=(i:Int)∧∀x∈l.take i,x.length≤20) ⟨rfl,by simp⟩ (by omega) ?_ ?_
  ·rintro i s hi ⟨rfl,K⟩;have O:i<l.length:=by omega
   unfold IQ;refine Ad.b (S:=fun c=>c=true) (Ad.pos (by omega) (Ad.intro (decide_eq_true (by omega)))) ?_;rintro c rfl;refine Ad.pos rfl ?_;refine Ad.Bo (m:=i) rfl O ?_;refine Ad.ite (fun h=>Ad.intro (.inl rfl)) (fun h=>?_);refine Ad.A6 ((i+1:Nat):Int) (by simp) (by omega) (by omega) ?_;refine Ad.intro ⟨rfl,fun x A=>?_⟩;rw [List.take_add_one,List.getElem?_eq_getElem O] at A;simp only [Option.toList_some,List.mem_append,List.mem_singleton] at A;rcases A with A | rfl
   ·exact K x A
   ·omega
  ·rintro s ⟨rfl,K⟩;unfold IQ;refine Ad.b (S:=fun c=>c=false) (Ad.ite (fun h=>Ad.intro (decide_eq_false (by omega))) (fun _=>Ad.intro rfl)) ?_;rintro c rfl;refine Ad.neg (by simp) (Ad.intro ⟨_,rfl,.inr ⟨rfl,fun x A=>K x ?_⟩⟩);rcases Nat.lt_or_ge l.length 20 with h | h
   ·rw [Nat.min_eq_left (by omega),List.take_length];exact List.mem_of_mem_take A
   ·rw [Nat.min_eq_right h];exact A
 ·rintro q (rfl | ⟨rfl,h⟩)
  ·exact Ad.intro fun h=>by cases h
  ·refine Ad.intro fun Z=>?_;have:=of_decide_eq_false Z;have U:l.length≤20:=by omega
   rw [List.take_of_length_le U] at h;exact⟨U,h⟩
theorem SN{F:Nat}{J:JW}(K:100<F):Ad (f21 F J) (fun r=>r=false→NL J):=by
 unfold f21;refine Ad.b (NN K) ?_;intro r O;refine Ad.b (S:=fun c=>c=false→NL J) ?_ (fun c U=>Ad.intro U);refine Ad.ite (fun h=>Ad.intro fun A=>(by cases A)) (fun h=>?_);obtain⟨Z,aa⟩:=O (by simpa using h);refine Ad.b (NN K) ?_;intro q ab;refine Ad.intro fun A=>?_;obtain⟨ac,ae⟩:=ab A;exact⟨Z,ac,aa,ae⟩
theorem To{F k:Nat}{b:Ej}{J:JW}(K:100<F)(aa:NL J)(hb:BG k b)(O:k<100):Ad (f24 F J b) (fun r=>(∃n A,VJ n A∧r.1= [J,A,A])∧BG (k+301) r.2):=by
 unfold f24;refine Ad.b (SD (mx:=7) K hb O (by omega) (by omega)) ?_;rintro⟨A,ab⟩ ⟨⟨n,_,U⟩,Z⟩;exact Ad.intro ⟨⟨n,A,U,rfl⟩,Z⟩
end Pal
namespace Pal
open Go Go.Conc Go.Proofs
open Go.Proofs.Tryz
def IH(fuel:Nat)(p1:Int)(p2:Int)(O:(List (A2))×(BS))(U:Int)(Z:(A2))(A:Int):Option (A4 (Int) ((Bool)⊕(Unit))):=
 if A≤13 then(
  Option.bind (
   if 0≤A then(
    some A
   ) else(
    some p1
   )
  ) fun K=>
  (Hb fuel Z K).bind fun aa=>
  (ix O.1 (U)).bind fun ag=>
  (f58 fuel ag K).bind fun ab=>
  (HT fuel Z K p2).bind fun ac=>
  (ix O.1 (U)).bind fun ah=>
  (f60 fuel ah K p2).bind fun ae=>
  Option.bind (
   if aa.1≠ab.1 then(
    some true
   ) else(
    some (decide (aa.2≠ab.2))
   )
  ) fun ai=>
  Option.bind (
   if ai=true then(
    some true
   ) else(
    some ((ac.1) != (ae.1))
   )
  ) fun aj=>
  Option.bind (
   if aj=true then(
    some true
   ) else(
    some (decide (ac.2≠ae.2))
   )
  ) fun ak=>
  if ak=true then(
   some (.done (Sum.inl false))
  ) else(
   (Ax (A+1)).bind fun al=>
   some (.more al)
  )
 ) else(
  some (.done (Sum.inr ()))
 )
def ID(fuel:Nat)(p1:Int)(p2:Int)(K:(List (A2))×(BS))(A:Int):Option (A4 (Int) ((Bool)⊕(Unit))):=
 if A<2 then(
  (ix K.1 (A)).bind fun U=>
  (f26 fuel U).bind fun O=>
  Option.bind (iter (IH fuel p1 p2 K A O) fuel (-1)) fun Z=>
  Sum.elim (fun r=>some (.done (Sum.inl r))) (fun ae=>
  (ix K.1 (A)).bind fun aa=>
  (f33 fuel O aa).bind fun ab=>
  if(!ab)=true then(
   some (.done (Sum.inl false))
  ) else(
   (Ax (A+1)).bind fun ac=>
   some (.more ac)
  )
  ) Z
 ) else(
  some (.done (Sum.inr ()))
 )
def Jw(fuel:Nat)(p0:A2)(p1:Int)(p2:Int)(p3:List Int):Option (Bool):=
 (f21 fuel p0).bind fun A=>
 if A=true then(
  (G9 fuel).bind fun K=>
  some K
 ) else(
  (f23 fuel p3).bind fun O=>
  (f24 fuel p0 O).bind fun U=>
  Option.bind (iter (ID fuel p1 p2 U) fuel 0) fun Z=>
  Sum.elim (fun r=>some r) (fun ab=>
  (G9 fuel).bind fun aa=>
  some aa
  ) Z
 )
theorem Qu{E H:LH}{aA:Ar}{c2:Nat}{aB:Ar}{aC:Nat}{aD:Ar}{aE:Nat}{p0:A2}{p1:Int}{p2:Int}{p3:List Int}(au:GE E)(a2:Ao (rL rI) E aA c2 (p0.1))(a3:Ao (rL rI) E aB aC (p0.2))(bF:Ao rI E aD aE (p3)){fuel:Nat}{r:Bool}(a4:Jw fuel p0 p1 p2 p3=some r):(Cr Tryz.prog).ok (Hw Tryz.prog (fun v _=>v= .bool r)) (G (Frame.enter Tryz.prog 13 ([.agg #[.slice aA (p0.1).length c2,.slice aB (p0.2).length aC],iV p1,iV p2,.slice aD (p3).length aE]:List Value).toArray .normal) []) (mk E H []):=by
 refine PM func13 rfl rfl (Nat.le_of_ble_eq_true rfl) ?_;have bG:Ay E H [[]]:=trivial;unfold Jw at a4;refine zg 2 rfl ?_;refine JS.box (v:= .agg #[.slice aA (p0.1).length c2,.slice aB (p0.2).length aC]) rfl rfl rfl bG rfl fun dJ bH=>?_;refine JS.Ba 1 bH rfl fun dK Z a5 bI=>?_;refine zg 5 rfl ?_;refine JL.Bj a5 (Al underlying24) (Ag type24) rfl rfl ?_;obtain⟨bJ,bK,a6⟩:=bs a4;refine JS.cl (Ua (a2.mono Z) (a3.mono Z) bK) rfl rfl (Aw func21 rfl) bI ?_;rintro _ dL _ ae ⟨rfl,rfl⟩ a7;refine JL.done ?_;refine JL.split (t:=bJ) rfl (fun aF=>?_) (fun aF=>?_)
 ·have bL:=ip a6 aF;obtain⟨bM,bN,bO⟩:=bs bL;refine zg 2 rfl ?_;refine JS.cl (N7 (au.mono (Z.trans ae)) bN) rfl rfl (Aw func22 rfl) a7 ?_;rintro _ dM _ dN ⟨rfl,rfl⟩ dO;refine zg 2 rfl ?_;obtain rfl:=oi bO;exact JL.EE rfl (JO.end (v:= .bool bM) rfl (by decide+kernel) func13 rfl rfl rfl)
 ·have bP:=ib a6 aF;refine zg 2 rfl ?_;refine JG.Co 3 mixed rfl (by decide+kernel) fun ht=>?_;refine JG.Bj 0 ht (a5.mono ae) (Al underlying24) (Ag type24) rfl rfl rfl ?_;refine JG.mv 1 ht rfl rfl ?_;obtain⟨dP,bQ,bR⟩:=bs bP;refine JG.call (i:=2) (vs:= [.slice aD (p3).length aE]) (TM (bF.mono (Z.trans ae)) bQ) (by decide+kernel) rfl rfl rfl (Aw func23 rfl) rfl a7 ?_;rintro _ dQ _ an ⟨dR,dS,dT,rfl,rfl,bS⟩ bT;refine Av.leaf (tail:= [3,4]) (by decide+kernel) (fun t=>A1 (by decide+kernel) (A1 (by decide+kernel) BM) t) ?_;obtain⟨aa,bU,bV⟩:=bs bR;refine JS.BL 3 (T1 (a2.mono ((Z.trans ae).trans an)) (a3.mono ((Z.trans ae).trans an)) bS bU) rfl rfl (Aw func24 rfl) bT rfl ?_;rintro _ aG _ aH ⟨ab,ac,dU,dV,rfl,rfl,av,dW⟩ bW;obtain⟨a8,bX,aI⟩:=bs bV;refine zg 7 rfl ?_;refine JL.join (fun L s=>∃(a9:Unit) (ba:LH),a8=Sum.inr a9∧Jm aG H ba [] [] L s) ?_ ?_
  ·rintro _ _ ⟨a9,ba,rfl,rfl,rfl,bY,bZ⟩;have b0:=elim_inr aI;obtain⟨b1,b2,b3⟩:=bs b0;refine zg 2 rfl ?_;refine JS.cl (N7 (au.mono ((((Z.trans ae).trans an).trans aH).trans bY)) b2) rfl rfl (Aw func22 rfl) bZ ?_;rintro _ dX _ dY ⟨rfl,rfl⟩ dZ;refine zg 2 rfl ?_;obtain rfl:=oi b3;exact JL.EE rfl (JO.end (v:= .bool b1) rfl (by decide+kernel) func13 rfl rfl rfl)
  ·intro b4;refine JL.block ?_;refine JS.drop 3 bW rfl fun b5=>?_;refine JL.wk [(1,iV p1),(2,iV p2),(9,.slice ab (aa.1).length ac),(10,iV 0)] rfl ?_;refine JL.Bf bX (fun L s U=>∃(aJ:LH),Jm aG H aJ [] [(1,iV p1),(2,iV p2),(9,.slice ab (aa.1).length ac),(10,iV U)] L s) ⟨aG,rfl,rfl,(Le.refl _),b5⟩ ?_;rintro _ _ U ⟨aJ,rfl,rfl,ag,bb⟩ aK ⟨ea,ao⟩ b6;have aL:=ao;unfold ID at aL;refine zg 6 rfl ?_;refine JL.ifs (p:=U<2) rfl (fun aM=>?_) (fun aM=>?_)
   ·have b7:=ip aL aM;obtain⟨eb,b8,b9⟩:=bs b7;refine zg 7 rfl ?_;refine JS.BF (av.mono ag) b8 rfl rfl rfl rfl rfl underlying33 (Ag type24) ?_;rintro ec ed _ ⟨_,_,rfl,⟨ee,ef,rfl,ca⟩,⟨eg,eh,rfl,cb⟩⟩ cc;refine JL.Bj cc (Al underlying24) (Ag type24) rfl rfl ?_;obtain⟨bc,cd,ce⟩:=bs b9;refine JS.cl (TJ ca cb cd) rfl rfl (Aw func26 rfl) bb ?_;rintro _ ei _ ak ⟨cf,cg,ci,ck,rfl,rfl,aN,aO⟩ cm;refine JS.alloc rfl rfl rfl cm (AO type24) fun ai cn=>?_;refine JS.st (v:= .agg #[.slice cf (bc.1).length cg,.slice ci (bc.2).length ck]) (off:=0) 1 cn (Ag type24) rfl rfl rfl rfl fun co=>?_;refine JS.Ba 1 co rfl fun aP A aQ cp=>?_;obtain⟨bd,cq,bf⟩:=bs ce;refine zg 6 rfl ?_;refine JL.join (fun L s=>∃(bg:Unit) (bh:LH),bd=Sum.inr bg∧Jm aP H bh [] [(1,iV p1),(2,iV p2),(9,.slice ab (aa.1).length ac),(10,iV U),(11,.pointer (some ⟨ai,0,none⟩))] L s) ?_ ?_
    ·rintro _ _ ⟨bg,bh,rfl,rfl,rfl,ap,cr⟩;have ct:=elim_inr bf;refine JL.seq ?_;refine JG.Co 5 mixed rfl (by decide+kernel) fun ht=>?_;refine JG.Bj 0 ht (aQ.mono ap) (Al underlying24) (Ag type24) rfl rfl rfl ?_;refine JG.ms ht rfl [1,2] rfl ?_;obtain⟨ej,cu,cv⟩:=bs ct;refine JG.idx 3 (av.mono (((ag.trans ak).trans A).trans ap)) cu rfl ht (by decide+kernel) rfl rfl rfl rfl rfl underlying33 (Ag type24) ?_;rintro ek el _ ⟨_,_,rfl,⟨em,eo,rfl,cw⟩,⟨ep,eq,rfl,cy⟩⟩ cz;refine JG.Bj 4 ht cz (Al underlying24) (Ag type24) rfl rfl rfl ?_;refine Av.leaf (tail:= [5,6]) (by decide+kernel) (fun t=>A1 (by decide+kernel) (A1 (by decide+kernel) BM) t) ?_;obtain⟨bi,cA,bj⟩:=bs cv;refine JS.cl (TL (aN.mono (A.trans ap)) (aO.mono (A.trans ap)) cw cy cA) rfl rfl (Aw func33 rfl) cr ?_;rintro _ cB _ cC ⟨rfl,rfl⟩ cD;refine JL.Y (v:= .bool (!bi)) rfl (fun ρ h=>Yl.not (h _ _ rfl)) ?_;refine JL.done ?_;refine JL.split (t:=(!bi)) rfl (fun aR=>?_) (fun aR=>?_)
     ·have cE:=ip bj aR;refine zg 4 rfl ?_;obtain rfl:=oi cE;obtain rfl:=aK _ ao;have cF:=elim_inl aI;obtain rfl:=oi cF;exact JL.EE rfl (JO.end (v:= .bool false) rfl (by decide+kernel) func13 rfl rfl rfl)
     ·have cG:=ib bj aR;obtain⟨cH,cI,cJ⟩:=bs cG;refine zg 4 rfl ?_;refine JL.Y rfl (fun ρ h=>Yl.A0 (h _ _ rfl) (h _ _ rfl) cI) ?_;refine zg 2 rfl ?_;obtain rfl:=oi cJ;exact JL.kw (b6 _ _ cH ⟨cB,rfl,rfl,((((ag.trans ak).trans A).trans ap).trans cC),cD⟩ ao) rfl
    ·intro cK;refine JL.block ?_;refine JL.wk [(1,iV p1),(2,iV p2),(9,.slice ab (aa.1).length ac),(10,iV U),(11,.pointer (some ⟨ai,0,none⟩)),(12,iV (-1))] rfl ?_;refine JL.Bf cq (fun L s ah=>∃(al:LH),Jm aP H al [] [(1,iV p1),(2,iV p2),(9,.slice ab (aa.1).length ac),(10,iV U),(11,.pointer (some ⟨ai,0,none⟩)),(12,iV ah)] L s) ⟨aP,rfl,rfl,(Le.refl _),cp⟩ ?_;rintro _ _ ah ⟨al,rfl,rfl,K,aS⟩ bk ⟨er,aw⟩ cM;have aT:=aw;unfold IH at aT;refine zg 6 rfl ?_;refine JL.ifs (p:=ah≤13) rfl (fun aU=>?_) (fun aU=>?_)
     ·have cN:=ip aT aU;obtain⟨cO,bl,cP⟩:=bs cN;refine zg 16 rfl ?_;refine JL.join (fun L s=>∃(bm:LH),Jm al H bm [] [(1,iV p1),(2,iV p2),(9,.slice ab (aa.1).length ac),(10,iV U),(11,.pointer (some ⟨ai,0,none⟩)),(12,iV ah),(13,iV cO),(14,iV p2)] L s) ?_ ?_
      ·rintro _ _ ⟨bm,rfl,rfl,O,cQ⟩;refine zg 2 rfl ?_;refine JL.Bj (aQ.mono (K.trans O)) (Al underlying24) (Ag type24) rfl rfl ?_;obtain⟨cR,cT,cV⟩:=bs cP;refine zg 1 rfl ?_;refine JS.cl (NS (au.mono ((((((((Z.trans ae).trans an).trans aH).trans ag).trans ak).trans A).trans K).trans O)) (aN.mono ((A.trans K).trans O)) (aO.mono ((A.trans K).trans O)) cT) rfl rfl (Aw func57 rfl) cQ ?_;rintro _ et _ aj ⟨rfl,rfl⟩ cW;obtain⟨eu,cX,cY⟩:=bs cV;refine zg 10 rfl ?_;refine JS.BF (av.mono (((((ag.trans ak).trans A).trans K).trans O).trans aj)) cX rfl rfl rfl rfl rfl underlying33 (Ag type24) ?_;rintro ew ex _ ⟨_,_,rfl,⟨ey,ez,rfl,cZ⟩,⟨eA,eB,rfl,c0⟩⟩ c1;refine JL.Bj c1 (Al underlying24) (Ag type24) rfl rfl ?_;obtain⟨c3,c4,c5⟩:=bs cY;refine zg 1 rfl ?_;refine JS.cl (T2 cZ c0 c4) rfl rfl (Aw func58 rfl) cW ?_;rintro _ eC _ am ⟨rfl,rfl⟩ c6;refine zg 8 rfl ?_;refine JL.Bj (aQ.mono (((K.trans O).trans aj).trans am)) (Al underlying24) (Ag type24) rfl rfl ?_;obtain⟨ay,c7,c8⟩:=bs c5;refine zg 2 rfl ?_;refine JS.cl (S2 (au.mono ((((((((((Z.trans ae).trans an).trans aH).trans ag).trans ak).trans A).trans K).trans O).trans aj).trans am)) (aN.mono ((((A.trans K).trans O).trans aj).trans am)) (aO.mono ((((A.trans K).trans O).trans aj).trans am)) c7) rfl rfl (Aw func59 rfl) c6 ?_;rintro _ eD _ bn ⟨rfl,rfl⟩ c9;obtain⟨eE,da,db⟩:=bs c8;refine zg 10 rfl ?_;refine JS.BF (av.mono (((((((ag.trans ak).trans A).trans K).trans O).trans aj).trans am).trans bn)) da rfl rfl rfl rfl rfl underlying33 (Ag type24) ?_;rintro eF eG _ ⟨_,_,rfl,⟨eH,eI,rfl,dc⟩,⟨eJ,eK,rfl,dd⟩⟩ de;refine JL.Bj de (Al underlying24) (Ag type24) rfl rfl ?_;obtain⟨az,df,dg⟩:=bs db;refine zg 2 rfl ?_;refine JS.cl (Uf dc dd df) rfl rfl (Aw func60 rfl) c9 ?_;rintro _ aV _ dh ⟨rfl,rfl⟩ bo;obtain⟨bp,bq,di⟩:=bs dg;refine zg 12 rfl ?_;refine JL.BI [8,9,10,11,12,13,14,15,16,17] (fun L s=>∃(aq:LH),Jm aV H aq [] [(1,iV p1),(2,iV p2),(9,.slice ab (aa.1).length ac),(10,iV U),(11,.pointer (some ⟨ai,0,none⟩)),(12,iV ah),(19,.bool ay.1),(20,iV ay.2),(21,.bool az.1),(22,iV az.2),(88,.bool bp)] L s) ?_ ?_
       ·rintro _ _ ⟨aq,rfl,rfl,dj,br⟩;obtain⟨bu,bv,dk⟩:=bs di;refine zg 1 rfl ?_;refine JL.BI [13,14,15,16,17] (fun L s=>∃(ar:LH),Jm aq H ar [] [(1,iV p1),(2,iV p2),(9,.slice ab (aa.1).length ac),(10,iV U),(11,.pointer (some ⟨ai,0,none⟩)),(12,iV ah),(20,iV ay.2),(22,iV az.2),(93,.bool bu)] L s) ?_ ?_
        ·rintro _ _ ⟨ar,rfl,rfl,dl,bw⟩;obtain⟨bx,bz,bA⟩:=bs dk;refine zg 1 rfl ?_;refine JL.BI [] (fun L s=>∃(aW:LH),Jm ar H aW [] [(1,iV p1),(2,iV p2),(9,.slice ab (aa.1).length ac),(10,iV U),(11,.pointer (some ⟨ai,0,none⟩)),(12,iV ah),(98,.bool bx)] L s) ?_ ?_
         ·rintro _ _ ⟨aW,rfl,rfl,dm,dn⟩;refine JL.done ?_;refine JL.split (t:=bx) rfl (fun aX=>?_) (fun aX=>?_)
          ·have dp:=ip bA aX;refine zg 4 rfl ?_;obtain rfl:=oi dp;obtain rfl:=bk _ aw;have dq:=elim_inl bf;obtain rfl:=oi dq;obtain rfl:=aK _ ao;have dr:=elim_inl aI;obtain rfl:=oi dr;exact JL.EE rfl (JO.end (v:= .bool false) rfl (by decide+kernel) func13 rfl rfl rfl)
          ·have dt:=ib bA aX;obtain⟨du,dv,dw⟩:=bs dt;refine zg 4 rfl ?_;refine JL.Y rfl (fun ρ h=>Yl.A0 (h _ _ rfl) (h _ _ rfl) dv) ?_;refine zg 2 rfl ?_;obtain rfl:=oi dw;exact JL.kw (cM _ _ du ⟨aW,rfl,rfl,((((((((K.trans O).trans aj).trans am).trans bn).trans dh).trans dj).trans dl).trans dm),dn⟩ aw) rfl
         ·intro bB;refine JL.Cg (c:=bu) (i:=94) rfl (fun aY=>?_) (fun aY=>?_)
          ·have dx:=ip bz aY;refine zg 4 rfl ?_;obtain rfl:=oi dx;exact JL.kw (bB _ _ ⟨ar,rfl,rfl,(Le.refl _),bw⟩) rfl
          ·have dy:=ib bz aY;refine zg 4 rfl ?_;obtain rfl:=oi dy;exact JL.kw (bB _ _ ⟨ar,rfl,rfl,(Le.refl _),bw⟩) rfl
        ·intro bC;refine JL.Cg (c:=bp) (i:=89) rfl (fun aZ=>?_) (fun aZ=>?_)
         ·have dz:=ip bv aZ;refine zg 4 rfl ?_;obtain rfl:=oi dz;exact JL.kw (bC _ _ ⟨aq,rfl,rfl,(Le.refl _),br⟩) rfl
         ·have dA:=ib bv aZ;refine zg 2 rfl ?_;refine JL.Y (v:= .bool (((ay.1) != (az.1)))) rfl (fun ρ h=>Yl.Uz underlying4 (h _ _ rfl) (h _ _ rfl)) ?_;refine zg 1 rfl ?_;obtain rfl:=oi dA;exact JL.kw (bC _ _ ⟨aq,rfl,rfl,(Le.refl _),br⟩) rfl
       ·intro bD;refine JL.BW (q:=cR.1≠c3.1) (i:=84) rfl (fun a0=>?_) (fun a0=>?_)
        ·have dB:=ip bq a0;refine zg 4 rfl ?_;obtain rfl:=oi dB;exact JL.kw (bD _ _ ⟨aV,rfl,rfl,(Le.refl _),bo⟩) rfl
        ·have dC:=im bq a0;refine zg 4 rfl ?_;obtain rfl:=oi dC;exact JL.kw (bD _ _ ⟨aV,rfl,rfl,(Le.refl _),bo⟩) rfl
      ·intro bE;refine JL.ifs (p:=0≤ah) rfl (fun a1=>?_) (fun a1=>?_)
       ·have dD:=ip bl a1;refine zg 6 rfl ?_;obtain rfl:=oi dD;exact JL.kw (bE _ _ ⟨al,rfl,rfl,(Le.refl _),aS⟩) rfl
       ·have dE:=im bl a1;refine JL.skip ?_;obtain rfl:=oi dE;exact JL.kw (bE _ _ ⟨al,rfl,rfl,(Le.refl _),aS⟩) rfl
     ·have dF:=im aT aU;refine JL.exit rfl ?_;obtain rfl:=oi dF;have dG:bd=(Sum.inr ()):=(bk _ aw).symm;exact JL.kw (cK _ _ ⟨(),al,dG,rfl,rfl,K,aS⟩) rfl
   ·have dH:=im aL aM;refine JL.exit rfl ?_;obtain rfl:=oi dH;have dI:a8=(Sum.inr ()):=(aK _ ao).symm;exact JL.kw (b4 _ _ ⟨(),aJ,dI,rfl,rfl,ag,bb⟩) rfl
end Pal
namespace Pal
theorem Rj{F:Nat}(A:100<F)(hs:G9 F=some true)(J:JW)(a b:Int)(Hc:List Int):Jw F J a b Hc=some true:=by
 refine Ad.Dv ?_;unfold Jw;refine Ad.b (SN A) ?_;intro al ac;refine Ad.ite (fun h=>Ad.be hs (Ad.intro rfl)) (fun h=>?_);have aa:=ac (by simpa using h);refine Ad.be (b:=(Hc,0,2685821657736338717)) rfl ?_;refine Ad.b (To (k:=0) (b:=(Hc,0,2685821657736338717)) A aa ⟨Int.le_refl _,Int.le_refl _⟩ (by omega)) ?_;rintro⟨am,an⟩ ⟨⟨n,Z,ae,ab⟩,_⟩;simp only at ab;subst ab;have ag:∀(i:Nat) (hi:i<2),∃K:JW,([J,Z,Z]:List JW)[i]? =some K∧NL K:=fun i hi=>by
  rcases i with _ | i
  ·exact⟨J,rfl,aa⟩
  ·obtain rfl:i=0:=by omega
   exact⟨Z,rfl,ae.nl⟩
 refine Ad.b (S:=fun q=>q=Sum.inr ()) ?_ (by rintro q rfl;rw [Sum.elim_inr];exact Ad.be hs (Ad.intro rfl));refine Ad.upto 2 (fun i s=>s=(i:Int)) rfl (by omega) ?_ ?_
 ·rintro i s hi rfl;unfold ID;obtain⟨K,U,O⟩:=ag i hi;refine Ad.pos (by omega) ?_;refine Ad.be (C6 (m:=i) rfl U) ?_;refine Ad.be (SK A O) ?_;refine Ad.b (S:=fun q=>q=Sum.inr ()) ?_ ?_
  ·refine Ad.upto 15 (fun k s=>s=(k:Int) - 1) rfl (by omega) ?_ ?_
   ·rintro k s ao rfl;unfold IH;refine Ad.pos (by omega) ?_;refine Ad.b (S:=fun _=>True) (Ad.ite (fun _=>Ad.intro trivial) (fun _=>Ad.intro trivial)) ?_;intro own _;refine Ad.b (QM A O) ?_;intro ap ah;refine Ad.be (C6 (m:=i) rfl U) ?_;refine Ad.b (Ra A O) ?_;intro aq ai;obtain rfl:=ah.uniq ai;refine Ad.b (QS A O) ?_;intro ar aj;refine Ad.be (C6 (m:=i) rfl U) ?_;refine Ad.b (Rz A O) ?_;intro au ak;obtain rfl:=aj.uniq ak;refine Ad.b (S:=fun c=>c=false) (Ad.neg (by simp) (Ad.intro (by simp))) ?_;rintro c rfl;refine Ad.b (S:=fun c=>c=false) (Ad.neg (by simp) (Ad.intro (by simp))) ?_;rintro c rfl;refine Ad.b (S:=fun c=>c=false) (Ad.neg (by simp) (Ad.intro (by simp))) ?_;rintro c rfl;refine Ad.neg (by simp) ?_;refine Ad.A6 (((k+1:Nat):Int) - 1) (by omega) (by omega) (by omega) ?_;exact Ad.intro rfl
   ·rintro s rfl;unfold IH;exact Ad.neg (by omega) (Ad.intro ⟨_,rfl,rfl⟩)
  ·rintro q rfl;rw [Sum.elim_inr];refine Ad.be (C6 (m:=i) rfl U) ?_;refine Ad.be (Tm A O) ?_;refine Ad.neg (by simp) ?_;refine Ad.A6 ((i+1:Nat):Int) (by simp) (by omega) (by omega) ?_;exact Ad.intro rfl
 ·rintro s rfl;unfold ID;exact Ad.neg (by omega) (Ad.intro ⟨_,rfl,rfl⟩)
end Pal
