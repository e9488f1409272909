/- ToothAlike answers true for every list of numbers, on every schedule; without a condition beyond those of the given row and card. Part 4 of 8. -/
import Derived.Test.YtboibffcmhheiaaGreatDoorAlb
import Derived.Test.YtboibffcmhheiaaGreatDoorAlc
import Derived.Sort.AssemblyPlain
import Derived.Sort.Walk13a
set_option linter.all false
set_option maxRecDepth 100000
namespace Pal
open Go Go.Conc Go.Proofs
open Go.Proofs.Tryz
variable {J:Judge Tryz.prog}{E:LH}
def NK:List Nat:= [0,1,2,2,3,3,3,3,4,4,4,4,4,4,4,4,5,5,5,5,5,5,5,5,5,5,5,5,5,5,5,5,6,6,6,6,6,6,6,6,6,6,6,6,6,6,6,6,6,6,6,6,6,6,6,6,6,6,6,6,6,6,6,6,7,7,7,7,7,7,7,7,7,7,7,7,7,7,7,7,7,7,7,7,7,7,7,7,7,7,7,7,7,7,7,7,7,7,7,7,7,7,7,7,7,7,7,7,7,7,7,7,7,7,7,7,7,7,7,7,7,7,7,7,7,7,7,7,8,8,8,8,8,8,8,8,8,8,8,8,8,8,8,8,8,8,8,8,8,8,8,8,8,8,8,8,8,8,8,8,8,8,8,8,8,8,8,8,8,8,8,8,8,8,8,8,8,8,8,8,8,8,8,8,8,8,8,8,8,8,8,8,8,8,8,8,8,8,8,8,8,8,8,8,8,8,8,8,8,8,8,8,8,8,8,8,8,8,8,8,8,8,8,8,8,8,8,8,8,8,8,8,8,8,8,8,8,8,8,8,8,8,8,8,8,8,8,8,8,8,8,8,8,8,8,8]
def f187(fuel:Nat)(p0:Nat):Option (Int):=
 Option.bind (
  if(((4294967296):Nat):Int)≤(((p0):Nat):Int) then(
   some (p0>>>32,32)
  ) else(
   some (p0,0)
  )
 ) fun K=>
 Option.bind (
  if(((65536):Nat):Int)≤(((K.1):Nat):Int) then(
   (Ay (K.2+16)).bind fun W=>
   some (K.1>>>16,W)
  ) else(
   some K
  )
 ) fun O=>
 Option.bind (
  if(((256):Nat):Int)≤(((O.1):Nat):Int) then(
   (Ay (O.2+8)).bind fun Z=>
   some (O.1>>>8,Z)
  ) else(
   some O
  )
 ) fun U=>
 (HZ NK (((((U.1) % 256):Nat):Int))).bind fun aa=>
 (Ay (((aa):Nat):Int)).bind fun ab=>
 (Ay (U.2+ab)).bind fun ae=>
 some ae
theorem Sm{p0:Nat}{fuel:Nat}{r:Int}(ag:f187 fuel p0=some r):As J 187 [.int .u64 ((p0:Nat):Int)] E [] (fun w E' B'=>w=iV r∧B'= []):=by
 refine As.en func187 rfl rfl fun Q aU cs H ah ar=>?_;unfold f187 at ag;obtain⟨U,ai,au⟩:=bs ag;refine zg 10 rfl ?_;refine JL.join (fun L s=>∃(K:LH),Jm E H K [] [(0,.int .u64 ((U.1:Nat):Int)),(2,iV U.2)] L s) ?_ ?_
 ·rintro _ _ ⟨K,rfl,rfl,av,aj⟩;obtain⟨W,ak,aw⟩:=bs au;refine zg 6 rfl ?_;refine JL.join (fun L s=>∃(O:LH),Jm K H O [] [(0,.int .u64 ((W.1:Nat):Int)),(2,iV W.2)] L s) ?_ ?_
  ·rintro _ _ ⟨O,rfl,rfl,ay,al⟩;obtain⟨Z,am,az⟩:=bs aw;refine zg 6 rfl ?_;refine JL.join (fun L s=>∃(an:LH),Jm O H an [] [(0,.int .u64 ((Z.1:Nat):Int)),(2,iV Z.2)] L s) ?_ ?_
   ·rintro _ _ ⟨an,rfl,rfl,aA,aB⟩;refine zg 4 rfl ?_;refine JL.Y (v:= .int .u8 (((Z.1) % 256:Nat):Int)) rfl (fun ρ h=>Yl.Tn underlying90 underlying5 (h _ _ rfl)) ?_;obtain⟨aC,aD,aE⟩:=bs az;refine JL.Y (v:= .int .u8 ((aC:Nat):Int)) rfl (fun ρ h=>Yl.Kq (l:=NK) (by decide+kernel) underlying9 (h _ _ rfl) (h _ _ rfl) aD) ?_;obtain⟨aF,aG,aH⟩:=bs aE;refine JL.Y (v:=iV aF) rfl (fun ρ h=>Yl.Ol underlying5 underlying3 (h _ _ rfl) aG) ?_;obtain⟨aV,aI,aJ⟩:=bs aH;refine JL.Y rfl (fun ρ h=>Yl.A6 (h _ _ rfl) (h _ _ rfl) aI) ?_;refine zg 2 rfl ?_;obtain rfl:=oi aJ;refine JL.rt func187 rfl rfl ?_;exact ar _ _ _ _ ((av.trans ay).trans aA) rfl ⟨rfl,rfl⟩ aB
   ·intro ao;refine JL.ifs (p:=(((256):Nat):Int)≤(((W.1):Nat):Int)) rfl (fun aa=>?_) (fun aa=>?_)
    ·have aK:=ip am aa;refine zg 3 rfl ?_;refine JL.Y (v:= .int .u64 ((W.1>>>8:Nat):Int)) rfl (fun ρ h=>Yl.Hf 8 (h _ _ rfl) (h _ _ rfl) (by decide)) ?_;obtain⟨aW,aL,aM⟩:=bs aK;refine zg 4 rfl ?_;refine JL.Y rfl (fun ρ h=>Yl.A6 (h _ _ rfl) (h _ _ rfl) aL) ?_;refine zg 2 rfl ?_;obtain rfl:=oi aM;exact JL.kw (ao _ _ ⟨O,rfl,rfl,(Le.refl _),al⟩) rfl
    ·have aN:=im am aa;refine JL.skip ?_;obtain rfl:=oi aN;exact JL.kw (ao _ _ ⟨O,rfl,rfl,(Le.refl _),al⟩) rfl
  ·intro ap;refine JL.ifs (p:=(((65536):Nat):Int)≤(((U.1):Nat):Int)) rfl (fun ab=>?_) (fun ab=>?_)
   ·have aO:=ip ak ab;refine zg 3 rfl ?_;refine JL.Y (v:= .int .u64 ((U.1>>>16:Nat):Int)) rfl (fun ρ h=>Yl.Hf 16 (h _ _ rfl) (h _ _ rfl) (by decide)) ?_;obtain⟨aX,aP,aQ⟩:=bs aO;refine zg 4 rfl ?_;refine JL.Y rfl (fun ρ h=>Yl.A6 (h _ _ rfl) (h _ _ rfl) aP) ?_;refine zg 2 rfl ?_;obtain rfl:=oi aQ;exact JL.kw (ap _ _ ⟨K,rfl,rfl,(Le.refl _),aj⟩) rfl
   ·have aR:=im ak ab;refine JL.skip ?_;obtain rfl:=oi aR;exact JL.kw (ap _ _ ⟨K,rfl,rfl,(Le.refl _),aj⟩) rfl
 ·intro aq;refine JL.ifs (p:=(((4294967296):Nat):Int)≤(((p0):Nat):Int)) rfl (fun ae=>?_) (fun ae=>?_)
  ·have aS:=ip ai ae;refine zg 3 rfl ?_;refine JL.Y (v:= .int .u64 ((p0>>>32:Nat):Int)) rfl (fun ρ h=>Yl.Hf 32 (h _ _ rfl) (h _ _ rfl) (by decide)) ?_;refine zg 5 rfl ?_;obtain rfl:=oi aS;exact JL.kw (aq _ _ ⟨E,rfl,rfl,(Le.refl _),ah⟩) rfl
  ·have aT:=im ai ae;refine JL.skip ?_;obtain rfl:=oi aT;exact JL.kw (aq _ _ ⟨E,rfl,rfl,(Le.refl _),ah⟩) rfl
def f163(fuel:Nat)(p0:Nat):Option (Int):=
 (f187 fuel p0).bind fun K=>
 some K
theorem NH{p0:Nat}{fuel:Nat}{r:Int}(K:f163 fuel p0=some r):As J 163 [.int .u64 ((p0:Nat):Int)] E [] (fun w E' B'=>w=iV r∧B'= []):=by
 refine As.en func163 rfl rfl fun Q ae cs H O U=>?_;unfold f163 at K;obtain⟨ag,W,Z⟩:=bs K;refine zg 10 rfl ?_;refine JS.cl (Sm W) rfl rfl (Aw func187 rfl) O ?_;rintro _ ah _ aa ⟨rfl,rfl⟩ ab;refine zg 2 rfl ?_;obtain rfl:=oi Z;refine JL.rt func163 rfl rfl ?_;exact U _ _ _ _ aa rfl ⟨rfl,rfl⟩ ab
def f134(fuel:Nat)(p0:AZ)(p1:AZ):Option (Int):=
 (Ay (p0.1 - p1.1)).bind fun K=>
 some K
theorem EH{K:Ar}{c2:Nat}{O:Ar}{U:Nat}{p0:AZ}{p1:AZ}(ao:Ao Cj E K c2 (p0.2.2))(ap:Ao Cj E O U (p1.2.2)){fuel:Nat}{r:Int}(W:f134 fuel p0 p1=some r):As J 134 [.agg #[iV p0.1,iV p0.2.1,.slice K (p0.2.2).length c2],.agg #[iV p1.1,iV p1.2.1,.slice O (p1.2.2).length U]] E [] (fun w E' B'=>w=iV r∧B'= []):=by
 refine As.en func134 rfl rfl fun Q aq cs H aa ab=>?_;unfold f134 at W;refine zg 2 rfl ?_;refine JS.box (v:= .agg #[iV p0.1,iV p0.2.1,.slice K (p0.2.2).length c2]) rfl rfl rfl aa rfl fun ar ae=>?_;refine JS.Bo 1 ae rfl fun au ag ah ai=>?_;refine JS.box (v:= .agg #[iV p1.1,iV p1.2.1,.slice O (p1.2.2).length U]) rfl rfl rfl ai rfl fun av aj=>?_;refine JS.Bo 2 aj rfl fun aw Z ak al=>?_;refine zg 4 rfl ?_;refine JL.fd underlying133 (Ag type3) rfl rfl rfl ?_;refine JL.ld 0 (ah.mono Z) (An underlying3) rfl rfl rfl ?_;refine JL.fd underlying133 (Ag type3) rfl rfl rfl ?_;refine JL.ld 0 ak (An underlying3) rfl rfl rfl ?_;obtain⟨ay,am,an⟩:=bs W;refine JL.Y rfl (fun ρ h=>Yl.Ba (h _ _ rfl) (h _ _ rfl) am) ?_;refine zg 2 rfl ?_;obtain rfl:=oi an;refine JL.rt func134 rfl rfl ?_;exact ab _ _ _ _ (ag.trans Z) rfl ⟨rfl,rfl⟩ al
def GR(fuel:Nat)(p1:Int)(K:Int×(List (AZ))):Option (A8 (Int×(List (AZ))) ((List (AZ)))):=
 Option.bind (
  if p1<K.1 then(
   (ix K.2 (K.1)).bind fun W=>
   (Ay (K.1 - 1)).bind fun Z=>
   (ix K.2 (Z)).bind fun aa=>
   (f134 fuel W aa).bind fun ab=>
   some (decide (ab<0))
  ) else(
   some false
  )
 ) fun ae=>
 if ae=true then(
  (Ay (K.1 - 1)).bind fun O=>
  (Ay (K.1 - 1)).bind fun ag=>
  (ix K.2 (ag)).bind fun U=>
  (ix K.2 (K.1)).bind fun ah=>
  (ix (K.2.set (Int.toNat K.1) U) (O)).bind fun aj=>
  (Ay (K.1 - 1)).bind fun ai=>
  some (.more (ai,((K.2.set (Int.toNat K.1) U).set (Int.toNat O) ah)))
 ) else(
  some (.done K.2)
 )
def Gi(fuel:Nat)(p1:Int)(p2:Int)(K:Int×(List (AZ))):Option (A8 (Int×(List (AZ))) ((List (AZ)))):=
 if K.1<p2 then(
  Option.bind (iter (GR fuel p1) fuel K) fun O=>
  (Ay (K.1+1)).bind fun U=>
  some (.more (U,O))
 ) else(
  some (.done K.2)
 )
def f178(fuel:Nat)(p0:List (AZ))(p1:Int)(p2:Int):Option ((List (AZ))):=
 (Ay (p1+1)).bind fun K=>
 Option.bind (iter (Gi fuel p1 p2) fuel (K,p0)) fun O=>
 some O
theorem NB{K:Nat}{W:Nat}{Z:Nat}{az:Array Value}{p0:List (AZ)}{p1:Int}{p2:Int}(hW:WL 133 BL E K W Z az p0){fuel:Nat}{r:(List (AZ))}(aJ:f178 fuel p0 p1 p2=some r):As J 178 [.slice (some ⟨K,0,none⟩) Z W,iV p1,iV p2,(.func (.func 134) #[] #[])] E [(K,.cells az 133 (0,0))] (fun w E' B'=>∃(aK:Array Value),w= .tuple #[]∧B'= [(K,.cells aK 133 (0,0))]∧WL 133 BL E' K W Z aK (r)):=by
 refine As.en func178 rfl rfl fun Q b5 cs H a3 a4=>?_;unfold f178 at aJ;obtain⟨a5,a6,a7⟩:=bs aJ;refine zg 3 rfl ?_;refine JL.Y rfl (fun ρ h=>Yl.A6 (h _ _ rfl) (h _ _ rfl) a6) ?_;obtain⟨a8,a9,ba⟩:=bs a7;refine zg 2 rfl ?_;refine JL.join (fun L s=>∃(aA:LH) (f17:Array Value),Jn E H aA [[(K,.cells f17 133 (0,0))]] [] L s (WL 133 BL aA K W Z f17 (a8))) ?_ ?_
 ·rintro _ _ ⟨aA,f17,rfl,rfl,bb,bc,bd⟩;obtain rfl:=oi ba;refine JL.fin (v:= .tuple #[]) rfl rfl (Bv.list func178 rfl (vs:= []) trivial) ?_;exact a4 _ _ _ _ bb rfl ⟨f17,rfl,(by first | rfl | simp | (simp [Value.cells])),bd⟩ bc
 ·intro bf;refine JL.block ?_;refine JL.wk [(0,.slice (some ⟨K,0,none⟩) Z W),(1,iV p1),(2,iV p2),(3,(.func (.func 134) #[] #[])),(8,iV a5)] rfl ?_;refine JL.Bq a9 (fun L s ab=>∃(ag:LH) (f25:Array Value),Jn E H ag [[(K,.cells f25 133 (0,0))]] [(0,.slice (some ⟨K,0,none⟩) Z W),(1,iV p1),(2,iV p2),(3,(.func (.func 134) #[] #[])),(8,iV ab.1)] L s (WL 133 BL ag K W Z f25 (ab.2))) ⟨E,az,rfl,rfl,(Le.refl _),a3,hW⟩ ?_;rintro _ _ ab ⟨ag,f25,rfl,rfl,aL,aM,aN⟩ bg ⟨b6,aB⟩ bh;have aC:=aB;unfold Gi at aC;refine zg 7 rfl ?_;refine JL.ifs (p:=ab.1<p2) rfl (fun aD=>?_) (fun aD=>?_)
  ·have bi:=ip aC aD;obtain⟨aO,bj,bk⟩:=bs bi;refine zg 8 rfl ?_;refine JL.join (fun L s=>∃(au:LH) (f48:Array Value),Jn ag H au [[(K,.cells f48 133 (0,0))]] [(0,.slice (some ⟨K,0,none⟩) Z W),(1,iV p1),(2,iV p2),(3,(.func (.func 134) #[] #[])),(8,iV ab.1)] L s (WL 133 BL au K W Z f48 (aO))) ?_ ?_
   ·rintro _ _ ⟨au,f48,rfl,rfl,bl,bm,bn⟩;obtain⟨bo,bp,bq⟩:=bs bk;refine zg 3 rfl ?_;refine JL.Y rfl (fun ρ h=>Yl.A6 (h _ _ rfl) (h _ _ rfl) bp) ?_;refine zg 2 rfl ?_;obtain rfl:=oi bq;exact JL.kw (bh _ _ (bo,aO) ⟨au,f48,rfl,rfl,(aL.trans bl),bm,bn⟩ aB) rfl
   ·intro br;refine JL.block ?_;refine JL.wk [(0,.slice (some ⟨K,0,none⟩) Z W),(1,iV p1),(2,iV p2),(3,(.func (.func 134) #[] #[])),(8,iV ab.1),(9,iV ab.1)] rfl ?_;refine JL.Bq bj (fun L s ae=>∃(al:LH) (f58:Array Value),Jn ag H al [[(K,.cells f58 133 (0,0))]] [(0,.slice (some ⟨K,0,none⟩) Z W),(1,iV p1),(2,iV p2),(3,(.func (.func 134) #[] #[])),(8,iV ab.1),(9,iV ae.1)] L s (WL 133 BL al K W Z f58 (ae.2))) ⟨ag,f25,rfl,rfl,(Le.refl _),aM,aN⟩ ?_;rintro _ _ ae ⟨al,f58,rfl,rfl,aP,am,aa⟩ bu ⟨b7,aE⟩ bv;have aQ:=aE;unfold GR at aQ;refine zg 2 rfl ?_;refine JG.Cn 17 [K] ⟨⟨0,_,rfl⟩,trivial⟩ am mixed rfl (by decide+kernel) fun ht=>?_;refine JG.ms ht rfl [0,1,2,3] rfl ?_;obtain⟨aR,aS,aT⟩:=bs aQ;refine Au.join 0 #[true,true,true,true,true,true,true,true,true,true,true,true,true,true,true,true,true] (fun L s=>∃(av:LH),Jm al H av [[(K,.cells f58 133 (0,0))]] [(0,.slice (some ⟨K,0,none⟩) Z W),(1,iV p1),(2,iV p2),(3,(.func (.func 134) #[] #[])),(8,iV ab.1),(9,iV ae.1),(34,.bool aR)] L s) ?_ ?_
    ·rintro _ _ ⟨av,rfl,rfl,ai,aw⟩;refine Au.fin (by decide+kernel) ?_;refine JL.split (t:=aR) rfl (fun aF=>?_) (fun aF=>?_)
     ·have bw:=ip aT aF;refine zg 3 rfl ?_;refine JB.draw [15,17] [K] mixed rfl ?_;refine JB.mv 0 rfl rfl ?_;refine JB.mv 1 rfl rfl ?_;refine JB.mv 2 rfl rfl ?_;refine JB.mv 3 rfl rfl ?_;obtain⟨aG,bx,bz⟩:=bs bw;refine JB.V 4 true rfl rfl (fun ρ h s' hs=>Yl.Ba (h _ _ rfl) (h _ _ rfl) bx) ?_;refine JB.mv 5 rfl rfl ?_;refine JB.mv 6 rfl rfl ?_;obtain⟨b8,bA,bB⟩:=bs bz;refine JB.V 7 true rfl rfl (fun ρ h s' hs=>Yl.Ba (h _ _ rfl) (h _ _ rfl) bA) ?_;obtain⟨O,aU,bC⟩:=bs bB;obtain⟨_,⟨_,_,rfl,rfl,⟨_,_,rfl,rfl,⟨an,ao,rfl,bD⟩⟩⟩,bE⟩:=WL.at (aa.mono ai) aU;refine JB.V 8 true rfl rfl (fun ρ h s' hs=>Yl.Be aa.2 aU underlying130 (Ag type133) (h _ _ rfl) (h _ _ rfl)) ?_;refine JB.val (v:= .agg #[iV O.1,iV O.2.1,.slice an (O.2.2).length ao]) 9 false rfl (by decide+kernel) rfl rfl rfl (fun ρ h s' hs=>have hs:=hs rfl;Yl.Bp (vs:= [iV O.1,iV O.2.1,.slice an (O.2.2).length ao]) (An underlying133) (Ag type133) (h _ _ rfl) (fun q w ah=>by rw [Bd rfl];exact Bh 0 aw rfl (by simp [AA]) hs (bE q w ah))) ?_;refine JB.mv 10 rfl rfl ?_;refine JB.mv 11 rfl rfl ?_;obtain⟨U,ay,bF⟩:=bs bC;obtain⟨_,⟨_,_,rfl,rfl,⟨_,_,rfl,rfl,⟨ap,aq,rfl,bG⟩⟩⟩,bH⟩:=WL.at (aa.mono ai) ay;refine JB.V 12 true rfl rfl (fun ρ h s' hs=>Yl.Be aa.2 ay underlying130 (Ag type133) (h _ _ rfl) (h _ _ rfl)) ?_;refine JB.val (v:= .agg #[iV U.1,iV U.2.1,.slice ap (U.2.2).length aq]) 13 false rfl (by decide+kernel) rfl rfl rfl (fun ρ h s' hs=>have hs:=hs rfl;Yl.Bp (vs:= [iV U.1,iV U.2.1,.slice ap (U.2.2).length aq]) (An underlying133) (Ag type133) (h _ _ rfl) (fun q w ah=>by rw [Bd rfl];exact Bh 0 aw rfl (by simp [AA]) hs (bH q w ah))) ?_;refine JB.V 14 true rfl rfl (fun ρ h s' hs=>Yl.Be aa.2 ay underlying130 (Ag type133) (h _ _ rfl) (h _ _ rfl)) ?_;have ar:=WL.put (x':=O) (ws':= [iV O.1,iV O.2.1,.slice an (O.2.2).length ao]) (aa.mono ai) aa.2 ay ⟨_,_,rfl,rfl,⟨_,_,rfl,rfl,⟨_,_,rfl,bD⟩⟩⟩;refine JB.store (v:= .agg #[iV O.1,iV O.2.1,.slice an (O.2.2).length ao]) (off:=Int.toNat (ae.1)*3) 15 0 (by decide+kernel) (by decide+kernel) rfl rfl rfl aw rfl rfl (Ag type133) (by simp [Value.cells,BJ]) rfl ar.2 fun bI=>?_;obtain⟨b9,aH,bJ⟩:=bs bF;obtain⟨_,⟨_,_,rfl,rfl,⟨_,_,rfl,rfl,⟨ca,cb,rfl,cc⟩⟩⟩,cd⟩:=WL.at ar.1 aH;refine JB.V 16 true rfl rfl (fun ρ h s' hs=>Yl.Be (ar.1).2 aH underlying130 (Ag type133) (h _ _ rfl) (h _ _ rfl)) ?_;have aV:=WL.put (x':=U) (ws':= [iV U.1,iV U.2.1,.slice ap (U.2.2).length aq]) ar.1 (ar.1).2 aH ⟨_,_,rfl,rfl,⟨_,_,rfl,rfl,⟨_,_,rfl,bG⟩⟩⟩;refine JB.store (v:= .agg #[iV U.1,iV U.2.1,.slice ap (U.2.2).length aq]) (off:=Int.toNat (aG)*3) 17 0 (by decide+kernel) (by decide+kernel) rfl rfl rfl bI rfl rfl (Ag type133) (by simp [Value.cells,BJ]) rfl aV.2 fun bK=>?_;refine JB.fin (by decide+kernel) ?_;obtain⟨bL,bM,bN⟩:=bs bJ;refine zg 3 rfl ?_;refine JL.Y rfl (fun ρ h=>Yl.Ba (h _ _ rfl) (h _ _ rfl) bM) ?_;refine zg 2 rfl ?_;obtain rfl:=oi bN;exact JL.kw (bv _ _ (bL,((ae.2.set (Int.toNat ae.1) O).set (Int.toNat aG) U)) ⟨av,(A0 (A0 f58 (Int.toNat (ae.1)*3) [iV O.1,iV O.2.1,.slice an (O.2.2).length ao]) (Int.toNat (aG)*3) [iV U.1,iV U.2.1,.slice ap (U.2.2).length aq]),rfl,rfl,(aP.trans ai),bK,aV.1⟩ aE) rfl
     ·have bO:=ib aT aF;refine JL.exit rfl ?_;obtain rfl:=oi bO;obtain rfl:=bu _ aE;exact JL.kw (br _ _ ⟨av,f58,rfl,rfl,(aP.trans ai),aw,(aa.mono ai)⟩) rfl
    ·intro aW;refine Au.Cm (q:=p1<ae.1) (i:=21) rfl (fun aI=>?_) (fun aI=>?_)
     ·have bP:=ip aS aI;refine JG.ms ht rfl [4,5,6] rfl ?_;obtain⟨aj,aX,bQ⟩:=bs bP;obtain⟨_,⟨_,_,rfl,rfl,⟨_,_,rfl,rfl,⟨aY,aZ,rfl,bR⟩⟩⟩,bS⟩:=WL.at aa aX;refine JG.V 7 ht rfl rfl (fun ρ h s' hs=>Yl.Be (aa).2 aX underlying130 (Ag type133) (h _ _ rfl) (h _ _ rfl)) ?_;refine JG.V 8 ht rfl rfl (fun ρ h s' hs=>Yl.Bp (vs:= [iV aj.1,iV aj.2.1,.slice aY (aj.2.2).length aZ]) (An underlying133) (Ag type133) (h _ _ rfl) (fun q w ah=>by rw [Bd rfl];exact Bh 0 am rfl (by simp [AA]) hs (bS q w ah))) ?_;refine JG.ms ht rfl [9,10] rfl ?_;obtain⟨ce,bT,bU⟩:=bs bQ;refine JG.V 11 ht rfl rfl (fun ρ h s' hs=>Yl.Ba (h _ _ rfl) (h _ _ rfl) bT) ?_;obtain⟨ak,a0,bV⟩:=bs bU;obtain⟨_,⟨_,_,rfl,rfl,⟨_,_,rfl,rfl,⟨a1,a2,rfl,bW⟩⟩⟩,bX⟩:=WL.at aa a0;refine JG.V 12 ht rfl rfl (fun ρ h s' hs=>Yl.Be (aa).2 a0 underlying130 (Ag type133) (h _ _ rfl) (h _ _ rfl)) ?_;refine JG.V 13 ht rfl rfl (fun ρ h s' hs=>Yl.Bp (vs:= [iV ak.1,iV ak.2.1,.slice a1 (ak.2.2).length a2]) (An underlying133) (Ag type133) (h _ _ rfl) (fun q w ah=>by rw [Bd rfl];exact Bh 0 am rfl (by simp [AA]) hs (bX q w ah))) ?_;obtain⟨cf,bY,bZ⟩:=bs bV;refine JG.FC (i:=14) ⟨⟨0,_,rfl⟩,trivial⟩ (vs:= [.agg #[iV aj.1,iV aj.2.1,.slice aY (aj.2.2).length aZ],.agg #[iV ak.1,iV ak.2.1,.slice a1 (ak.2.2).length a2]]) (EH bR bW bY) (by decide+kernel) rfl rfl rfl rfl (Aw func134 rfl) rfl am ?_;rintro _ b0 _ b1 ⟨rfl,rfl⟩ b2;refine JG.ms ht rfl [15,16] rfl ?_;obtain rfl:=oi bZ;refine Au.Cc ?_ (aW _ _ ⟨b0,rfl,rfl,b1,b2⟩);exact⟨rfl,rfl,rfl,rfl,rfl,rfl,rfl,trivial⟩
     ·have b3:=im aS aI;refine JG.ms ht rfl [4,5,6,7,8,9,10,11,12,13,14,15,16] rfl ?_;obtain rfl:=oi b3;refine Au.Cc ?_ (aW _ _ ⟨al,rfl,rfl,(Le.refl _),am⟩);exact⟨rfl,rfl,rfl,rfl,rfl,rfl,rfl,trivial⟩
  ·have b4:=im aC aD;refine JL.exit rfl ?_;obtain rfl:=oi b4;obtain rfl:=bg _ aB;exact JL.kw (bf _ _ ⟨ag,f25,rfl,rfl,aL,aM,aN⟩) rfl
def f200(fuel:Nat)(p0:List (AZ))(p1:Int)(p2:Int)(p3:Int):Option (Int×Int×Int):=
 (ix p0 (p2)).bind fun K=>
 (ix p0 (p1)).bind fun O=>
 (f134 fuel K O).bind fun U=>
 if U<0 then(
  (Ay (p3+1)).bind fun W=>
  some (p2,p1,W)
 ) else(
  some (p1,p2,p3)
 )
theorem Kp{K:Nat}{ah:Nat}{ai:Nat}{Z:Array Value}{aa:Nat}{p0:List (AZ)}{p1:Int}{p2:Int}{p3:Int}(hW:WL 133 BL E K ah ai Z p0){fuel:Nat}{r:Int×Int×Int}(aj:f200 fuel p0 p1 p2 p3=some r):As J 200 [.slice (some ⟨K,0,none⟩) ai ah,iV p1,iV p2,.pointer (some ⟨aa,0,none⟩),(.func (.func 134) #[] #[])] E ([(aa,.cells #[iV p3] 3 (0,0))]++ [(K,.cells Z 133 (0,0))]) (fun w E' B'=>w= .tuple #[iV r.1,iV r.2.1]∧B'= [(aa,.cells #[iV r.2.2] 3 (0,0))]++ [(K,.cells Z 133 (0,0))]):=by
 refine As.en func200 rfl rfl fun Q aJ cs H O ak=>?_;unfold f200 at aj;refine JS.split (S':= [[(aa,.cells #[iV p3] 3 (0,0))],[(K,.cells Z 133 (0,0))]]) (by simp) O fun O=>?_;refine zg 7 rfl ?_;refine JG.Cn 9 [K] ⟨⟨1,_,rfl⟩,trivial⟩ O mixed rfl (by decide+kernel) fun ht=>?_;refine JG.ms ht rfl [0,1,2] rfl ?_;obtain⟨U,al,au⟩:=bs aj;obtain⟨_,⟨_,_,rfl,rfl,⟨_,_,rfl,rfl,⟨am,c4,rfl,av⟩⟩⟩,aw⟩:=WL.at hW al;refine JG.V 3 ht rfl rfl (fun ρ h s' hs=>Yl.Be (hW).2 al underlying130 (Ag type133) (h _ _ rfl) (h _ _ rfl)) ?_;refine JG.V 4 ht rfl rfl (fun ρ h s' hs=>Yl.Bp (vs:= [iV U.1,iV U.2.1,.slice am (U.2.2).length c4]) (An underlying133) (Ag type133) (h _ _ rfl) (fun q w ab=>by rw [Bd rfl];exact Bh 1 O rfl (by simp [AA]) hs (aw q w ab))) ?_;refine JG.ms ht rfl [5,6] rfl ?_;obtain⟨W,an,ay⟩:=bs au;obtain⟨_,⟨_,_,rfl,rfl,⟨_,_,rfl,rfl,⟨ao,ap,rfl,az⟩⟩⟩,aA⟩:=WL.at hW an;refine JG.V 7 ht rfl rfl (fun ρ h s' hs=>Yl.Be (hW).2 an underlying130 (Ag type133) (h _ _ rfl) (h _ _ rfl)) ?_;refine JG.V 8 ht rfl rfl (fun ρ h s' hs=>Yl.Bp (vs:= [iV W.1,iV W.2.1,.slice ao (W.2.2).length ap]) (An underlying133) (Ag type133) (h _ _ rfl) (fun q w ab=>by rw [Bd rfl];exact Bh 1 O rfl (by simp [AA]) hs (aA q w ab))) ?_;refine Au.leaf (tail:= [9,10]) (by decide+kernel) (fun t=>A7 (by decide+kernel) (A7 (by decide+kernel) BU) t) ?_;obtain⟨aB,aC,aq⟩:=bs ay;refine JS.Gs (vs:= [.agg #[iV U.1,iV U.2.1,.slice am (U.2.2).length c4],.agg #[iV W.1,iV W.2.1,.slice ao (W.2.2).length ap]]) (EH av az aC) rfl rfl rfl rfl (Aw func134 rfl) rfl O ?_;rintro _ aK _ ar ⟨rfl,rfl⟩ ae;refine zg 2 rfl ?_;refine JL.ifs (p:=aB<0) rfl (fun ag=>?_) (fun ag=>?_)
 ·have aD:=ip aq ag;refine zg 4 rfl ?_;refine JL.Y (v:=iV p3) rfl (fun ρ h=>Yl.load (An underlying3) (h _ _ rfl) (CH (j:=0) (off:=0) ae rfl rfl)) ?_;obtain⟨aE,aF,aG⟩:=bs aD;refine JL.Y rfl (fun ρ h=>Yl.A6 (h _ _ rfl) (h _ _ rfl) aF) ?_;refine zg 1 rfl ?_;refine JS.st (v:=iV aE) (off:=0) 0 ae (Ag type3) rfl rfl rfl rfl fun aH=>?_;refine zg 8 rfl ?_;obtain rfl:=oi aG;refine JL.rt func200 rfl rfl ?_;exact ak _ _ _ _ ar rfl ⟨rfl,(by first | rfl | simp | (simp [Value.cells]))⟩ aH
 ·have aI:=im aq ag;refine zg 8 rfl ?_;obtain rfl:=oi aI;refine JL.rt func200 rfl rfl ?_;exact ak _ _ _ _ ar rfl ⟨rfl,(by first | rfl | simp | (simp [Value.cells]))⟩ ae
def f197(fuel:Nat)(p0:List (AZ))(p1:Int)(p2:Int)(p3:Int)(p4:Int):Option (Int×Int):=
 (f200 fuel p0 p1 p2 p4).bind fun K=>
 (f200 fuel p0 K.2.1 p3 K.2.2).bind fun O=>
 (f200 fuel p0 K.1 O.1 O.2.2).bind fun U=>
 some U.2
theorem Sr{K:Nat}{aa:Nat}{ab:Nat}{O:Array Value}{U:Nat}{p0:List (AZ)}{p1:Int}{p2:Int}{p3:Int}{p4:Int}(hW:WL 133 BL E K aa ab O p0){fuel:Nat}{r:Int×Int}(ae:f197 fuel p0 p1 p2 p3 p4=some r):As J 197 [.slice (some ⟨K,0,none⟩) ab aa,iV p1,iV p2,iV p3,.pointer (some ⟨U,0,none⟩),(.func (.func 134) #[] #[])] E ([(U,.cells #[iV p4] 3 (0,0))]++ [(K,.cells O 133 (0,0))]) (fun w E' B'=>w=iV r.1∧B'= [(U,.cells #[iV r.2] 3 (0,0))]++ [(K,.cells O 133 (0,0))]):=by
 refine As.en func197 rfl rfl fun Q aI cs H W ai=>?_;unfold f197 at ae;refine JS.split (S':= [[(U,.cells #[iV p4] 3 (0,0))],[(K,.cells O 133 (0,0))]]) (by simp) W fun W=>?_;obtain⟨aj,ak,al⟩:=bs ae;refine zg 11 rfl ?_;refine JS.merge 0 1 rfl rfl W fun am=>?_;refine JS.Bu 0 (Kp hW ak) rfl rfl (Aw func200 rfl) am rfl ?_;rintro _ aJ _ Z ⟨rfl,rfl⟩ an;refine JS.part 0 rfl an fun ao=>?_;refine JS.norm (S':= [[(U,.cells #[iV aj.2.2] 3 (0,0))],[],[(K,.cells O 133 (0,0))]]) rfl ao fun ap=>?_;obtain⟨aq,ar,au⟩:=bs al;refine zg 13 rfl ?_;refine JS.merge 0 2 rfl rfl ap fun av=>?_;refine JS.Bu 0 (Kp (hW.mono Z) ar) rfl rfl (Aw func200 rfl) av rfl ?_;rintro _ aK _ ag ⟨rfl,rfl⟩ aw;refine JS.part 0 rfl aw fun ay=>?_;refine JS.norm (S':= [[(U,.cells #[iV aq.2.2] 3 (0,0))],[],[],[(K,.cells O 133 (0,0))]]) rfl ay fun az=>?_;obtain⟨ah,aA,aB⟩:=bs au;refine zg 13 rfl ?_;refine JS.merge 0 3 rfl rfl az fun aC=>?_;refine JS.Bu 0 (Kp (hW.mono (Z.trans ag)) aA) rfl rfl (Aw func200 rfl) aC rfl ?_;rintro _ aL _ aD ⟨rfl,rfl⟩ aE;refine JS.part 0 rfl aE fun aF=>?_;refine JS.norm (S':= [[(U,.cells #[iV ah.2.2] 3 (0,0))],[],[],[],[(K,.cells O 133 (0,0))]]) rfl aF fun aG=>?_;refine zg 11 rfl ?_;refine JS.norm (S':= [[(U,.cells #[iV ah.2.2] 3 (0,0))],[],[],[],[(K,.cells O 133 (0,0))]]) rfl aG fun aH=>?_;obtain rfl:=oi aB;refine JL.rt func197 rfl rfl ?_;exact ai _ _ _ _ ((Z.trans ag).trans aD) rfl ⟨rfl,(by first | rfl | simp | (simp [Value.cells]))⟩ aH
def f181(fuel:Nat)(p0:List (AZ))(p1:Int)(p2:Int):Option (Int×Int):=
 (Ay (p2 - p1)).bind fun K=>
 (Fo (K) (4)).bind fun W=>
 (Ay (W*1)).bind fun Z=>
 (Ay (p1+Z)).bind fun aa=>
 (Fo (K) (4)).bind fun ab=>
 (Ay (ab*2)).bind fun ae=>
 (Ay (p1+ae)).bind fun U=>
 (Fo (K) (4)).bind fun ag=>
 (Ay (ag*3)).bind fun ah=>
 (Ay (p1+ah)).bind fun ai=>
 Option.bind (
  if 8≤K then(
   Option.bind (
    if 50≤K then(
     none
    ) else(
     some ()
    )
   ) fun ak=>
   (f197 fuel p0 aa U ai 0).bind fun aj=>
   some aj
  ) else(
   some (U,0)
  )
 ) fun O=>
 if O.2=0 then(
  some (O.1,1)
 ) else(
  if O.2=12 then(
   some (O.1,2)
  ) else(
   some (O.1,0)
  )
 )
theorem NC{K:Nat}{aa:Nat}{ab:Nat}{O:Array Value}{p0:List (AZ)}{p1:Int}{p2:Int}(hW:WL 133 BL E K aa ab O p0){fuel:Nat}{r:Int×Int}(al:f181 fuel p0 p1 p2=some r):As J 181 [.slice (some ⟨K,0,none⟩) ab aa,iV p1,iV p2,(.func (.func 134) #[] #[])] E [(K,.cells O 133 (0,0))] (fun w E' B'=>w= .tuple #[iV r.1,iV r.2]∧B'= [(K,.cells O 133 (0,0))]):=by
 refine As.en func181 rfl rfl fun Q bo cs H az ae=>?_;unfold f181 at al;obtain⟨am,aA,aB⟩:=bs al;refine zg 9 rfl ?_;refine JL.Y rfl (fun ρ h=>Yl.Ba (h _ _ rfl) (h _ _ rfl) aA) ?_;refine zg 4 rfl ?_;refine JS.alloc rfl rfl rfl az (AN type3) fun U an=>?_;obtain⟨aC,aD,aE⟩:=bs aB;refine zg 5 rfl ?_;refine JL.Y (v:=iV aC) rfl (fun ρ h=>Yl.HX (h _ _ rfl) (h _ _ rfl) aD) ?_;obtain⟨bp,aF,aG⟩:=bs aE;refine JL.Y rfl (fun ρ h=>Yl.mulC (h _ _ rfl) (h _ _ rfl) aF) ?_;obtain⟨aH,aI,aJ⟩:=bs aG;refine JL.Y rfl (fun ρ h=>Yl.A6 (h _ _ rfl) (h _ _ rfl) aI) ?_;obtain⟨aK,aL,aM⟩:=bs aJ;refine zg 6 rfl ?_;refine JL.Y (v:=iV aK) rfl (fun ρ h=>Yl.HX (h _ _ rfl) (h _ _ rfl) aL) ?_;obtain⟨bq,aN,aO⟩:=bs aM;refine JL.Y rfl (fun ρ h=>Yl.mulC (h _ _ rfl) (h _ _ rfl) aN) ?_;obtain⟨aP,aQ,aR⟩:=bs aO;refine JL.Y rfl (fun ρ h=>Yl.A6 (h _ _ rfl) (h _ _ rfl) aQ) ?_;obtain⟨aS,aT,aU⟩:=bs aR;refine zg 6 rfl ?_;refine JL.Y (v:=iV aS) rfl (fun ρ h=>Yl.HX (h _ _ rfl) (h _ _ rfl) aT) ?_;obtain⟨br,aV,aW⟩:=bs aU;refine JL.Y rfl (fun ρ h=>Yl.mulC (h _ _ rfl) (h _ _ rfl) aV) ?_;obtain⟨aX,aY,aZ⟩:=bs aW;refine JL.Y rfl (fun ρ h=>Yl.A6 (h _ _ rfl) (h _ _ rfl) aY) ?_;obtain⟨W,ao,ap⟩:=bs aZ;refine zg 8 rfl ?_;refine JL.join (fun L s=>∃(aq:LH),Jm E H aq [[(K,.cells O 133 (0,0))],[(U,.cells #[iV W.2] 3 (0,0))]] [(11,.pointer (some ⟨U,0,none⟩)),(13,iV W.1)] L s) ?_ ?_
 ·rintro _ _ ⟨aq,rfl,rfl,ag,Z⟩;refine zg 2 rfl ?_;refine JL.Y (v:=iV W.2) rfl (fun ρ h=>Yl.load (An underlying3) (h _ _ rfl) (CH (j:=1) (off:=0) Z rfl rfl)) ?_;refine zg 7 rfl ?_;refine JL.ifs (p:=W.2=0) rfl (fun ah=>?_) (fun ah=>?_)
  ·have a0:=ip ap ah;refine zg 6 rfl ?_;refine JS.drop 1 Z rfl fun a1=>?_;obtain rfl:=oi a0;refine JL.rt func181 rfl rfl ?_;exact ae _ _ _ _ ag rfl ⟨rfl,(by first | rfl | simp | (simp [Value.cells]))⟩ a1
  ·have ar:=im ap ah;refine zg 5 rfl ?_;refine JL.ifs (p:=W.2=12) rfl (fun ai=>?_) (fun ai=>?_)
   ·have a2:=ip ar ai;refine zg 6 rfl ?_;refine JS.drop 1 Z rfl fun a3=>?_;obtain rfl:=oi a2;refine JL.rt func181 rfl rfl ?_;exact ae _ _ _ _ ag rfl ⟨rfl,(by first | rfl | simp | (simp [Value.cells]))⟩ a3
   ·have a4:=im ar ai;refine zg 6 rfl ?_;refine JS.drop 1 Z rfl fun a5=>?_;obtain rfl:=oi a4;refine JL.rt func181 rfl rfl ?_;exact ae _ _ _ _ ag rfl ⟨rfl,(by first | rfl | simp | (simp [Value.cells]))⟩ a5
 ·intro au;refine JL.ifs (p:=8≤am) rfl (fun aj=>?_) (fun aj=>?_)
  ·have a6:=ip ao aj;obtain⟨bu,av,a7⟩:=bs a6;refine zg 6 rfl ?_;refine JL.join (fun L s=>∃(aw:LH),Jm E H aw [[(K,.cells O 133 (0,0))],[(U,.cells #[iV 0] 3 (0,0))]] [(0,.slice (some ⟨K,0,none⟩) ab aa),(3,(.func (.func 134) #[] #[])),(8,iV 0),(9,iV 0),(11,.pointer (some ⟨U,0,none⟩)),(12,iV aH),(13,iV aP),(14,iV aX)] L s) ?_ ?_
   ·rintro _ _ ⟨aw,rfl,rfl,ay,a8⟩;obtain⟨a9,ba,bb⟩:=bs a7;refine zg 6 rfl ?_;refine JS.merge 1 0 rfl rfl a8 fun bc=>?_;refine JS.Bu 1 (Sr (hW.mono ay) ba) rfl rfl (Aw func197 rfl) bc rfl ?_;rintro _ bd _ bf ⟨rfl,rfl⟩ bg;refine JS.part 1 rfl bg fun bh=>?_;refine JS.norm (S':= [[],[(U,.cells #[iV a9.2] 3 (0,0))],[(K,.cells O 133 (0,0))]]) rfl bh fun bi=>?_;refine zg 2 rfl ?_;refine JS.swap 1 2 rfl rfl rfl bi fun bj=>?_;obtain rfl:=oi bb;exact JL.kw (au _ _ ⟨bd,rfl,rfl,(ay.trans bf),bj⟩) rfl
   ·intro bk;refine JL.ifs (p:=50≤am) rfl (fun ak=>?_) (fun ak=>?_)
    ·have bl:=ip av ak;refine zg 5 rfl ?_;cases bl
    ·have bm:=im av ak;refine JL.skip ?_;obtain rfl:=oi bm;exact JL.kw (bk _ _ ⟨E,rfl,rfl,(Le.refl _),an⟩) rfl
  ·have bn:=im ao aj;refine JL.skip ?_;obtain rfl:=oi bn;exact JL.kw (au _ _ ⟨E,rfl,rfl,(Le.refl _),an⟩) rfl
end Pal
namespace Pal
open Go Go.Conc Go.Proofs
open Go.Proofs.Tryz
variable {J:Judge Tryz.prog}{E:LH}
def FA(fuel:Nat)(K:Int×Int×(List (AZ))):Option (A8 (Int×Int×(List (AZ))) ((List (AZ)))):=
 if K.1<K.2.1 then(
  (ix K.2.2 (K.2.1)).bind fun O=>
  (ix K.2.2 (K.1)).bind fun U=>
  (Ay (K.1+1)).bind fun W=>
  (Ay (K.2.1 - 1)).bind fun Z=>
  some (.more (W,Z,((K.2.2.set (Int.toNat K.1) O).set (Int.toNat K.2.1) U)))
 ) else(
  some (.done K.2.2)
 )
def f182(fuel:Nat)(p0:List (AZ))(p1:Int)(p2:Int):Option ((List (AZ))):=
 (Ay (p2 - 1)).bind fun K=>
 Option.bind (iter (FA fuel) fuel (p1,K,p0)) fun O=>
 some O
theorem Np{W:Nat}{aa:Nat}{ab:Nat}{an:Array Value}{p0:List (AZ)}{p1:Int}{p2:Int}(hW:WL 133 BL E W aa ab an p0){fuel:Nat}{r:(List (AZ))}(av:f182 fuel p0 p1 p2=some r):As J 182 [.slice (some ⟨W,0,none⟩) ab aa,iV p1,iV p2,(.func (.func 134) #[] #[])] E [(W,.cells an 133 (0,0))] (fun w E' B'=>∃(aw:Array Value),w= .tuple #[]∧B'= [(W,.cells aw 133 (0,0))]∧WL 133 BL E' W aa ab aw (r)):=by
 refine As.en func182 rfl rfl fun Q a5 cs H aB aC=>?_;unfold f182 at av;obtain⟨aD,aE,aF⟩:=bs av;refine zg 8 rfl ?_;refine JL.Y rfl (fun ρ h=>Yl.Ba (h _ _ rfl) (h _ _ rfl) aE) ?_;obtain⟨aG,aH,aI⟩:=bs aF;refine zg 2 rfl ?_;refine JL.join (fun L s=>∃(ao:LH) (f17:Array Value),Jn E H ao [[(W,.cells f17 133 (0,0))]] [] L s (WL 133 BL ao W aa ab f17 (aG))) ?_ ?_
 ·rintro _ _ ⟨ao,f17,rfl,rfl,aJ,aK,aL⟩;obtain rfl:=oi aI;refine JL.fin (v:= .tuple #[]) rfl rfl (Bv.list func182 rfl (vs:= []) trivial) ?_;exact aC _ _ _ _ aJ rfl ⟨f17,rfl,(by first | rfl | simp | (simp [Value.cells])),aL⟩ aK
 ·intro aM;refine JL.block ?_;refine JL.wk [(0,.slice (some ⟨W,0,none⟩) ab aa),(8,iV p1),(9,iV aD)] rfl ?_;refine JL.Bq aH (fun L s U=>∃(ae:LH) (f25:Array Value),Jn E H ae [[(W,.cells f25 133 (0,0))]] [(0,.slice (some ⟨W,0,none⟩) ab aa),(8,iV U.1),(9,iV U.2.1)] L s (WL 133 BL ae W aa ab f25 (U.2.2))) ⟨E,an,rfl,rfl,(Le.refl _),aB,hW⟩ ?_;rintro _ _ U ⟨ae,f25,rfl,rfl,ay,ak,Z⟩ aN ⟨a6,ap⟩ aO;have aq:=ap;unfold FA at aq;refine zg 7 rfl ?_;refine JL.ifs (p:=U.1<U.2.1) rfl (fun ar=>?_) (fun ar=>?_)
  ·have aP:=ip aq ar;refine zg 3 rfl ?_;refine JB.draw [13,15] [W] mixed rfl ?_;refine JB.mv 0 rfl rfl ?_;refine JB.mv 1 rfl rfl ?_;refine JB.mv 2 rfl rfl ?_;refine JB.mv 3 rfl rfl ?_;refine JB.mv 4 rfl rfl ?_;refine JB.mv 5 rfl rfl ?_;obtain⟨K,al,aQ⟩:=bs aP;obtain⟨_,⟨_,_,rfl,rfl,⟨_,_,rfl,rfl,⟨ag,ah,rfl,aR⟩⟩⟩,aS⟩:=WL.at Z al;refine JB.V 6 true rfl rfl (fun ρ h s' hs=>Yl.Be Z.2 al underlying130 (Ag type133) (h _ _ rfl) (h _ _ rfl)) ?_;refine JB.val (v:= .agg #[iV K.1,iV K.2.1,.slice ag (K.2.2).length ah]) 7 false rfl (by decide+kernel) rfl rfl rfl (fun ρ h s' hs=>have hs:=hs rfl;Yl.Bp (vs:= [iV K.1,iV K.2.1,.slice ag (K.2.2).length ah]) (An underlying133) (Ag type133) (h _ _ rfl) (fun q w au=>by rw [Bd rfl];exact Bh 0 ak rfl (by simp [AA]) hs (aS q w au))) ?_;refine JB.mv 8 rfl rfl ?_;refine JB.mv 9 rfl rfl ?_;obtain⟨O,am,aT⟩:=bs aQ;obtain⟨_,⟨_,_,rfl,rfl,⟨_,_,rfl,rfl,⟨ai,aj,rfl,aU⟩⟩⟩,aV⟩:=WL.at Z am;refine JB.V 10 true rfl rfl (fun ρ h s' hs=>Yl.Be Z.2 am underlying130 (Ag type133) (h _ _ rfl) (h _ _ rfl)) ?_;refine JB.val (v:= .agg #[iV O.1,iV O.2.1,.slice ai (O.2.2).length aj]) 11 false rfl (by decide+kernel) rfl rfl rfl (fun ρ h s' hs=>have hs:=hs rfl;Yl.Bp (vs:= [iV O.1,iV O.2.1,.slice ai (O.2.2).length aj]) (An underlying133) (Ag type133) (h _ _ rfl) (fun q w au=>by rw [Bd rfl];exact Bh 0 ak rfl (by simp [AA]) hs (aV q w au))) ?_;refine JB.V 12 true rfl rfl (fun ρ h s' hs=>Yl.Be Z.2 am underlying130 (Ag type133) (h _ _ rfl) (h _ _ rfl)) ?_;have az:=WL.put (x':=K) (ws':= [iV K.1,iV K.2.1,.slice ag (K.2.2).length ah]) Z Z.2 am ⟨_,_,rfl,rfl,⟨_,_,rfl,rfl,⟨_,_,rfl,aR⟩⟩⟩;refine JB.store (v:= .agg #[iV K.1,iV K.2.1,.slice ag (K.2.2).length ah]) (off:=Int.toNat (U.1)*3) 13 0 (by decide+kernel) (by decide+kernel) rfl rfl rfl ak rfl rfl (Ag type133) (by simp [Value.cells,BJ]) rfl az.2 fun aW=>?_;refine JB.V 14 true rfl rfl (fun ρ h s' hs=>Yl.Be Z.2 al underlying130 (Ag type133) (h _ _ rfl) (h _ _ rfl)) ?_;have aA:=WL.put (x':=O) (ws':= [iV O.1,iV O.2.1,.slice ai (O.2.2).length aj]) az.1 Z.2 al ⟨_,_,rfl,rfl,⟨_,_,rfl,rfl,⟨_,_,rfl,aU⟩⟩⟩;refine JB.store (v:= .agg #[iV O.1,iV O.2.1,.slice ai (O.2.2).length aj]) (off:=Int.toNat (U.2.1)*3) 15 0 (by decide+kernel) (by decide+kernel) rfl rfl rfl aW rfl rfl (Ag type133) (by simp [Value.cells,BJ]) rfl aA.2 fun aX=>?_;refine JB.fin (by decide+kernel) ?_;obtain⟨aY,aZ,a0⟩:=bs aT;refine zg 3 rfl ?_;refine JL.Y rfl (fun ρ h=>Yl.A6 (h _ _ rfl) (h _ _ rfl) aZ) ?_;obtain⟨a1,a2,a3⟩:=bs a0;refine zg 4 rfl ?_;refine JL.Y rfl (fun ρ h=>Yl.Ba (h _ _ rfl) (h _ _ rfl) a2) ?_;refine zg 3 rfl ?_;obtain rfl:=oi a3;exact JL.kw (aO _ _ (aY,a1,((U.2.2.set (Int.toNat U.1) K).set (Int.toNat U.2.1) O)) ⟨ae,(A0 (A0 f25 (Int.toNat (U.1)*3) [iV K.1,iV K.2.1,.slice ag (K.2.2).length ah]) (Int.toNat (U.2.1)*3) [iV O.1,iV O.2.1,.slice ai (O.2.2).length aj]),rfl,rfl,ay,aX,aA.1⟩ ap) rfl
  ·have a4:=im aq ar;refine JL.exit rfl ?_;obtain rfl:=oi a4;obtain rfl:=aN _ ap;exact JL.kw (aM _ _ ⟨ae,f25,rfl,rfl,ay,ak,Z⟩) rfl
def Gl(fuel:Nat)(p2:Int)(O:Int×Int×(List (AZ)))(K:Int):Option (A8 (Int) (Int)):=
 Option.bind (
  if K<p2 then(
   (ix O.2.2 (K)).bind fun U=>
   (Ay (K - 1)).bind fun W=>
   (ix O.2.2 (W)).bind fun Z=>
   (f134 fuel U Z).bind fun aa=>
   some (decide (¬(aa<0)))
  ) else(
   some false
  )
 ) fun ab=>
 if ab=true then(
  (Ay (K+1)).bind fun ae=>
  some (.more ae)
 ) else(
  some (.done K)
 )
def MN(fuel:Nat)(K:Int×(List (AZ))):Option (A8 (Int×(List (AZ))) ((List (AZ)))):=
 if 1≤K.1 then(
  (ix K.2 (K.1)).bind fun O=>
  (Ay (K.1 - 1)).bind fun Z=>
  (ix K.2 (Z)).bind fun aa=>
  (f134 fuel O aa).bind fun ab=>
  if ¬(ab<0) then(
   some (.done K.2)
  ) else(
   (Ay (K.1 - 1)).bind fun U=>
   (Ay (K.1 - 1)).bind fun ae=>
   (ix K.2 (ae)).bind fun W=>
   (ix (K.2.set (Int.toNat K.1) W) (U)).bind fun ah=>
   (Ay (K.1 - 1)).bind fun ag=>
   some (.more (ag,((K.2.set (Int.toNat K.1) W).set (Int.toNat U) O)))
  )
 ) else(
  some (.done K.2)
 )
def M0(fuel:Nat)(p2:Int)(K:Int×(List (AZ))):Option (A8 (Int×(List (AZ))) ((List (AZ)))):=
 if K.1<p2 then(
  (ix K.2 (K.1)).bind fun O=>
  (Ay (K.1 - 1)).bind fun Z=>
  (ix K.2 (Z)).bind fun aa=>
  (f134 fuel O aa).bind fun ab=>
  if ¬(ab<0) then(
   some (.done K.2)
  ) else(
   (Ay (K.1 - 1)).bind fun U=>
   (Ay (K.1 - 1)).bind fun ae=>
   (ix K.2 (ae)).bind fun W=>
   (ix (K.2.set (Int.toNat K.1) W) (U)).bind fun ah=>
   (Ay (K.1+1)).bind fun ag=>
   some (.more (ag,((K.2.set (Int.toNat K.1) W).set (Int.toNat U) O)))
  )
 ) else(
  some (.done K.2)
 )
def IQ(fuel:Nat)(p1:Int)(p2:Int)(K:Int×Int×(List (AZ))):Option (A8 (Int×Int×(List (AZ))) ((Bool×(List (AZ)))⊕((List (AZ))))):=
 if K.2.1<5 then(
  Option.bind (iter (Gl fuel p2 K) fuel K.1) fun O=>
  if O=p2 then(
   some (.done (Sum.inl (true,K.2.2)))
  ) else(
   (Ay (p2 - p1)).bind fun ab=>
   if ab<50 then(
    some (.done (Sum.inl (false,K.2.2)))
   ) else(
    (Ay (O - 1)).bind fun U=>
    (Ay (O - 1)).bind fun ae=>
    (ix K.2.2 (ae)).bind fun W=>
    (ix K.2.2 (O)).bind fun Z=>
    (ix (K.2.2.set (Int.toNat O) W) (U)).bind fun ao=>
    (Ay (O - p1)).bind fun ag=>
    Option.bind (
     if 2≤ag then(
      (Ay (O - 1)).bind fun ah=>
      Option.bind (iter (MN fuel) fuel (ah,((K.2.2.set (Int.toNat O) W).set (Int.toNat U) Z))) fun ai=>
      some ai
     ) else(
      some ((K.2.2.set (Int.toNat O) W).set (Int.toNat U) Z)
     )
    ) fun aa=>
    (Ay (p2 - O)).bind fun aj=>
    Option.bind (
     if 2≤aj then(
      (Ay (O+1)).bind fun ak=>
      Option.bind (iter (M0 fuel p2) fuel (ak,aa)) fun al=>
      some al
     ) else(
      some aa
     )
    ) fun am=>
    (Ay (K.2.1+1)).bind fun an=>
    some (.more (O,an,am))
   )
  )
 ) else(
  some (.done (Sum.inr K.2.2))
 )
def f183(fuel:Nat)(p0:List (AZ))(p1:Int)(p2:Int):Option (Bool×(List (AZ))):=
 (Ay (p1+1)).bind fun K=>
 Option.bind (iter (IQ fuel p1 p2) fuel (K,0,p0)) fun O=>
 Sum.elim (fun r=>some r) (fun U=>
 some (false,U)
 ) O
theorem Ns{K:Nat}{O:Nat}{U:Nat}{bd:Array Value}{p0:List (AZ)}{p1:Int}{p2:Int}(hW:WL 133 BL E K O U bd p0){fuel:Nat}{r:Bool×(List (AZ))}(bL:f183 fuel p0 p1 p2=some r):As J 183 [.slice (some ⟨K,0,none⟩) U O,iV p1,iV p2,(.func (.func 134) #[] #[])] E [(K,.cells bd 133 (0,0))] (fun w E' B'=>∃(bM:Array Value),w= .bool r.1∧B'= [(K,.cells bM 133 (0,0))]∧WL 133 BL E' K O U bM (r.2)):=by
 refine As.en func183 rfl rfl fun Q fp cs H cG bf=>?_;unfold f183 at bL;obtain⟨cH,cI,cJ⟩:=bs bL;refine zg 7 rfl ?_;refine JL.Y rfl (fun ρ h=>Yl.A6 (h _ _ rfl) (h _ _ rfl) cI) ?_;obtain⟨bN,cK,bg⟩:=bs cJ;refine zg 7 rfl ?_;refine JL.join (fun L s=>∃(bh:(List (AZ))) (bi:LH) (f18:Array Value),bN=Sum.inr bh∧Jn E H bi [[(K,.cells f18 133 (0,0))]] [] L s (WL 133 BL bi K O U f18 (bh))) ?_ ?_
 ·rintro _ _ ⟨bh,bi,f18,rfl,rfl,rfl,cM,cN,cO⟩;have cP:=elim_inr bg;refine zg 4 rfl ?_;obtain rfl:=oi cP;refine JL.rt func183 rfl rfl ?_;exact bf _ _ _ _ cM rfl ⟨f18,rfl,(by first | rfl | simp | (simp [Value.cells])),cO⟩ cN
 ·intro cQ;refine JL.block ?_;refine JL.wk [(0,.slice (some ⟨K,0,none⟩) U O),(1,iV p1),(2,iV p2),(3,(.func (.func 134) #[] #[])),(9,iV cH),(10,iV 0)] rfl ?_;refine JL.Bq cK (fun L s ab=>∃(ar:LH) (f27:Array Value),Jn E H ar [[(K,.cells f27 133 (0,0))]] [(0,.slice (some ⟨K,0,none⟩) U O),(1,iV p1),(2,iV p2),(3,(.func (.func 134) #[] #[])),(9,iV ab.1),(10,iV ab.2.1)] L s (WL 133 BL ar K O U f27 (ab.2.2))) ⟨E,bd,rfl,rfl,(Le.refl _),cG,hW⟩ ?_;rintro _ _ ab ⟨ar,f27,rfl,rfl,aZ,bO,aj⟩ bj ⟨fq,aL⟩ cR;have bk:=aL;unfold IQ at bk;refine zg 6 rfl ?_;refine JL.ifs (p:=ab.2.1<5) rfl (fun bl=>?_) (fun bl=>?_)
  ·have cT:=ip bk bl;obtain⟨ak,cV,bP⟩:=bs cT;refine zg 4 rfl ?_;refine JL.join (fun L s=>∃(au:LH),Jm ar H au [[(K,.cells f27 133 (0,0))]] [(0,.slice (some ⟨K,0,none⟩) U O),(1,iV p1),(2,iV p2),(3,(.func (.func 134) #[] #[])),(9,iV ak),(10,iV ab.2.1)] L s) ?_ ?_
   ·rintro _ _ ⟨au,rfl,rfl,an,aM⟩;refine zg 7 rfl ?_;refine JL.ifs (p:=ak=p2) rfl (fun bm=>?_) (fun bm=>?_)
    ·have cW:=ip bP bm;refine zg 4 rfl ?_;obtain rfl:=oi cW;obtain rfl:=bj _ aL;have cX:=elim_inl bg;obtain rfl:=oi cX;refine JL.rt func183 rfl rfl ?_;exact bf _ _ _ _ (aZ.trans an) rfl ⟨f27,rfl,(by first | rfl | simp | (simp [Value.cells])),(aj.mono an)⟩ aM
    ·have cY:=im bP bm;obtain⟨cZ,c0,bQ⟩:=bs cY;refine zg 6 rfl ?_;refine JL.Y rfl (fun ρ h=>Yl.Ba (h _ _ rfl) (h _ _ rfl) c0) ?_;refine zg 2 rfl ?_;refine JL.ifs (p:=cZ<50) rfl (fun bn=>?_) (fun bn=>?_)
     ·have c1:=ip bQ bn;refine zg 4 rfl ?_;obtain rfl:=oi c1;obtain rfl:=bj _ aL;have c2:=elim_inl bg;obtain rfl:=oi c2;refine JL.rt func183 rfl rfl ?_;exact bf _ _ _ _ (aZ.trans an) rfl ⟨f27,rfl,(by first | rfl | simp | (simp [Value.cells])),(aj.mono an)⟩ aM
     ·have c3:=im bQ bn;refine zg 2 rfl ?_;refine JB.draw [15,17] [K] mixed rfl ?_;refine JB.mv 0 rfl rfl ?_;refine JB.mv 1 rfl rfl ?_;refine JB.mv 2 rfl rfl ?_;refine JB.mv 3 rfl rfl ?_;obtain⟨bo,c4,c5⟩:=bs c3;refine JB.V 4 true rfl rfl (fun ρ h s' hs=>Yl.Ba (h _ _ rfl) (h _ _ rfl) c4) ?_;refine JB.mv 5 rfl rfl ?_;refine JB.mv 6 rfl rfl ?_;obtain⟨fs,c6,c7⟩:=bs c5;refine JB.V 7 true rfl rfl (fun ρ h s' hs=>Yl.Ba (h _ _ rfl) (h _ _ rfl) c6) ?_;obtain⟨ae,bR,c8⟩:=bs c7;obtain⟨_,⟨_,_,rfl,rfl,⟨_,_,rfl,rfl,⟨aA,aB,rfl,c9⟩⟩⟩,da⟩:=WL.at (aj.mono an) bR;refine JB.V 8 true rfl rfl (fun ρ h s' hs=>Yl.Be aj.2 bR underlying130 (Ag type133) (h _ _ rfl) (h _ _ rfl)) ?_;refine JB.val (v:= .agg #[iV ae.1,iV ae.2.1,.slice aA (ae.2.2).length aB]) 9 false rfl (by decide+kernel) rfl rfl rfl (fun ρ h s' hs=>have hs:=hs rfl;Yl.Bp (vs:= [iV ae.1,iV ae.2.1,.slice aA (ae.2.2).length aB]) (An underlying133) (Ag type133) (h _ _ rfl) (fun q w W=>by rw [Bd rfl];exact Bh 0 aM rfl (by simp [AA]) hs (da q w W))) ?_;refine JB.mv 10 rfl rfl ?_;refine JB.mv 11 rfl rfl ?_;obtain⟨ag,a0,db⟩:=bs c8;obtain⟨_,⟨_,_,rfl,rfl,⟨_,_,rfl,rfl,⟨aC,aD,rfl,dc⟩⟩⟩,dd⟩:=WL.at (aj.mono an) a0;refine JB.V 12 true rfl rfl (fun ρ h s' hs=>Yl.Be aj.2 a0 underlying130 (Ag type133) (h _ _ rfl) (h _ _ rfl)) ?_;refine JB.val (v:= .agg #[iV ag.1,iV ag.2.1,.slice aC (ag.2.2).length aD]) 13 false rfl (by decide+kernel) rfl rfl rfl (fun ρ h s' hs=>have hs:=hs rfl;Yl.Bp (vs:= [iV ag.1,iV ag.2.1,.slice aC (ag.2.2).length aD]) (An underlying133) (Ag type133) (h _ _ rfl) (fun q w W=>by rw [Bd rfl];exact Bh 0 aM rfl (by simp [AA]) hs (dd q w W))) ?_;refine JB.V 14 true rfl rfl (fun ρ h s' hs=>Yl.Be aj.2 a0 underlying130 (Ag type133) (h _ _ rfl) (h _ _ rfl)) ?_;have aN:=WL.put (x':=ae) (ws':= [iV ae.1,iV ae.2.1,.slice aA (ae.2.2).length aB]) (aj.mono an) aj.2 a0 ⟨_,_,rfl,rfl,⟨_,_,rfl,rfl,⟨_,_,rfl,c9⟩⟩⟩;refine JB.store (v:= .agg #[iV ae.1,iV ae.2.1,.slice aA (ae.2.2).length aB]) (off:=Int.toNat (ak)*3) 15 0 (by decide+kernel) (by decide+kernel) rfl rfl rfl aM rfl rfl (Ag type133) (by simp [Value.cells,BJ]) rfl aN.2 fun de=>?_;obtain⟨fu,bp,df⟩:=bs db;obtain⟨_,⟨_,_,rfl,rfl,⟨_,_,rfl,rfl,⟨fv,fw,rfl,fx⟩⟩⟩,fy⟩:=WL.at aN.1 bp;refine JB.V 16 true rfl rfl (fun ρ h s' hs=>Yl.Be (aN.1).2 bp underlying130 (Ag type133) (h _ _ rfl) (h _ _ rfl)) ?_;have bq:=WL.put (x':=ag) (ws':= [iV ag.1,iV ag.2.1,.slice aC (ag.2.2).length aD]) aN.1 (aN.1).2 bp ⟨_,_,rfl,rfl,⟨_,_,rfl,rfl,⟨_,_,rfl,dc⟩⟩⟩;refine JB.store (v:= .agg #[iV ag.1,iV ag.2.1,.slice aC (ag.2.2).length aD]) (off:=Int.toNat (bo)*3) 17 0 (by decide+kernel) (by decide+kernel) rfl rfl rfl de rfl rfl (Ag type133) (by simp [Value.cells,BJ]) rfl bq.2 fun bS=>?_;refine JB.fin (by decide+kernel) ?_;obtain⟨dg,dh,di⟩:=bs df;refine zg 5 rfl ?_;refine JL.Y rfl (fun ρ h=>Yl.Ba (h _ _ rfl) (h _ _ rfl) dh) ?_;obtain⟨dj,bT,dk⟩:=bs di;refine zg 2 rfl ?_;refine JL.join (fun L s=>∃(ao:LH) (f99:Array Value),Jn au H ao [[(K,.cells f99 133 (0,0))]] [(0,.slice (some ⟨K,0,none⟩) U O),(1,iV p1),(2,iV p2),(3,(.func (.func 134) #[] #[])),(9,iV ak),(10,iV ab.2.1)] L s (WL 133 BL ao K O U f99 (dj))) ?_ ?_
      ·rintro _ _ ⟨ao,f99,rfl,rfl,dl,bU,bV⟩;obtain⟨dm,dn,dp⟩:=bs dk;refine zg 4 rfl ?_;refine JL.Y rfl (fun ρ h=>Yl.Ba (h _ _ rfl) (h _ _ rfl) dn) ?_;obtain⟨bW,bX,dq⟩:=bs dp;refine zg 2 rfl ?_;refine JL.join (fun L s=>∃(a1:LH) (f109:Array Value),Jn ao H a1 [[(K,.cells f109 133 (0,0))]] [(0,.slice (some ⟨K,0,none⟩) U O),(1,iV p1),(2,iV p2),(3,(.func (.func 134) #[] #[])),(9,iV ak),(10,iV ab.2.1)] L s (WL 133 BL a1 K O U f109 (bW))) ?_ ?_
       ·rintro _ _ ⟨a1,f109,rfl,rfl,dr,dt,du⟩;obtain⟨dv,dw,dx⟩:=bs dq;refine zg 3 rfl ?_;refine JL.Y rfl (fun ρ h=>Yl.A6 (h _ _ rfl) (h _ _ rfl) dw) ?_;refine zg 2 rfl ?_;obtain rfl:=oi dx;exact JL.kw (cR _ _ (ak,dv,bW) ⟨a1,f109,rfl,rfl,(((aZ.trans an).trans dl).trans dr),dt,du⟩ aL) rfl
       ·intro bY;refine JL.ifs (p:=2≤dm) rfl (fun br=>?_) (fun br=>?_)
        ·have dy:=ip bX br;obtain⟨dz,dA,dB⟩:=bs dy;refine zg 3 rfl ?_;refine JL.Y rfl (fun ρ h=>Yl.A6 (h _ _ rfl) (h _ _ rfl) dA) ?_;obtain⟨dC,dD,dE⟩:=bs dB;refine zg 2 rfl ?_;refine JL.join (fun L s=>∃(a2:LH) (f134:Array Value),Jn ao H a2 [[(K,.cells f134 133 (0,0))]] [(0,.slice (some ⟨K,0,none⟩) U O),(1,iV p1),(2,iV p2),(3,(.func (.func 134) #[] #[])),(9,iV ak),(10,iV ab.2.1)] L s (WL 133 BL a2 K O U f134 (dC))) ?_ ?_
         ·rintro _ _ ⟨a2,f134,rfl,rfl,dF,dG,dH⟩;obtain rfl:=oi dE;exact JL.kw (bY _ _ ⟨a2,f134,rfl,rfl,dF,dG,dH⟩) rfl
         ·intro bZ;refine JL.block ?_;refine JL.wk [(0,.slice (some ⟨K,0,none⟩) U O),(1,iV p1),(2,iV p2),(3,(.func (.func 134) #[] #[])),(9,iV ak),(10,iV ab.2.1),(12,iV dz)] rfl ?_;refine JL.Bq dD (fun L s ap=>∃(a3:LH) (f142:Array Value),Jn ao H a3 [[(K,.cells f142 133 (0,0))]] [(0,.slice (some ⟨K,0,none⟩) U O),(1,iV p1),(2,iV p2),(3,(.func (.func 134) #[] #[])),(9,iV ak),(10,iV ab.2.1),(12,iV ap.1)] L s (WL 133 BL a3 K O U f142 (ap.2))) ⟨ao,f99,rfl,rfl,(Le.refl _),bU,bV⟩ ?_;rintro _ _ ap ⟨a3,f142,rfl,rfl,bu,aO,al⟩ b0 ⟨fz,a4⟩ dI;have bv:=a4;unfold M0 at bv;refine zg 7 rfl ?_;refine JL.ifs (p:=ap.1<p2) rfl (fun bw=>?_) (fun bw=>?_)
          ·have dJ:=ip bv bw;refine zg 5 rfl ?_;refine JG.Cn 10 [K] ⟨⟨0,_,rfl⟩,trivial⟩ aO mixed rfl (by decide+kernel) fun ht=>?_;refine JG.ms ht rfl [0,1,2] rfl ?_;obtain⟨Z,aP,dK⟩:=bs dJ;obtain⟨_,⟨_,_,rfl,rfl,⟨_,_,rfl,rfl,⟨av,aw,rfl,b1⟩⟩⟩,b2⟩:=WL.at al aP;refine JG.V 3 ht rfl rfl (fun ρ h s' hs=>Yl.Be (al).2 aP underlying130 (Ag type133) (h _ _ rfl) (h _ _ rfl)) ?_;refine JG.V 4 ht rfl rfl (fun ρ h s' hs=>Yl.Bp (vs:= [iV Z.1,iV Z.2.1,.slice av (Z.2.2).length aw]) (An underlying133) (Ag type133) (h _ _ rfl) (fun q w W=>by rw [Bd rfl];exact Bh 0 aO rfl (by simp [AA]) hs (b2 q w W))) ?_;refine JG.ms ht rfl [5,6] rfl ?_;obtain⟨fA,dL,dM⟩:=bs dK;refine JG.V 7 ht rfl rfl (fun ρ h s' hs=>Yl.Ba (h _ _ rfl) (h _ _ rfl) dL) ?_;obtain⟨aE,b3,dN⟩:=bs dM;obtain⟨_,⟨_,_,rfl,rfl,⟨_,_,rfl,rfl,⟨b4,b5,rfl,dO⟩⟩⟩,dP⟩:=WL.at al b3;refine JG.V 8 ht rfl rfl (fun ρ h s' hs=>Yl.Be (al).2 b3 underlying130 (Ag type133) (h _ _ rfl) (h _ _ rfl)) ?_;refine JG.V 9 ht rfl rfl (fun ρ h s' hs=>Yl.Bp (vs:= [iV aE.1,iV aE.2.1,.slice b4 (aE.2.2).length b5]) (An underlying133) (Ag type133) (h _ _ rfl) (fun q w W=>by rw [Bd rfl];exact Bh 0 aO rfl (by simp [AA]) hs (dP q w W))) ?_;refine Au.leaf (tail:= [10,11,12]) (by decide+kernel) (fun t=>A7 (by decide+kernel) (A7 (by decide+kernel) (A7 (by decide+kernel) BU)) t) ?_;obtain⟨b6,dQ,b7⟩:=bs dN;refine JS.Gs (vs:= [.agg #[iV Z.1,iV Z.2.1,.slice av (Z.2.2).length aw],.agg #[iV aE.1,iV aE.2.1,.slice b4 (aE.2.2).length b5]]) (EH b1 dO dQ) rfl rfl rfl rfl (Aw func134 rfl) rfl aO ?_;rintro _ b8 _ aF ⟨rfl,rfl⟩ a5;refine zg 1 rfl ?_;refine JL.Y (v:= .bool (decide (¬(b6<0)))) rfl (fun ρ h=>Yl.Gw (h _ _ rfl)) ?_;refine JL.done ?_;refine JL.ifs (p:=¬(b6<0)) rfl (fun bx=>?_) (fun bx=>?_)
           ·have dR:=ip b7 bx;refine JL.exit rfl ?_;obtain rfl:=oi dR;obtain rfl:=b0 _ a4;exact JL.kw (bZ _ _ ⟨b8,f142,rfl,rfl,(bu.trans aF),a5,(al.mono aF)⟩) rfl
           ·have dS:=im b7 bx;refine JL.skip ?_;refine JB.draw [15,17] [K] mixed rfl ?_;refine JB.mv 0 rfl rfl ?_;refine JB.mv 1 rfl rfl ?_;refine JB.mv 2 rfl rfl ?_;refine JB.mv 3 rfl rfl ?_;obtain⟨bz,dT,dU⟩:=bs dS;refine JB.V 4 true rfl rfl (fun ρ h s' hs=>Yl.Ba (h _ _ rfl) (h _ _ rfl) dT) ?_;refine JB.mv 5 rfl rfl ?_;refine JB.mv 6 rfl rfl ?_;obtain⟨fB,dV,dW⟩:=bs dU;refine JB.V 7 true rfl rfl (fun ρ h s' hs=>Yl.Ba (h _ _ rfl) (h _ _ rfl) dV) ?_;obtain⟨ah,b9,dX⟩:=bs dW;obtain⟨_,⟨_,_,rfl,rfl,⟨_,_,rfl,rfl,⟨aQ,aR,rfl,dY⟩⟩⟩,dZ⟩:=WL.at (al.mono aF) b9;refine JB.V 8 true rfl rfl (fun ρ h s' hs=>Yl.Be al.2 b9 underlying130 (Ag type133) (h _ _ rfl) (h _ _ rfl)) ?_;refine JB.val (v:= .agg #[iV ah.1,iV ah.2.1,.slice aQ (ah.2.2).length aR]) 9 false rfl (by decide+kernel) rfl rfl rfl (fun ρ h s' hs=>have hs:=hs rfl;Yl.Bp (vs:= [iV ah.1,iV ah.2.1,.slice aQ (ah.2.2).length aR]) (An underlying133) (Ag type133) (h _ _ rfl) (fun q w W=>by rw [Bd rfl];exact Bh 0 a5 rfl (by simp [AA]) hs (dZ q w W))) ?_;refine JB.mv 10 rfl rfl ?_;refine JB.mv 11 rfl rfl ?_;refine JB.V 12 true rfl rfl (fun ρ h s' hs=>Yl.Be al.2 aP underlying130 (Ag type133) (h _ _ rfl) (h _ _ rfl)) ?_;refine JB.val (v:= .agg #[iV Z.1,iV Z.2.1,.slice av (Z.2.2).length aw]) 13 false rfl (by decide+kernel) rfl rfl rfl (fun ρ h s' hs=>have hs:=hs rfl;Yl.Bp (vs:= [iV Z.1,iV Z.2.1,.slice av (Z.2.2).length aw]) (An underlying133) (Ag type133) (h _ _ rfl) (fun q w W=>by rw [Bd rfl];exact Bh 0 a5 rfl (by simp [AA]) hs (b2 q w W))) ?_;refine JB.V 14 true rfl rfl (fun ρ h s' hs=>Yl.Be al.2 aP underlying130 (Ag type133) (h _ _ rfl) (h _ _ rfl)) ?_;have aS:=WL.put (x':=ah) (ws':= [iV ah.1,iV ah.2.1,.slice aQ (ah.2.2).length aR]) (al.mono aF) al.2 aP ⟨_,_,rfl,rfl,⟨_,_,rfl,rfl,⟨_,_,rfl,dY⟩⟩⟩;refine JB.store (v:= .agg #[iV ah.1,iV ah.2.1,.slice aQ (ah.2.2).length aR]) (off:=Int.toNat (ap.1)*3) 15 0 (by decide+kernel) (by decide+kernel) rfl rfl rfl a5 rfl rfl (Ag type133) (by simp [Value.cells,BJ]) rfl aS.2 fun ea=>?_;obtain⟨fC,bA,eb⟩:=bs dX;obtain⟨_,⟨_,_,rfl,rfl,⟨_,_,rfl,rfl,⟨fD,fE,rfl,fF⟩⟩⟩,fG⟩:=WL.at aS.1 bA;refine JB.V 16 true rfl rfl (fun ρ h s' hs=>Yl.Be (aS.1).2 bA underlying130 (Ag type133) (h _ _ rfl) (h _ _ rfl)) ?_;have ca:=WL.put (x':=Z) (ws':= [iV Z.1,iV Z.2.1,.slice av (Z.2.2).length aw]) aS.1 (aS.1).2 bA ⟨_,_,rfl,rfl,⟨_,_,rfl,rfl,⟨_,_,rfl,(b1.mono aF)⟩⟩⟩;refine JB.store (v:= .agg #[iV Z.1,iV Z.2.1,.slice av (Z.2.2).length aw]) (off:=Int.toNat (bz)*3) 17 0 (by decide+kernel) (by decide+kernel) rfl rfl rfl ea rfl rfl (Ag type133) (by simp [Value.cells,BJ]) rfl ca.2 fun ec=>?_;refine JB.fin (by decide+kernel) ?_;obtain⟨ed,ee,ef⟩:=bs eb;refine zg 3 rfl ?_;refine JL.Y rfl (fun ρ h=>Yl.A6 (h _ _ rfl) (h _ _ rfl) ee) ?_;refine zg 2 rfl ?_;obtain rfl:=oi ef;exact JL.kw (dI _ _ (ed,((ap.2.set (Int.toNat ap.1) ah).set (Int.toNat bz) Z)) ⟨b8,(A0 (A0 f142 (Int.toNat (ap.1)*3) [iV ah.1,iV ah.2.1,.slice aQ (ah.2.2).length aR]) (Int.toNat (bz)*3) [iV Z.1,iV Z.2.1,.slice av (Z.2.2).length aw]),rfl,rfl,(bu.trans aF),ec,ca.1⟩ a4) rfl
          ·have eg:=im bv bw;refine JL.exit rfl ?_;obtain rfl:=oi eg;obtain rfl:=b0 _ a4;exact JL.kw (bZ _ _ ⟨a3,f142,rfl,rfl,bu,aO,al⟩) rfl
        ·have eh:=im bX br;refine JL.skip ?_;obtain rfl:=oi eh;exact JL.kw (bY _ _ ⟨ao,f99,rfl,rfl,(Le.refl _),bU,bV⟩) rfl
      ·intro cb;refine JL.ifs (p:=2≤dg) rfl (fun bB=>?_) (fun bB=>?_)
       ·have ei:=ip bT bB;obtain⟨ej,ek,el⟩:=bs ei;refine zg 3 rfl ?_;refine JL.Y rfl (fun ρ h=>Yl.Ba (h _ _ rfl) (h _ _ rfl) ek) ?_;obtain⟨em,eo,ep⟩:=bs el;refine zg 2 rfl ?_;refine JL.join (fun L s=>∃(a6:LH) (f224:Array Value),Jn au H a6 [[(K,.cells f224 133 (0,0))]] [(0,.slice (some ⟨K,0,none⟩) U O),(1,iV p1),(2,iV p2),(3,(.func (.func 134) #[] #[])),(9,iV ak),(10,iV ab.2.1)] L s (WL 133 BL a6 K O U f224 (em))) ?_ ?_
        ·rintro _ _ ⟨a6,f224,rfl,rfl,eq,er,et⟩;obtain rfl:=oi ep;exact JL.kw (cb _ _ ⟨a6,f224,rfl,rfl,eq,er,et⟩) rfl
        ·intro cc;refine JL.block ?_;refine JL.wk [(0,.slice (some ⟨K,0,none⟩) U O),(1,iV p1),(2,iV p2),(3,(.func (.func 134) #[] #[])),(9,iV ak),(10,iV ab.2.1),(11,iV ej)] rfl ?_;refine JL.Bq eo (fun L s aq=>∃(a7:LH) (f232:Array Value),Jn au H a7 [[(K,.cells f232 133 (0,0))]] [(0,.slice (some ⟨K,0,none⟩) U O),(1,iV p1),(2,iV p2),(3,(.func (.func 134) #[] #[])),(9,iV ak),(10,iV ab.2.1),(11,iV aq.1)] L s (WL 133 BL a7 K O U f232 (aq.2))) ⟨au,(A0 (A0 f27 (Int.toNat (ak)*3) [iV ae.1,iV ae.2.1,.slice aA (ae.2.2).length aB]) (Int.toNat (bo)*3) [iV ag.1,iV ag.2.1,.slice aC (ag.2.2).length aD]),rfl,rfl,(Le.refl _),bS,bq.1⟩ ?_;rintro _ _ aq ⟨a7,f232,rfl,rfl,bC,aT,am⟩ cd ⟨fH,a8⟩ eu;have bD:=a8;unfold MN at bD;refine zg 6 rfl ?_;refine JL.ifs (p:=1≤aq.1) rfl (fun bE=>?_) (fun bE=>?_)
         ·have ew:=ip bD bE;refine zg 5 rfl ?_;refine JG.Cn 10 [K] ⟨⟨0,_,rfl⟩,trivial⟩ aT mixed rfl (by decide+kernel) fun ht=>?_;refine JG.ms ht rfl [0,1,2] rfl ?_;obtain⟨aa,aU,ex⟩:=bs ew;obtain⟨_,⟨_,_,rfl,rfl,⟨_,_,rfl,rfl,⟨ay,az,rfl,ce⟩⟩⟩,cf⟩:=WL.at am aU;refine JG.V 3 ht rfl rfl (fun ρ h s' hs=>Yl.Be (am).2 aU underlying130 (Ag type133) (h _ _ rfl) (h _ _ rfl)) ?_;refine JG.V 4 ht rfl rfl (fun ρ h s' hs=>Yl.Bp (vs:= [iV aa.1,iV aa.2.1,.slice ay (aa.2.2).length az]) (An underlying133) (Ag type133) (h _ _ rfl) (fun q w W=>by rw [Bd rfl];exact Bh 0 aT rfl (by simp [AA]) hs (cf q w W))) ?_;refine JG.ms ht rfl [5,6] rfl ?_;obtain⟨fI,ey,ez⟩:=bs ex;refine JG.V 7 ht rfl rfl (fun ρ h s' hs=>Yl.Ba (h _ _ rfl) (h _ _ rfl) ey) ?_;obtain⟨aG,cg,eA⟩:=bs ez;obtain⟨_,⟨_,_,rfl,rfl,⟨_,_,rfl,rfl,⟨ci,ck,rfl,eB⟩⟩⟩,eC⟩:=WL.at am cg;refine JG.V 8 ht rfl rfl (fun ρ h s' hs=>Yl.Be (am).2 cg underlying130 (Ag type133) (h _ _ rfl) (h _ _ rfl)) ?_;refine JG.V 9 ht rfl rfl (fun ρ h s' hs=>Yl.Bp (vs:= [iV aG.1,iV aG.2.1,.slice ci (aG.2.2).length ck]) (An underlying133) (Ag type133) (h _ _ rfl) (fun q w W=>by rw [Bd rfl];exact Bh 0 aT rfl (by simp [AA]) hs (eC q w W))) ?_;refine Au.leaf (tail:= [10,11,12]) (by decide+kernel) (fun t=>A7 (by decide+kernel) (A7 (by decide+kernel) (A7 (by decide+kernel) BU)) t) ?_;obtain⟨cm,eD,cn⟩:=bs eA;refine JS.Gs (vs:= [.agg #[iV aa.1,iV aa.2.1,.slice ay (aa.2.2).length az],.agg #[iV aG.1,iV aG.2.1,.slice ci (aG.2.2).length ck]]) (EH ce eB eD) rfl rfl rfl rfl (Aw func134 rfl) rfl aT ?_;rintro _ co _ aH ⟨rfl,rfl⟩ a9;refine zg 1 rfl ?_;refine JL.Y (v:= .bool (decide (¬(cm<0)))) rfl (fun ρ h=>Yl.Gw (h _ _ rfl)) ?_;refine JL.done ?_;refine JL.ifs (p:=¬(cm<0)) rfl (fun bF=>?_) (fun bF=>?_)
          ·have eE:=ip cn bF;refine JL.exit rfl ?_;obtain rfl:=oi eE;obtain rfl:=cd _ a8;exact JL.kw (cc _ _ ⟨co,f232,rfl,rfl,(bC.trans aH),a9,(am.mono aH)⟩) rfl
          ·have eF:=im cn bF;refine JL.skip ?_;refine JB.draw [15,17] [K] mixed rfl ?_;refine JB.mv 0 rfl rfl ?_;refine JB.mv 1 rfl rfl ?_;refine JB.mv 2 rfl rfl ?_;refine JB.mv 3 rfl rfl ?_;obtain⟨bG,eG,eH⟩:=bs eF;refine JB.V 4 true rfl rfl (fun ρ h s' hs=>Yl.Ba (h _ _ rfl) (h _ _ rfl) eG) ?_;refine JB.mv 5 rfl rfl ?_;refine JB.mv 6 rfl rfl ?_;obtain⟨fJ,eI,eJ⟩:=bs eH;refine JB.V 7 true rfl rfl (fun ρ h s' hs=>Yl.Ba (h _ _ rfl) (h _ _ rfl) eI) ?_;obtain⟨ai,cp,eK⟩:=bs eJ;obtain⟨_,⟨_,_,rfl,rfl,⟨_,_,rfl,rfl,⟨aV,aW,rfl,eL⟩⟩⟩,eM⟩:=WL.at (am.mono aH) cp;refine JB.V 8 true rfl rfl (fun ρ h s' hs=>Yl.Be am.2 cp underlying130 (Ag type133) (h _ _ rfl) (h _ _ rfl)) ?_;refine JB.val (v:= .agg #[iV ai.1,iV ai.2.1,.slice aV (ai.2.2).length aW]) 9 false rfl (by decide+kernel) rfl rfl rfl (fun ρ h s' hs=>have hs:=hs rfl;Yl.Bp (vs:= [iV ai.1,iV ai.2.1,.slice aV (ai.2.2).length aW]) (An underlying133) (Ag type133) (h _ _ rfl) (fun q w W=>by rw [Bd rfl];exact Bh 0 a9 rfl (by simp [AA]) hs (eM q w W))) ?_;refine JB.mv 10 rfl rfl ?_;refine JB.mv 11 rfl rfl ?_;refine JB.V 12 true rfl rfl (fun ρ h s' hs=>Yl.Be am.2 aU underlying130 (Ag type133) (h _ _ rfl) (h _ _ rfl)) ?_;refine JB.val (v:= .agg #[iV aa.1,iV aa.2.1,.slice ay (aa.2.2).length az]) 13 false rfl (by decide+kernel) rfl rfl rfl (fun ρ h s' hs=>have hs:=hs rfl;Yl.Bp (vs:= [iV aa.1,iV aa.2.1,.slice ay (aa.2.2).length az]) (An underlying133) (Ag type133) (h _ _ rfl) (fun q w W=>by rw [Bd rfl];exact Bh 0 a9 rfl (by simp [AA]) hs (cf q w W))) ?_;refine JB.V 14 true rfl rfl (fun ρ h s' hs=>Yl.Be am.2 aU underlying130 (Ag type133) (h _ _ rfl) (h _ _ rfl)) ?_;have aX:=WL.put (x':=ai) (ws':= [iV ai.1,iV ai.2.1,.slice aV (ai.2.2).length aW]) (am.mono aH) am.2 aU ⟨_,_,rfl,rfl,⟨_,_,rfl,rfl,⟨_,_,rfl,eL⟩⟩⟩;refine JB.store (v:= .agg #[iV ai.1,iV ai.2.1,.slice aV (ai.2.2).length aW]) (off:=Int.toNat (aq.1)*3) 15 0 (by decide+kernel) (by decide+kernel) rfl rfl rfl a9 rfl rfl (Ag type133) (by simp [Value.cells,BJ]) rfl aX.2 fun eN=>?_;obtain⟨fK,bH,eO⟩:=bs eK;obtain⟨_,⟨_,_,rfl,rfl,⟨_,_,rfl,rfl,⟨fL,fM,rfl,fN⟩⟩⟩,fO⟩:=WL.at aX.1 bH;refine JB.V 16 true rfl rfl (fun ρ h s' hs=>Yl.Be (aX.1).2 bH underlying130 (Ag type133) (h _ _ rfl) (h _ _ rfl)) ?_;have cq:=WL.put (x':=aa) (ws':= [iV aa.1,iV aa.2.1,.slice ay (aa.2.2).length az]) aX.1 (aX.1).2 bH ⟨_,_,rfl,rfl,⟨_,_,rfl,rfl,⟨_,_,rfl,(ce.mono aH)⟩⟩⟩;refine JB.store (v:= .agg #[iV aa.1,iV aa.2.1,.slice ay (aa.2.2).length az]) (off:=Int.toNat (bG)*3) 17 0 (by decide+kernel) (by decide+kernel) rfl rfl rfl eN rfl rfl (Ag type133) (by simp [Value.cells,BJ]) rfl cq.2 fun eP=>?_;refine JB.fin (by decide+kernel) ?_;obtain⟨eQ,eR,eS⟩:=bs eO;refine zg 3 rfl ?_;refine JL.Y rfl (fun ρ h=>Yl.Ba (h _ _ rfl) (h _ _ rfl) eR) ?_;refine zg 2 rfl ?_;obtain rfl:=oi eS;exact JL.kw (eu _ _ (eQ,((aq.2.set (Int.toNat aq.1) ai).set (Int.toNat bG) aa)) ⟨co,(A0 (A0 f232 (Int.toNat (aq.1)*3) [iV ai.1,iV ai.2.1,.slice aV (ai.2.2).length aW]) (Int.toNat (bG)*3) [iV aa.1,iV aa.2.1,.slice ay (aa.2.2).length az]),rfl,rfl,(bC.trans aH),eP,cq.1⟩ a8) rfl
         ·have eT:=im bD bE;refine JL.exit rfl ?_;obtain rfl:=oi eT;obtain rfl:=cd _ a8;exact JL.kw (cc _ _ ⟨a7,f232,rfl,rfl,bC,aT,am⟩) rfl
       ·have eU:=im bT bB;refine JL.skip ?_;obtain rfl:=oi eU;exact JL.kw (cb _ _ ⟨au,(A0 (A0 f27 (Int.toNat (ak)*3) [iV ae.1,iV ae.2.1,.slice aA (ae.2.2).length aB]) (Int.toNat (bo)*3) [iV ag.1,iV ag.2.1,.slice aC (ag.2.2).length aD]),rfl,rfl,(Le.refl _),bS,bq.1⟩) rfl
   ·intro eV;refine JL.block ?_;refine JL.wk [(0,.slice (some ⟨K,0,none⟩) U O),(1,iV p1),(2,iV p2),(3,(.func (.func 134) #[] #[])),(9,iV ab.1),(10,iV ab.2.1)] rfl ?_;refine JL.Bq cV (fun L s ba=>∃(bb:LH),Jm ar H bb [[(K,.cells f27 133 (0,0))]] [(0,.slice (some ⟨K,0,none⟩) U O),(1,iV p1),(2,iV p2),(3,(.func (.func 134) #[] #[])),(9,iV ba),(10,iV ab.2.1)] L s) ⟨ar,rfl,rfl,(Le.refl _),bO⟩ ?_;rintro _ _ ba ⟨bb,rfl,rfl,aI,aY⟩ eW ⟨fP,bI⟩ eX;have cr:=bI;unfold Gl at cr;refine zg 2 rfl ?_;refine JG.Cn 18 [K] ⟨⟨0,_,rfl⟩,trivial⟩ aY mixed rfl (by decide+kernel) fun ht=>?_;refine JG.ms ht rfl [0,1,2,3] rfl ?_;obtain⟨ct,cu,cv⟩:=bs cr;refine Au.join 0 #[true,true,true,true,true,true,true,true,true,true,true,true,true,true,true,true,true,true] (fun L s=>∃(bc:LH),Jm bb H bc [[(K,.cells f27 133 (0,0))]] [(0,.slice (some ⟨K,0,none⟩) U O),(1,iV p1),(2,iV p2),(3,(.func (.func 134) #[] #[])),(9,iV ba),(10,iV ab.2.1),(36,.bool ct)] L s) ?_ ?_
    ·rintro _ _ ⟨bc,rfl,rfl,cw,cy⟩;refine Au.fin (by decide+kernel) ?_;refine JL.split (t:=ct) rfl (fun bJ=>?_) (fun bJ=>?_)
     ·have eY:=ip cv bJ;obtain⟨eZ,e0,e1⟩:=bs eY;refine zg 4 rfl ?_;refine JL.Y rfl (fun ρ h=>Yl.A6 (h _ _ rfl) (h _ _ rfl) e0) ?_;refine zg 3 rfl ?_;obtain rfl:=oi e1;exact JL.kw (eX _ _ eZ ⟨bc,rfl,rfl,(aI.trans cw),cy⟩ bI) rfl
     ·have e2:=ib cv bJ;refine JL.exit rfl ?_;obtain rfl:=oi e2;obtain rfl:=eW _ bI;exact JL.kw (eV _ _ ⟨bc,rfl,rfl,(aI.trans cw),cy⟩) rfl
    ·intro cz;refine Au.Cm (q:=ba<p2) (i:=22) rfl (fun bK=>?_) (fun bK=>?_)
     ·have e3:=ip cu bK;refine JG.ms ht rfl [4,5,6] rfl ?_;obtain⟨aJ,cA,e4⟩:=bs e3;obtain⟨_,⟨_,_,rfl,rfl,⟨_,_,rfl,rfl,⟨cB,cC,rfl,e5⟩⟩⟩,e6⟩:=WL.at (aj.mono aI) cA;refine JG.V 7 ht rfl rfl (fun ρ h s' hs=>Yl.Be ((aj.mono aI)).2 cA underlying130 (Ag type133) (h _ _ rfl) (h _ _ rfl)) ?_;refine JG.V 8 ht rfl rfl (fun ρ h s' hs=>Yl.Bp (vs:= [iV aJ.1,iV aJ.2.1,.slice cB (aJ.2.2).length cC]) (An underlying133) (Ag type133) (h _ _ rfl) (fun q w W=>by rw [Bd rfl];exact Bh 0 aY rfl (by simp [AA]) hs (e6 q w W))) ?_;refine JG.ms ht rfl [9,10] rfl ?_;obtain⟨fQ,e7,e8⟩:=bs e4;refine JG.V 11 ht rfl rfl (fun ρ h s' hs=>Yl.Ba (h _ _ rfl) (h _ _ rfl) e7) ?_;obtain⟨aK,cD,e9⟩:=bs e8;obtain⟨_,⟨_,_,rfl,rfl,⟨_,_,rfl,rfl,⟨cE,cF,rfl,fa⟩⟩⟩,fb⟩:=WL.at (aj.mono aI) cD;refine JG.V 12 ht rfl rfl (fun ρ h s' hs=>Yl.Be ((aj.mono aI)).2 cD underlying130 (Ag type133) (h _ _ rfl) (h _ _ rfl)) ?_;refine JG.V 13 ht rfl rfl (fun ρ h s' hs=>Yl.Bp (vs:= [iV aK.1,iV aK.2.1,.slice cE (aK.2.2).length cF]) (An underlying133) (Ag type133) (h _ _ rfl) (fun q w W=>by rw [Bd rfl];exact Bh 0 aY rfl (by simp [AA]) hs (fb q w W))) ?_;obtain⟨fc,fe,ff⟩:=bs e9;refine JG.FC (i:=14) ⟨⟨0,_,rfl⟩,trivial⟩ (vs:= [.agg #[iV aJ.1,iV aJ.2.1,.slice cB (aJ.2.2).length cC],.agg #[iV aK.1,iV aK.2.1,.slice cE (aK.2.2).length cF]]) (EH e5 fa fe) (by decide+kernel) rfl rfl rfl rfl (Aw func134 rfl) rfl aY ?_;rintro _ fg _ fh ⟨rfl,rfl⟩ fj;refine JG.mv 15 ht rfl rfl ?_;refine JG.V (v:= .bool (decide (¬(fc<0)))) 16 ht rfl rfl (fun ρ h s' hs=>Yl.Gw (h _ _ rfl)) ?_;refine JG.mv 17 ht rfl rfl ?_;obtain rfl:=oi ff;refine Au.Cc ?_ (cz _ _ ⟨fg,rfl,rfl,fh,fj⟩);exact⟨rfl,rfl,rfl,rfl,rfl,rfl,rfl,trivial⟩
     ·have fk:=im cu bK;refine JG.ms ht rfl [4,5,6,7,8,9,10,11,12,13,14,15,16,17] rfl ?_;obtain rfl:=oi fk;refine Au.Cc ?_ (cz _ _ ⟨bb,rfl,rfl,(Le.refl _),aY⟩);exact⟨rfl,rfl,rfl,rfl,rfl,rfl,rfl,trivial⟩
  ·have fm:=im bk bl;refine JL.exit rfl ?_;obtain rfl:=oi fm;have fo:bN=(Sum.inr ab.2.2):=(bj _ aL).symm;exact JL.kw (cQ _ _ ⟨ab.2.2,ar,f27,fo,rfl,rfl,aZ,bO,aj⟩) rfl
def Ht(fuel:Nat)(p0:List (AZ))(p1:Int)(p3:Int)(O:AZ)(U:AZ)(W:Int)(K:Int):Option (A8 (Int) (Int)):=
 Option.bind (
  if K≤W then(
   (ix ((p0.set (Int.toNat p1) O).set (Int.toNat p3) U) (K)).bind fun Z=>
   (ix ((p0.set (Int.toNat p1) O).set (Int.toNat p3) U) (p1)).bind fun aa=>
   (f134 fuel Z aa).bind fun ab=>
   some (decide (ab<0))
  ) else(
   some false
  )
 ) fun ae=>
 if ae=true then(
  (Ay (K+1)).bind fun ag=>
  some (.more ag)
 ) else(
  some (.done K)
 )
def Hw(fuel:Nat)(p0:List (AZ))(p1:Int)(p3:Int)(O:AZ)(U:AZ)(W:Int)(K:Int):Option (A8 (Int) (Int)):=
 Option.bind (
  if W≤K then(
   (ix ((p0.set (Int.toNat p1) O).set (Int.toNat p3) U) (K)).bind fun Z=>
   (ix ((p0.set (Int.toNat p1) O).set (Int.toNat p3) U) (p1)).bind fun aa=>
   (f134 fuel Z aa).bind fun ab=>
   some (decide (¬(ab<0)))
  ) else(
   some false
  )
 ) fun ae=>
 if ae=true then(
  (Ay (K - 1)).bind fun ag=>
  some (.more ag)
 ) else(
  some (.done K)
 )
def GW(fuel:Nat)(p1:Int)(O:Int×Int×(List (AZ)))(K:Int):Option (A8 (Int) (Int)):=
 Option.bind (
  if K≤O.2.1 then(
   (ix O.2.2 (K)).bind fun U=>
   (ix O.2.2 (p1)).bind fun W=>
   (f134 fuel U W).bind fun Z=>
   some (decide (Z<0))
  ) else(
   some false
  )
 ) fun aa=>
 if aa=true then(
  (Ay (K+1)).bind fun ab=>
  some (.more ab)
 ) else(
  some (.done K)
 )
def GQ(fuel:Nat)(p1:Int)(O:Int×Int×(List (AZ)))(U:Int)(K:Int):Option (A8 (Int) (Int)):=
 Option.bind (
  if U≤K then(
   (ix O.2.2 (K)).bind fun W=>
   (ix O.2.2 (p1)).bind fun Z=>
   (f134 fuel W Z).bind fun aa=>
   some (decide (¬(aa<0)))
  ) else(
   some false
  )
 ) fun ab=>
 if ab=true then(
  (Ay (K - 1)).bind fun ae=>
  some (.more ae)
 ) else(
  some (.done K)
 )
def Gj(fuel:Nat)(p1:Int)(K:Int×Int×(List (AZ))):Option (A8 (Int×Int×(List (AZ))) (Int×(List (AZ)))):=
 Option.bind (iter (GW fuel p1 K) fuel K.1) fun O=>
 Option.bind (iter (GQ fuel p1 K O) fuel K.2.1) fun U=>
 if U<O then(
  some (.done (U,K.2.2))
 ) else(
  (ix K.2.2 (U)).bind fun W=>
  (ix K.2.2 (O)).bind fun Z=>
  (Ay (O+1)).bind fun aa=>
  (Ay (U - 1)).bind fun ab=>
  some (.more (aa,ab,((K.2.2.set (Int.toNat O) W).set (Int.toNat U) Z)))
 )
def f185(fuel:Nat)(p0:List (AZ))(p1:Int)(p2:Int)(p3:Int):Option (Int×Bool×(List (AZ))):=
 (ix p0 (p3)).bind fun K=>
 (ix p0 (p1)).bind fun O=>
 (Ay (p1+1)).bind fun ab=>
 (Ay (p2 - 1)).bind fun aa=>
 Option.bind (iter (Ht fuel p0 p1 p3 K O aa) fuel ab) fun Z=>
 Option.bind (iter (Hw fuel p0 p1 p3 K O Z) fuel aa) fun U=>
 if U<Z then(
  (ix ((p0.set (Int.toNat p1) K).set (Int.toNat p3) O) (p1)).bind fun ae=>
  (ix ((p0.set (Int.toNat p1) K).set (Int.toNat p3) O) (U)).bind fun ag=>
  some (U,true,((((p0.set (Int.toNat p1) K).set (Int.toNat p3) O).set (Int.toNat U) ae).set (Int.toNat p1) ag))
 ) else(
  (ix ((p0.set (Int.toNat p1) K).set (Int.toNat p3) O) (U)).bind fun ah=>
  (ix ((p0.set (Int.toNat p1) K).set (Int.toNat p3) O) (Z)).bind fun ai=>
  (Ay (Z+1)).bind fun aj=>
  (Ay (U - 1)).bind fun ak=>
  Option.bind (iter (Gj fuel p1) fuel (aj,ak,((((p0.set (Int.toNat p1) K).set (Int.toNat p3) O).set (Int.toNat Z) ah).set (Int.toNat U) ai))) fun W=>
  (ix W.2 (p1)).bind fun al=>
  (ix W.2 (W.1)).bind fun am=>
  some (W.1,false,((W.2.set (Int.toNat W.1) al).set (Int.toNat p1) am))
 )
theorem NG{K:Nat}{aa:Nat}{ab:Nat}{av:Array Value}{p0:List (AZ)}{p1:Int}{p2:Int}{p3:Int}(hW:WL 133 BL E K aa ab av p0){fuel:Nat}{r:Int×Bool×(List (AZ))}(b2:f185 fuel p0 p1 p2 p3=some r):As J 185 [.slice (some ⟨K,0,none⟩) ab aa,iV p1,iV p2,iV p3,(.func (.func 134) #[] #[])] E [(K,.cells av 133 (0,0))] (fun w E' B'=>∃(b3:Array Value),w= .tuple #[iV r.1,.bool r.2.1]∧B'= [(K,.cells b3 133 (0,0))]∧WL 133 BL E' K aa ab b3 (r.2.2)):=by
 refine As.en func185 rfl rfl fun Q gp cs H bJ b4=>?_;unfold f185 at b2;refine zg 6 rfl ?_;refine JB.draw [13,15] [K] mixed rfl ?_;refine JB.mv 0 rfl rfl ?_;refine JB.mv 1 rfl rfl ?_;refine JB.mv 2 rfl rfl ?_;refine JB.mv 3 rfl rfl ?_;refine JB.mv 4 rfl rfl ?_;refine JB.mv 5 rfl rfl ?_;obtain⟨O,bj,dh⟩:=bs b2;obtain⟨_,⟨_,_,rfl,rfl,⟨_,_,rfl,rfl,⟨ao,c4,rfl,di⟩⟩⟩,dj⟩:=WL.at hW bj;refine JB.V 6 true rfl rfl (fun ρ h s' hs=>Yl.Be hW.2 bj underlying130 (Ag type133) (h _ _ rfl) (h _ _ rfl)) ?_;refine JB.val (v:= .agg #[iV O.1,iV O.2.1,.slice ao (O.2.2).length c4]) 7 false rfl (by decide+kernel) rfl rfl rfl (fun ρ h s' hs=>have hs:=hs rfl;Yl.Bp (vs:= [iV O.1,iV O.2.1,.slice ao (O.2.2).length c4]) (An underlying133) (Ag type133) (h _ _ rfl) (fun q w W=>by rw [Bd rfl];exact Bh 0 bJ rfl (by simp [AA]) hs (dj q w W))) ?_;refine JB.mv 8 rfl rfl ?_;refine JB.mv 9 rfl rfl ?_;obtain⟨U,aT,dk⟩:=bs dh;obtain⟨_,⟨_,_,rfl,rfl,⟨_,_,rfl,rfl,⟨ap,aq,rfl,dl⟩⟩⟩,dm⟩:=WL.at hW aT;refine JB.V 10 true rfl rfl (fun ρ h s' hs=>Yl.Be hW.2 aT underlying130 (Ag type133) (h _ _ rfl) (h _ _ rfl)) ?_;refine JB.val (v:= .agg #[iV U.1,iV U.2.1,.slice ap (U.2.2).length aq]) 11 false rfl (by decide+kernel) rfl rfl rfl (fun ρ h s' hs=>have hs:=hs rfl;Yl.Bp (vs:= [iV U.1,iV U.2.1,.slice ap (U.2.2).length aq]) (An underlying133) (Ag type133) (h _ _ rfl) (fun q w W=>by rw [Bd rfl];exact Bh 0 bJ rfl (by simp [AA]) hs (dm q w W))) ?_;refine JB.V 12 true rfl rfl (fun ρ h s' hs=>Yl.Be hW.2 aT underlying130 (Ag type133) (h _ _ rfl) (h _ _ rfl)) ?_;have b5:=WL.put (x':=O) (ws':= [iV O.1,iV O.2.1,.slice ao (O.2.2).length c4]) hW hW.2 aT ⟨_,_,rfl,rfl,⟨_,_,rfl,rfl,⟨_,_,rfl,di⟩⟩⟩;refine JB.store (v:= .agg #[iV O.1,iV O.2.1,.slice ao (O.2.2).length c4]) (off:=Int.toNat (p1)*3) 13 0 (by decide+kernel) (by decide+kernel) rfl rfl rfl bJ rfl rfl (Ag type133) (by simp [Value.cells,BJ]) rfl b5.2 fun dn=>?_;refine JB.V 14 true rfl rfl (fun ρ h s' hs=>Yl.Be hW.2 bj underlying130 (Ag type133) (h _ _ rfl) (h _ _ rfl)) ?_;have Z:=WL.put (x':=U) (ws':= [iV U.1,iV U.2.1,.slice ap (U.2.2).length aq]) b5.1 hW.2 bj ⟨_,_,rfl,rfl,⟨_,_,rfl,rfl,⟨_,_,rfl,dl⟩⟩⟩;refine JB.store (v:= .agg #[iV U.1,iV U.2.1,.slice ap (U.2.2).length aq]) (off:=Int.toNat (p3)*3) 15 0 (by decide+kernel) (by decide+kernel) rfl rfl rfl dn rfl rfl (Ag type133) (by simp [Value.cells,BJ]) rfl Z.2 fun dp=>?_;refine JB.fin (by decide+kernel) ?_;obtain⟨dq,dr,dt⟩:=bs dk;refine zg 3 rfl ?_;refine JL.Y rfl (fun ρ h=>Yl.A6 (h _ _ rfl) (h _ _ rfl) dr) ?_;obtain⟨aC,du,dv⟩:=bs dt;refine zg 1 rfl ?_;refine JL.Y rfl (fun ρ h=>Yl.Ba (h _ _ rfl) (h _ _ rfl) du) ?_;obtain⟨az,dw,dx⟩:=bs dv;refine zg 4 rfl ?_;refine JL.join (fun L s=>∃(aU:LH),Jm E H aU [[(K,.cells (A0 (A0 av (Int.toNat (p1)*3) [iV O.1,iV O.2.1,.slice ao (O.2.2).length c4]) (Int.toNat (p3)*3) [iV U.1,iV U.2.1,.slice ap (U.2.2).length aq]) 133 (0,0))]] [(0,.slice (some ⟨K,0,none⟩) ab aa),(1,iV p1),(4,(.func (.func 134) #[] #[])),(12,iV az),(13,iV aC)] L s) ?_ ?_
 ·rintro _ _ ⟨aU,rfl,rfl,ar,dy⟩;obtain⟨aD,dz,b6⟩:=bs dx;refine JL.seq ?_;refine JL.join (fun L s=>∃(aV:LH),Jm aU H aV [[(K,.cells (A0 (A0 av (Int.toNat (p1)*3) [iV O.1,iV O.2.1,.slice ao (O.2.2).length c4]) (Int.toNat (p3)*3) [iV U.1,iV U.2.1,.slice ap (U.2.2).length aq]) 133 (0,0))]] [(0,.slice (some ⟨K,0,none⟩) ab aa),(1,iV p1),(4,(.func (.func 134) #[] #[])),(12,iV az),(13,iV aD)] L s) ?_ ?_
  ·rintro _ _ ⟨aV,rfl,rfl,aB,aE⟩;refine zg 7 rfl ?_;refine JL.ifs (p:=aD<az) rfl (fun bK=>?_) (fun bK=>?_)
   ·have dA:=ip b6 bK;refine JL.seq ?_;refine JB.draw [13,15] [K] mixed rfl ?_;refine JB.mv 0 rfl rfl ?_;refine JB.mv 1 rfl rfl ?_;refine JB.mv 2 rfl rfl ?_;refine JB.mv 3 rfl rfl ?_;refine JB.mv 4 rfl rfl ?_;refine JB.mv 5 rfl rfl ?_;refine JB.V 6 true rfl rfl (fun ρ h s' hs=>Yl.Be hW.2 aT underlying130 (Ag type133) (h _ _ rfl) (h _ _ rfl)) ?_;obtain⟨ai,bL,dB⟩:=bs dA;obtain⟨_,⟨_,_,rfl,rfl,⟨_,_,rfl,rfl,⟨aW,aX,rfl,dC⟩⟩⟩,dD⟩:=WL.at (Z.1.mono (ar.trans aB)) bL;refine JB.val (v:= .agg #[iV ai.1,iV ai.2.1,.slice aW (ai.2.2).length aX]) 7 false rfl (by decide+kernel) rfl rfl rfl (fun ρ h s' hs=>have hs:=hs rfl;Yl.Bp (vs:= [iV ai.1,iV ai.2.1,.slice aW (ai.2.2).length aX]) (An underlying133) (Ag type133) (h _ _ rfl) (fun q w W=>by rw [Bd rfl];exact Bh 0 aE rfl (by simp [AA]) hs (dD q w W))) ?_;refine JB.mv 8 rfl rfl ?_;refine JB.mv 9 rfl rfl ?_;obtain⟨aj,bk,dE⟩:=bs dB;obtain⟨_,⟨_,_,rfl,rfl,⟨_,_,rfl,rfl,⟨aY,aZ,rfl,dF⟩⟩⟩,dG⟩:=WL.at (Z.1.mono (ar.trans aB)) bk;refine JB.V 10 true rfl rfl (fun ρ h s' hs=>Yl.Be (Z.1).2 bk underlying130 (Ag type133) (h _ _ rfl) (h _ _ rfl)) ?_;refine JB.val (v:= .agg #[iV aj.1,iV aj.2.1,.slice aY (aj.2.2).length aZ]) 11 false rfl (by decide+kernel) rfl rfl rfl (fun ρ h s' hs=>have hs:=hs rfl;Yl.Bp (vs:= [iV aj.1,iV aj.2.1,.slice aY (aj.2.2).length aZ]) (An underlying133) (Ag type133) (h _ _ rfl) (fun q w W=>by rw [Bd rfl];exact Bh 0 aE rfl (by simp [AA]) hs (dG q w W))) ?_;refine JB.V 12 true rfl rfl (fun ρ h s' hs=>Yl.Be (Z.1).2 bk underlying130 (Ag type133) (h _ _ rfl) (h _ _ rfl)) ?_;have b7:=WL.put (x':=ai) (ws':= [iV ai.1,iV ai.2.1,.slice aW (ai.2.2).length aX]) (Z.1.mono (ar.trans aB)) (Z.1).2 bk ⟨_,_,rfl,rfl,⟨_,_,rfl,rfl,⟨_,_,rfl,dC⟩⟩⟩;refine JB.store (v:= .agg #[iV ai.1,iV ai.2.1,.slice aW (ai.2.2).length aX]) (off:=Int.toNat (aD)*3) 13 0 (by decide+kernel) (by decide+kernel) rfl rfl rfl aE rfl rfl (Ag type133) (by simp [Value.cells,BJ]) rfl b7.2 fun dH=>?_;refine JB.V 14 true rfl rfl (fun ρ h s' hs=>Yl.Be (Z.1).2 bL underlying130 (Ag type133) (h _ _ rfl) (h _ _ rfl)) ?_;have b8:=WL.put (x':=aj) (ws':= [iV aj.1,iV aj.2.1,.slice aY (aj.2.2).length aZ]) b7.1 (Z.1).2 bL ⟨_,_,rfl,rfl,⟨_,_,rfl,rfl,⟨_,_,rfl,dF⟩⟩⟩;refine JB.store (v:= .agg #[iV aj.1,iV aj.2.1,.slice aY (aj.2.2).length aZ]) (off:=Int.toNat (p1)*3) 15 0 (by decide+kernel) (by decide+kernel) rfl rfl rfl dH rfl rfl (Ag type133) (by simp [Value.cells,BJ]) rfl b8.2 fun dI=>?_;refine JB.fin (by decide+kernel) ?_;refine zg 6 rfl ?_;obtain rfl:=oi dE;refine JL.rt func185 rfl rfl ?_;exact b4 _ _ _ _ (ar.trans aB) rfl ⟨(A0 (A0 (A0 (A0 av (Int.toNat (p1)*3) [iV O.1,iV O.2.1,.slice ao (O.2.2).length c4]) (Int.toNat (p3)*3) [iV U.1,iV U.2.1,.slice ap (U.2.2).length aq]) (Int.toNat (aD)*3) [iV ai.1,iV ai.2.1,.slice aW (ai.2.2).length aX]) (Int.toNat (p1)*3) [iV aj.1,iV aj.2.1,.slice aY (aj.2.2).length aZ]),rfl,(by first | rfl | simp | (simp [Value.cells])),b8.1⟩ dI
   ·have dJ:=im b6 bK;refine zg 2 rfl ?_;refine JB.draw [13,15] [K] mixed rfl ?_;refine JB.mv 0 rfl rfl ?_;refine JB.mv 1 rfl rfl ?_;refine JB.mv 2 rfl rfl ?_;refine JB.mv 3 rfl rfl ?_;refine JB.mv 4 rfl rfl ?_;refine JB.mv 5 rfl rfl ?_;obtain⟨ak,bl,dK⟩:=bs dJ;obtain⟨_,⟨_,_,rfl,rfl,⟨_,_,rfl,rfl,⟨a0,a1,rfl,dL⟩⟩⟩,dM⟩:=WL.at (Z.1.mono (ar.trans aB)) bl;refine JB.V 6 true rfl rfl (fun ρ h s' hs=>Yl.Be (Z.1).2 bl underlying130 (Ag type133) (h _ _ rfl) (h _ _ rfl)) ?_;refine JB.val (v:= .agg #[iV ak.1,iV ak.2.1,.slice a0 (ak.2.2).length a1]) 7 false rfl (by decide+kernel) rfl rfl rfl (fun ρ h s' hs=>have hs:=hs rfl;Yl.Bp (vs:= [iV ak.1,iV ak.2.1,.slice a0 (ak.2.2).length a1]) (An underlying133) (Ag type133) (h _ _ rfl) (fun q w W=>by rw [Bd rfl];exact Bh 0 aE rfl (by simp [AA]) hs (dM q w W))) ?_;refine JB.mv 8 rfl rfl ?_;refine JB.mv 9 rfl rfl ?_;obtain⟨al,bm,dN⟩:=bs dK;obtain⟨_,⟨_,_,rfl,rfl,⟨_,_,rfl,rfl,⟨a2,a3,rfl,dO⟩⟩⟩,dP⟩:=WL.at (Z.1.mono (ar.trans aB)) bm;refine JB.V 10 true rfl rfl (fun ρ h s' hs=>Yl.Be (Z.1).2 bm underlying130 (Ag type133) (h _ _ rfl) (h _ _ rfl)) ?_;refine JB.val (v:= .agg #[iV al.1,iV al.2.1,.slice a2 (al.2.2).length a3]) 11 false rfl (by decide+kernel) rfl rfl rfl (fun ρ h s' hs=>have hs:=hs rfl;Yl.Bp (vs:= [iV al.1,iV al.2.1,.slice a2 (al.2.2).length a3]) (An underlying133) (Ag type133) (h _ _ rfl) (fun q w W=>by rw [Bd rfl];exact Bh 0 aE rfl (by simp [AA]) hs (dP q w W))) ?_;refine JB.V 12 true rfl rfl (fun ρ h s' hs=>Yl.Be (Z.1).2 bm underlying130 (Ag type133) (h _ _ rfl) (h _ _ rfl)) ?_;have b9:=WL.put (x':=ak) (ws':= [iV ak.1,iV ak.2.1,.slice a0 (ak.2.2).length a1]) (Z.1.mono (ar.trans aB)) (Z.1).2 bm ⟨_,_,rfl,rfl,⟨_,_,rfl,rfl,⟨_,_,rfl,dL⟩⟩⟩;refine JB.store (v:= .agg #[iV ak.1,iV ak.2.1,.slice a0 (ak.2.2).length a1]) (off:=Int.toNat (az)*3) 13 0 (by decide+kernel) (by decide+kernel) rfl rfl rfl aE rfl rfl (Ag type133) (by simp [Value.cells,BJ]) rfl b9.2 fun dQ=>?_;refine JB.V 14 true rfl rfl (fun ρ h s' hs=>Yl.Be (Z.1).2 bl underlying130 (Ag type133) (h _ _ rfl) (h _ _ rfl)) ?_;have ca:=WL.put (x':=al) (ws':= [iV al.1,iV al.2.1,.slice a2 (al.2.2).length a3]) b9.1 (Z.1).2 bl ⟨_,_,rfl,rfl,⟨_,_,rfl,rfl,⟨_,_,rfl,dO⟩⟩⟩;refine JB.store (v:= .agg #[iV al.1,iV al.2.1,.slice a2 (al.2.2).length a3]) (off:=Int.toNat (aD)*3) 15 0 (by decide+kernel) (by decide+kernel) rfl rfl rfl dQ rfl rfl (Ag type133) (by simp [Value.cells,BJ]) rfl ca.2 fun dR=>?_;refine JB.fin (by decide+kernel) ?_;obtain⟨dS,dT,dU⟩:=bs dN;refine zg 3 rfl ?_;refine JL.Y rfl (fun ρ h=>Yl.A6 (h _ _ rfl) (h _ _ rfl) dT) ?_;obtain⟨dV,dW,dX⟩:=bs dU;refine zg 5 rfl ?_;refine JL.Y rfl (fun ρ h=>Yl.Ba (h _ _ rfl) (h _ _ rfl) dW) ?_;obtain⟨bn,dY,dZ⟩:=bs dX;refine zg 3 rfl ?_;refine JL.join (fun L s=>∃(bM:LH) (f102:Array Value),Jn aV H bM [[(K,.cells f102 133 (0,0))]] [(0,.slice (some ⟨K,0,none⟩) ab aa),(1,iV p1),(13,iV bn.1)] L s (WL 133 BL bM K aa ab f102 (bn.2))) ?_ ?_
    ·rintro _ _ ⟨bM,f102,rfl,rfl,ea,bN,aA⟩;refine JL.seq ?_;refine JB.draw [13,15] [K] mixed rfl ?_;refine JB.mv 0 rfl rfl ?_;refine JB.mv 1 rfl rfl ?_;refine JB.mv 2 rfl rfl ?_;refine JB.mv 3 rfl rfl ?_;refine JB.mv 4 rfl rfl ?_;refine JB.mv 5 rfl rfl ?_;obtain⟨am,bo,eb⟩:=bs dZ;obtain⟨_,⟨_,_,rfl,rfl,⟨_,_,rfl,rfl,⟨a4,a5,rfl,ec⟩⟩⟩,ed⟩:=WL.at aA bo;refine JB.V 6 true rfl rfl (fun ρ h s' hs=>Yl.Be aA.2 bo underlying130 (Ag type133) (h _ _ rfl) (h _ _ rfl)) ?_;refine JB.val (v:= .agg #[iV am.1,iV am.2.1,.slice a4 (am.2.2).length a5]) 7 false rfl (by decide+kernel) rfl rfl rfl (fun ρ h s' hs=>have hs:=hs rfl;Yl.Bp (vs:= [iV am.1,iV am.2.1,.slice a4 (am.2.2).length a5]) (An underlying133) (Ag type133) (h _ _ rfl) (fun q w W=>by rw [Bd rfl];exact Bh 0 bN rfl (by simp [AA]) hs (ed q w W))) ?_;refine JB.mv 8 rfl rfl ?_;refine JB.mv 9 rfl rfl ?_;obtain⟨an,bp,ee⟩:=bs eb;obtain⟨_,⟨_,_,rfl,rfl,⟨_,_,rfl,rfl,⟨a6,a7,rfl,ef⟩⟩⟩,eg⟩:=WL.at aA bp;refine JB.V 10 true rfl rfl (fun ρ h s' hs=>Yl.Be aA.2 bp underlying130 (Ag type133) (h _ _ rfl) (h _ _ rfl)) ?_;refine JB.val (v:= .agg #[iV an.1,iV an.2.1,.slice a6 (an.2.2).length a7]) 11 false rfl (by decide+kernel) rfl rfl rfl (fun ρ h s' hs=>have hs:=hs rfl;Yl.Bp (vs:= [iV an.1,iV an.2.1,.slice a6 (an.2.2).length a7]) (An underlying133) (Ag type133) (h _ _ rfl) (fun q w W=>by rw [Bd rfl];exact Bh 0 bN rfl (by simp [AA]) hs (eg q w W))) ?_;refine JB.V 12 true rfl rfl (fun ρ h s' hs=>Yl.Be aA.2 bp underlying130 (Ag type133) (h _ _ rfl) (h _ _ rfl)) ?_;have cb:=WL.put (x':=am) (ws':= [iV am.1,iV am.2.1,.slice a4 (am.2.2).length a5]) aA aA.2 bp ⟨_,_,rfl,rfl,⟨_,_,rfl,rfl,⟨_,_,rfl,ec⟩⟩⟩;refine JB.store (v:= .agg #[iV am.1,iV am.2.1,.slice a4 (am.2.2).length a5]) (off:=Int.toNat (bn.1)*3) 13 0 (by decide+kernel) (by decide+kernel) rfl rfl rfl bN rfl rfl (Ag type133) (by simp [Value.cells,BJ]) rfl cb.2 fun eh=>?_;refine JB.V 14 true rfl rfl (fun ρ h s' hs=>Yl.Be aA.2 bo underlying130 (Ag type133) (h _ _ rfl) (h _ _ rfl)) ?_;have cc:=WL.put (x':=an) (ws':= [iV an.1,iV an.2.1,.slice a6 (an.2.2).length a7]) cb.1 aA.2 bo ⟨_,_,rfl,rfl,⟨_,_,rfl,rfl,⟨_,_,rfl,ef⟩⟩⟩;refine JB.store (v:= .agg #[iV an.1,iV an.2.1,.slice a6 (an.2.2).length a7]) (off:=Int.toNat (p1)*3) 15 0 (by decide+kernel) (by decide+kernel) rfl rfl rfl eh rfl rfl (Ag type133) (by simp [Value.cells,BJ]) rfl cc.2 fun ei=>?_;refine JB.fin (by decide+kernel) ?_;refine zg 6 rfl ?_;obtain rfl:=oi ee;refine JL.rt func185 rfl rfl ?_;exact b4 _ _ _ _ ((ar.trans aB).trans ea) rfl ⟨(A0 (A0 f102 (Int.toNat (bn.1)*3) [iV am.1,iV am.2.1,.slice a4 (am.2.2).length a5]) (Int.toNat (p1)*3) [iV an.1,iV an.2.1,.slice a6 (an.2.2).length a7]),rfl,(by first | rfl | simp | (simp [Value.cells])),cc.1⟩ ei
    ·intro ej;refine JL.block ?_;refine JL.wk [(0,.slice (some ⟨K,0,none⟩) ab aa),(1,iV p1),(4,(.func (.func 134) #[] #[])),(12,iV dS),(13,iV dV)] rfl ?_;refine JL.Bq dY (fun L s au=>∃(aF:LH) (f127:Array Value),Jn aV H aF [[(K,.cells f127 133 (0,0))]] [(0,.slice (some ⟨K,0,none⟩) ab aa),(1,iV p1),(4,(.func (.func 134) #[] #[])),(12,iV au.1),(13,iV au.2.1)] L s (WL 133 BL aF K aa ab f127 (au.2.2))) ⟨aV,(A0 (A0 (A0 (A0 av (Int.toNat (p1)*3) [iV O.1,iV O.2.1,.slice ao (O.2.2).length c4]) (Int.toNat (p3)*3) [iV U.1,iV U.2.1,.slice ap (U.2.2).length aq]) (Int.toNat (az)*3) [iV ak.1,iV ak.2.1,.slice a0 (ak.2.2).length a1]) (Int.toNat (aD)*3) [iV al.1,iV al.2.1,.slice a2 (al.2.2).length a3]),rfl,rfl,(Le.refl _),dR,ca.1⟩ ?_;rintro _ _ au ⟨aF,f127,rfl,rfl,cd,ek,ae⟩ el ⟨gq,bO⟩ em;have ce:=bO;unfold Gj at ce;obtain⟨aw,eo,ep⟩:=bs ce;refine zg 2 rfl ?_;refine JL.join (fun L s=>∃(a8:LH),Jm aF H a8 [[(K,.cells f127 133 (0,0))]] [(0,.slice (some ⟨K,0,none⟩) ab aa),(1,iV p1),(4,(.func (.func 134) #[] #[])),(12,iV aw),(13,iV au.2.1)] L s) ?_ ?_
     ·rintro _ _ ⟨a8,rfl,rfl,ay,eq⟩;obtain⟨a9,er,cf⟩:=bs ep;refine JL.seq ?_;refine JL.join (fun L s=>∃(bq:LH),Jm a8 H bq [[(K,.cells f127 133 (0,0))]] [(0,.slice (some ⟨K,0,none⟩) ab aa),(1,iV p1),(4,(.func (.func 134) #[] #[])),(12,iV aw),(13,iV a9)] L s) ?_ ?_
      ·rintro _ _ ⟨bq,rfl,rfl,aG,br⟩;refine zg 7 rfl ?_;refine JL.ifs (p:=a9<aw) rfl (fun bP=>?_) (fun bP=>?_)
       ·have et:=ip cf bP;refine JL.exit rfl ?_;obtain rfl:=oi et;obtain rfl:=el _ bO;exact JL.kw (ej _ _ ⟨bq,f127,rfl,rfl,((cd.trans ay).trans aG),br,(ae.mono (ay.trans aG))⟩) rfl
       ·have eu:=im cf bP;refine zg 2 rfl ?_;refine JB.draw [13,15] [K] mixed rfl ?_;refine JB.mv 0 rfl rfl ?_;refine JB.mv 1 rfl rfl ?_;refine JB.mv 2 rfl rfl ?_;refine JB.mv 3 rfl rfl ?_;refine JB.mv 4 rfl rfl ?_;refine JB.mv 5 rfl rfl ?_;obtain⟨ag,bu,ew⟩:=bs eu;obtain⟨_,⟨_,_,rfl,rfl,⟨_,_,rfl,rfl,⟨ba,bb,rfl,ex⟩⟩⟩,ey⟩:=WL.at (ae.mono (ay.trans aG)) bu;refine JB.V 6 true rfl rfl (fun ρ h s' hs=>Yl.Be ae.2 bu underlying130 (Ag type133) (h _ _ rfl) (h _ _ rfl)) ?_;refine JB.val (v:= .agg #[iV ag.1,iV ag.2.1,.slice ba (ag.2.2).length bb]) 7 false rfl (by decide+kernel) rfl rfl rfl (fun ρ h s' hs=>have hs:=hs rfl;Yl.Bp (vs:= [iV ag.1,iV ag.2.1,.slice ba (ag.2.2).length bb]) (An underlying133) (Ag type133) (h _ _ rfl) (fun q w W=>by rw [Bd rfl];exact Bh 0 br rfl (by simp [AA]) hs (ey q w W))) ?_;refine JB.mv 8 rfl rfl ?_;refine JB.mv 9 rfl rfl ?_;obtain⟨ah,bv,ez⟩:=bs ew;obtain⟨_,⟨_,_,rfl,rfl,⟨_,_,rfl,rfl,⟨bc,bd,rfl,eA⟩⟩⟩,eB⟩:=WL.at (ae.mono (ay.trans aG)) bv;refine JB.V 10 true rfl rfl (fun ρ h s' hs=>Yl.Be ae.2 bv underlying130 (Ag type133) (h _ _ rfl) (h _ _ rfl)) ?_;refine JB.val (v:= .agg #[iV ah.1,iV ah.2.1,.slice bc (ah.2.2).length bd]) 11 false rfl (by decide+kernel) rfl rfl rfl (fun ρ h s' hs=>have hs:=hs rfl;Yl.Bp (vs:= [iV ah.1,iV ah.2.1,.slice bc (ah.2.2).length bd]) (An underlying133) (Ag type133) (h _ _ rfl) (fun q w W=>by rw [Bd rfl];exact Bh 0 br rfl (by simp [AA]) hs (eB q w W))) ?_;refine JB.V 12 true rfl rfl (fun ρ h s' hs=>Yl.Be ae.2 bv underlying130 (Ag type133) (h _ _ rfl) (h _ _ rfl)) ?_;have cg:=WL.put (x':=ag) (ws':= [iV ag.1,iV ag.2.1,.slice ba (ag.2.2).length bb]) (ae.mono (ay.trans aG)) ae.2 bv ⟨_,_,rfl,rfl,⟨_,_,rfl,rfl,⟨_,_,rfl,ex⟩⟩⟩;refine JB.store (v:= .agg #[iV ag.1,iV ag.2.1,.slice ba (ag.2.2).length bb]) (off:=Int.toNat (aw)*3) 13 0 (by decide+kernel) (by decide+kernel) rfl rfl rfl br rfl rfl (Ag type133) (by simp [Value.cells,BJ]) rfl cg.2 fun eC=>?_;refine JB.V 14 true rfl rfl (fun ρ h s' hs=>Yl.Be ae.2 bu underlying130 (Ag type133) (h _ _ rfl) (h _ _ rfl)) ?_;have ci:=WL.put (x':=ah) (ws':= [iV ah.1,iV ah.2.1,.slice bc (ah.2.2).length bd]) cg.1 ae.2 bu ⟨_,_,rfl,rfl,⟨_,_,rfl,rfl,⟨_,_,rfl,eA⟩⟩⟩;refine JB.store (v:= .agg #[iV ah.1,iV ah.2.1,.slice bc (ah.2.2).length bd]) (off:=Int.toNat (a9)*3) 15 0 (by decide+kernel) (by decide+kernel) rfl rfl rfl eC rfl rfl (Ag type133) (by simp [Value.cells,BJ]) rfl ci.2 fun eD=>?_;refine JB.fin (by decide+kernel) ?_;obtain⟨eE,eF,eG⟩:=bs ez;refine zg 3 rfl ?_;refine JL.Y rfl (fun ρ h=>Yl.A6 (h _ _ rfl) (h _ _ rfl) eF) ?_;obtain⟨eH,eI,eJ⟩:=bs eG;refine zg 4 rfl ?_;refine JL.Y rfl (fun ρ h=>Yl.Ba (h _ _ rfl) (h _ _ rfl) eI) ?_;refine zg 3 rfl ?_;obtain rfl:=oi eJ;exact JL.kw (em _ _ (eE,eH,((au.2.2.set (Int.toNat aw) ag).set (Int.toNat a9) ah)) ⟨bq,(A0 (A0 f127 (Int.toNat (aw)*3) [iV ag.1,iV ag.2.1,.slice ba (ag.2.2).length bb]) (Int.toNat (a9)*3) [iV ah.1,iV ah.2.1,.slice bc (ah.2.2).length bd]),rfl,rfl,((cd.trans ay).trans aG),eD,ci.1⟩ bO) rfl
      ·intro eK;refine JL.block ?_;refine JL.wk [(0,.slice (some ⟨K,0,none⟩) ab aa),(1,iV p1),(4,(.func (.func 134) #[] #[])),(12,iV aw),(13,iV au.2.1)] rfl ?_;refine JL.Bq er (fun L s bw=>∃(bx:LH),Jm a8 H bx [[(K,.cells f127 133 (0,0))]] [(0,.slice (some ⟨K,0,none⟩) ab aa),(1,iV p1),(4,(.func (.func 134) #[] #[])),(12,iV aw),(13,iV bw)] L s) ⟨a8,rfl,rfl,(Le.refl _),eq⟩ ?_;rintro _ _ bw ⟨bx,rfl,rfl,aH,bf⟩ eL ⟨gr,bQ⟩ eM;have ck:=bQ;unfold GQ at ck;refine zg 2 rfl ?_;refine JG.Cn 17 [K] ⟨⟨0,_,rfl⟩,trivial⟩ bf mixed rfl (by decide+kernel) fun ht=>?_;refine JG.ms ht rfl [0,1,2,3] rfl ?_;obtain⟨cm,cn,co⟩:=bs ck;refine Au.join 0 #[true,true,true,true,true,true,true,true,true,true,true,true,true,true,true,true,true] (fun L s=>∃(bz:LH),Jm bx H bz [[(K,.cells f127 133 (0,0))]] [(0,.slice (some ⟨K,0,none⟩) ab aa),(1,iV p1),(4,(.func (.func 134) #[] #[])),(12,iV aw),(13,iV bw),(139,.bool cm)] L s) ?_ ?_
       ·rintro _ _ ⟨bz,rfl,rfl,cp,cq⟩;refine Au.fin (by decide+kernel) ?_;refine JL.split (t:=cm) rfl (fun bR=>?_) (fun bR=>?_)
        ·have eN:=ip co bR;obtain⟨eO,eP,eQ⟩:=bs eN;refine zg 4 rfl ?_;refine JL.Y rfl (fun ρ h=>Yl.Ba (h _ _ rfl) (h _ _ rfl) eP) ?_;refine zg 3 rfl ?_;obtain rfl:=oi eQ;exact JL.kw (eM _ _ eO ⟨bz,rfl,rfl,(aH.trans cp),cq⟩ bQ) rfl
        ·have eR:=ib co bR;refine JL.exit rfl ?_;obtain rfl:=oi eR;obtain rfl:=eL _ bQ;exact JL.kw (eK _ _ ⟨bz,rfl,rfl,(aH.trans cp),cq⟩) rfl
       ·intro cr;refine Au.Cm (q:=aw≤bw) (i:=126) rfl (fun bS=>?_) (fun bS=>?_)
        ·have eS:=ip cn bS;refine JG.ms ht rfl [4,5,6] rfl ?_;obtain⟨aI,ct,eT⟩:=bs eS;obtain⟨_,⟨_,_,rfl,rfl,⟨_,_,rfl,rfl,⟨cu,cv,rfl,eU⟩⟩⟩,eV⟩:=WL.at (ae.mono (ay.trans aH)) ct;refine JG.V 7 ht rfl rfl (fun ρ h s' hs=>Yl.Be ((ae.mono (ay.trans aH))).2 ct underlying130 (Ag type133) (h _ _ rfl) (h _ _ rfl)) ?_;refine JG.V 8 ht rfl rfl (fun ρ h s' hs=>Yl.Bp (vs:= [iV aI.1,iV aI.2.1,.slice cu (aI.2.2).length cv]) (An underlying133) (Ag type133) (h _ _ rfl) (fun q w W=>by rw [Bd rfl];exact Bh 0 bf rfl (by simp [AA]) hs (eV q w W))) ?_;refine JG.ms ht rfl [9,10] rfl ?_;obtain⟨aJ,cw,eW⟩:=bs eT;obtain⟨_,⟨_,_,rfl,rfl,⟨_,_,rfl,rfl,⟨cy,cz,rfl,eX⟩⟩⟩,eY⟩:=WL.at (ae.mono (ay.trans aH)) cw;refine JG.V 11 ht rfl rfl (fun ρ h s' hs=>Yl.Be ((ae.mono (ay.trans aH))).2 cw underlying130 (Ag type133) (h _ _ rfl) (h _ _ rfl)) ?_;refine JG.V 12 ht rfl rfl (fun ρ h s' hs=>Yl.Bp (vs:= [iV aJ.1,iV aJ.2.1,.slice cy (aJ.2.2).length cz]) (An underlying133) (Ag type133) (h _ _ rfl) (fun q w W=>by rw [Bd rfl];exact Bh 0 bf rfl (by simp [AA]) hs (eY q w W))) ?_;obtain⟨eZ,e0,e1⟩:=bs eW;refine JG.FC (i:=13) ⟨⟨0,_,rfl⟩,trivial⟩ (vs:= [.agg #[iV aI.1,iV aI.2.1,.slice cu (aI.2.2).length cv],.agg #[iV aJ.1,iV aJ.2.1,.slice cy (aJ.2.2).length cz]]) (EH eU eX e0) (by decide+kernel) rfl rfl rfl rfl (Aw func134 rfl) rfl bf ?_;rintro _ e2 _ e3 ⟨rfl,rfl⟩ e4;refine JG.mv 14 ht rfl rfl ?_;refine JG.V (v:= .bool (decide (¬(eZ<0)))) 15 ht rfl rfl (fun ρ h s' hs=>Yl.Gw (h _ _ rfl)) ?_;refine JG.mv 16 ht rfl rfl ?_;obtain rfl:=oi e1;refine Au.Cc ?_ (cr _ _ ⟨e2,rfl,rfl,e3,e4⟩);exact⟨rfl,rfl,rfl,rfl,rfl,rfl,trivial⟩
        ·have e5:=im cn bS;refine JG.ms ht rfl [4,5,6,7,8,9,10,11,12,13,14,15,16] rfl ?_;obtain rfl:=oi e5;refine Au.Cc ?_ (cr _ _ ⟨bx,rfl,rfl,(Le.refl _),bf⟩);exact⟨rfl,rfl,rfl,rfl,rfl,rfl,trivial⟩
     ·intro e6;refine JL.block ?_;refine JL.wk [(0,.slice (some ⟨K,0,none⟩) ab aa),(1,iV p1),(4,(.func (.func 134) #[] #[])),(12,iV au.1),(13,iV au.2.1)] rfl ?_;refine JL.Bq eo (fun L s bA=>∃(bB:LH),Jm aF H bB [[(K,.cells f127 133 (0,0))]] [(0,.slice (some ⟨K,0,none⟩) ab aa),(1,iV p1),(4,(.func (.func 134) #[] #[])),(12,iV bA),(13,iV au.2.1)] L s) ⟨aF,rfl,rfl,(Le.refl _),ek⟩ ?_;rintro _ _ bA ⟨bB,rfl,rfl,aK,bg⟩ e7 ⟨gt,bT⟩ e8;have cA:=bT;unfold GW at cA;refine zg 2 rfl ?_;refine JG.Cn 16 [K] ⟨⟨0,_,rfl⟩,trivial⟩ bg mixed rfl (by decide+kernel) fun ht=>?_;refine JG.ms ht rfl [0,1,2,3] rfl ?_;obtain⟨cB,cC,cD⟩:=bs cA;refine Au.join 0 #[true,true,true,true,true,true,true,true,true,true,true,true,true,true,true,true] (fun L s=>∃(bC:LH),Jm bB H bC [[(K,.cells f127 133 (0,0))]] [(0,.slice (some ⟨K,0,none⟩) ab aa),(1,iV p1),(4,(.func (.func 134) #[] #[])),(12,iV bA),(13,iV au.2.1),(120,.bool cB)] L s) ?_ ?_
      ·rintro _ _ ⟨bC,rfl,rfl,cE,cF⟩;refine Au.fin (by decide+kernel) ?_;refine JL.split (t:=cB) rfl (fun bU=>?_) (fun bU=>?_)
       ·have e9:=ip cD bU;obtain⟨fa,fb,fc⟩:=bs e9;refine zg 4 rfl ?_;refine JL.Y rfl (fun ρ h=>Yl.A6 (h _ _ rfl) (h _ _ rfl) fb) ?_;refine zg 3 rfl ?_;obtain rfl:=oi fc;exact JL.kw (e8 _ _ fa ⟨bC,rfl,rfl,(aK.trans cE),cF⟩ bT) rfl
       ·have fe:=ib cD bU;refine JL.exit rfl ?_;obtain rfl:=oi fe;obtain rfl:=e7 _ bT;exact JL.kw (e6 _ _ ⟨bC,rfl,rfl,(aK.trans cE),cF⟩) rfl
      ·intro cG;refine Au.Cm (q:=bA≤au.2.1) (i:=108) rfl (fun bV=>?_) (fun bV=>?_)
       ·have ff:=ip cC bV;refine JG.ms ht rfl [4,5,6] rfl ?_;obtain⟨aL,cH,fg⟩:=bs ff;obtain⟨_,⟨_,_,rfl,rfl,⟨_,_,rfl,rfl,⟨cI,cJ,rfl,fh⟩⟩⟩,fj⟩:=WL.at (ae.mono aK) cH;refine JG.V 7 ht rfl rfl (fun ρ h s' hs=>Yl.Be ((ae.mono aK)).2 cH underlying130 (Ag type133) (h _ _ rfl) (h _ _ rfl)) ?_;refine JG.V 8 ht rfl rfl (fun ρ h s' hs=>Yl.Bp (vs:= [iV aL.1,iV aL.2.1,.slice cI (aL.2.2).length cJ]) (An underlying133) (Ag type133) (h _ _ rfl) (fun q w W=>by rw [Bd rfl];exact Bh 0 bg rfl (by simp [AA]) hs (fj q w W))) ?_;refine JG.ms ht rfl [9,10] rfl ?_;obtain⟨aM,cK,fk⟩:=bs fg;obtain⟨_,⟨_,_,rfl,rfl,⟨_,_,rfl,rfl,⟨cM,cN,rfl,fm⟩⟩⟩,fo⟩:=WL.at (ae.mono aK) cK;refine JG.V 11 ht rfl rfl (fun ρ h s' hs=>Yl.Be ((ae.mono aK)).2 cK underlying130 (Ag type133) (h _ _ rfl) (h _ _ rfl)) ?_;refine JG.V 12 ht rfl rfl (fun ρ h s' hs=>Yl.Bp (vs:= [iV aM.1,iV aM.2.1,.slice cM (aM.2.2).length cN]) (An underlying133) (Ag type133) (h _ _ rfl) (fun q w W=>by rw [Bd rfl];exact Bh 0 bg rfl (by simp [AA]) hs (fo q w W))) ?_;obtain⟨gu,fp,fq⟩:=bs fk;refine JG.FC (i:=13) ⟨⟨0,_,rfl⟩,trivial⟩ (vs:= [.agg #[iV aL.1,iV aL.2.1,.slice cI (aL.2.2).length cJ],.agg #[iV aM.1,iV aM.2.1,.slice cM (aM.2.2).length cN]]) (EH fh fm fp) (by decide+kernel) rfl rfl rfl rfl (Aw func134 rfl) rfl bg ?_;rintro _ fs _ fu ⟨rfl,rfl⟩ fv;refine JG.ms ht rfl [14,15] rfl ?_;obtain rfl:=oi fq;refine Au.Cc ?_ (cG _ _ ⟨fs,rfl,rfl,fu,fv⟩);exact⟨rfl,rfl,rfl,rfl,rfl,rfl,trivial⟩
       ·have fw:=im cC bV;refine JG.ms ht rfl [4,5,6,7,8,9,10,11,12,13,14,15] rfl ?_;obtain rfl:=oi fw;refine Au.Cc ?_ (cG _ _ ⟨bB,rfl,rfl,(Le.refl _),bg⟩);exact⟨rfl,rfl,rfl,rfl,rfl,rfl,trivial⟩
  ·intro fx;refine JL.block ?_;refine JL.wk [(0,.slice (some ⟨K,0,none⟩) ab aa),(1,iV p1),(4,(.func (.func 134) #[] #[])),(12,iV az),(13,iV aC)] rfl ?_;refine JL.Bq dz (fun L s bD=>∃(bE:LH),Jm aU H bE [[(K,.cells (A0 (A0 av (Int.toNat (p1)*3) [iV O.1,iV O.2.1,.slice ao (O.2.2).length c4]) (Int.toNat (p3)*3) [iV U.1,iV U.2.1,.slice ap (U.2.2).length aq]) 133 (0,0))]] [(0,.slice (some ⟨K,0,none⟩) ab aa),(1,iV p1),(4,(.func (.func 134) #[] #[])),(12,iV az),(13,iV bD)] L s) ⟨aU,rfl,rfl,(Le.refl _),dy⟩ ?_;rintro _ _ bD ⟨bE,rfl,rfl,aN,bh⟩ fy ⟨gv,bW⟩ fz;have cO:=bW;unfold Hw at cO;refine zg 2 rfl ?_;refine JG.Cn 17 [K] ⟨⟨0,_,rfl⟩,trivial⟩ bh mixed rfl (by decide+kernel) fun ht=>?_;refine JG.ms ht rfl [0,1,2,3] rfl ?_;obtain⟨cP,cQ,cR⟩:=bs cO;refine Au.join 0 #[true,true,true,true,true,true,true,true,true,true,true,true,true,true,true,true,true] (fun L s=>∃(bF:LH),Jm bE H bF [[(K,.cells (A0 (A0 av (Int.toNat (p1)*3) [iV O.1,iV O.2.1,.slice ao (O.2.2).length c4]) (Int.toNat (p3)*3) [iV U.1,iV U.2.1,.slice ap (U.2.2).length aq]) 133 (0,0))]] [(0,.slice (some ⟨K,0,none⟩) ab aa),(1,iV p1),(4,(.func (.func 134) #[] #[])),(12,iV az),(13,iV bD),(66,.bool cP)] L s) ?_ ?_
   ·rintro _ _ ⟨bF,rfl,rfl,cT,cV⟩;refine Au.fin (by decide+kernel) ?_;refine JL.split (t:=cP) rfl (fun bX=>?_) (fun bX=>?_)
    ·have fA:=ip cR bX;obtain⟨fB,fC,fD⟩:=bs fA;refine zg 4 rfl ?_;refine JL.Y rfl (fun ρ h=>Yl.Ba (h _ _ rfl) (h _ _ rfl) fC) ?_;refine zg 3 rfl ?_;obtain rfl:=oi fD;exact JL.kw (fz _ _ fB ⟨bF,rfl,rfl,(aN.trans cT),cV⟩ bW) rfl
    ·have fE:=ib cR bX;refine JL.exit rfl ?_;obtain rfl:=oi fE;obtain rfl:=fy _ bW;exact JL.kw (fx _ _ ⟨bF,rfl,rfl,(aN.trans cT),cV⟩) rfl
   ·intro cW;refine Au.Cm (q:=az≤bD) (i:=53) rfl (fun bY=>?_) (fun bY=>?_)
    ·have fF:=ip cQ bY;refine JG.ms ht rfl [4,5,6] rfl ?_;obtain⟨aO,cX,fG⟩:=bs fF;obtain⟨_,⟨_,_,rfl,rfl,⟨_,_,rfl,rfl,⟨cY,cZ,rfl,fH⟩⟩⟩,fI⟩:=WL.at (Z.1.mono (ar.trans aN)) cX;refine JG.V 7 ht rfl rfl (fun ρ h s' hs=>Yl.Be ((Z.1.mono (ar.trans aN))).2 cX underlying130 (Ag type133) (h _ _ rfl) (h _ _ rfl)) ?_;refine JG.V 8 ht rfl rfl (fun ρ h s' hs=>Yl.Bp (vs:= [iV aO.1,iV aO.2.1,.slice cY (aO.2.2).length cZ]) (An underlying133) (Ag type133) (h _ _ rfl) (fun q w W=>by rw [Bd rfl];exact Bh 0 bh rfl (by simp [AA]) hs (fI q w W))) ?_;refine JG.ms ht rfl [9,10] rfl ?_;obtain⟨aP,c0,fJ⟩:=bs fG;obtain⟨_,⟨_,_,rfl,rfl,⟨_,_,rfl,rfl,⟨c1,c2,rfl,fK⟩⟩⟩,fL⟩:=WL.at (Z.1.mono (ar.trans aN)) c0;refine JG.V 11 ht rfl rfl (fun ρ h s' hs=>Yl.Be ((Z.1.mono (ar.trans aN))).2 c0 underlying130 (Ag type133) (h _ _ rfl) (h _ _ rfl)) ?_;refine JG.V 12 ht rfl rfl (fun ρ h s' hs=>Yl.Bp (vs:= [iV aP.1,iV aP.2.1,.slice c1 (aP.2.2).length c2]) (An underlying133) (Ag type133) (h _ _ rfl) (fun q w W=>by rw [Bd rfl];exact Bh 0 bh rfl (by simp [AA]) hs (fL q w W))) ?_;obtain⟨fM,fN,fO⟩:=bs fJ;refine JG.FC (i:=13) ⟨⟨0,_,rfl⟩,trivial⟩ (vs:= [.agg #[iV aO.1,iV aO.2.1,.slice cY (aO.2.2).length cZ],.agg #[iV aP.1,iV aP.2.1,.slice c1 (aP.2.2).length c2]]) (EH fH fK fN) (by decide+kernel) rfl rfl rfl rfl (Aw func134 rfl) rfl bh ?_;rintro _ fP _ fQ ⟨rfl,rfl⟩ fR;refine JG.mv 14 ht rfl rfl ?_;refine JG.V (v:= .bool (decide (¬(fM<0)))) 15 ht rfl rfl (fun ρ h s' hs=>Yl.Gw (h _ _ rfl)) ?_;refine JG.mv 16 ht rfl rfl ?_;obtain rfl:=oi fO;refine Au.Cc ?_ (cW _ _ ⟨fP,rfl,rfl,fQ,fR⟩);exact⟨rfl,rfl,rfl,rfl,rfl,rfl,trivial⟩
    ·have fS:=im cQ bY;refine JG.ms ht rfl [4,5,6,7,8,9,10,11,12,13,14,15,16] rfl ?_;obtain rfl:=oi fS;refine Au.Cc ?_ (cW _ _ ⟨bE,rfl,rfl,(Le.refl _),bh⟩);exact⟨rfl,rfl,rfl,rfl,rfl,rfl,trivial⟩
 ·intro fT;refine JL.block ?_;refine JL.wk [(0,.slice (some ⟨K,0,none⟩) ab aa),(1,iV p1),(4,(.func (.func 134) #[] #[])),(12,iV dq),(13,iV aC)] rfl ?_;refine JL.Bq dw (fun L s bG=>∃(bH:LH),Jm E H bH [[(K,.cells (A0 (A0 av (Int.toNat (p1)*3) [iV O.1,iV O.2.1,.slice ao (O.2.2).length c4]) (Int.toNat (p3)*3) [iV U.1,iV U.2.1,.slice ap (U.2.2).length aq]) 133 (0,0))]] [(0,.slice (some ⟨K,0,none⟩) ab aa),(1,iV p1),(4,(.func (.func 134) #[] #[])),(12,iV bG),(13,iV aC)] L s) ⟨E,rfl,rfl,(Le.refl _),dp⟩ ?_;rintro _ _ bG ⟨bH,rfl,rfl,aQ,bi⟩ fU ⟨gw,bZ⟩ fV;have c3:=bZ;unfold Ht at c3;refine zg 2 rfl ?_;refine JG.Cn 16 [K] ⟨⟨0,_,rfl⟩,trivial⟩ bi mixed rfl (by decide+kernel) fun ht=>?_;refine JG.ms ht rfl [0,1,2,3] rfl ?_;obtain⟨c5,c6,c7⟩:=bs c3;refine Au.join 0 #[true,true,true,true,true,true,true,true,true,true,true,true,true,true,true,true] (fun L s=>∃(bI:LH),Jm bH H bI [[(K,.cells (A0 (A0 av (Int.toNat (p1)*3) [iV O.1,iV O.2.1,.slice ao (O.2.2).length c4]) (Int.toNat (p3)*3) [iV U.1,iV U.2.1,.slice ap (U.2.2).length aq]) 133 (0,0))]] [(0,.slice (some ⟨K,0,none⟩) ab aa),(1,iV p1),(4,(.func (.func 134) #[] #[])),(12,iV bG),(13,iV aC),(47,.bool c5)] L s) ?_ ?_
  ·rintro _ _ ⟨bI,rfl,rfl,c8,c9⟩;refine Au.fin (by decide+kernel) ?_;refine JL.split (t:=c5) rfl (fun b0=>?_) (fun b0=>?_)
   ·have fW:=ip c7 b0;obtain⟨fX,fY,fZ⟩:=bs fW;refine zg 4 rfl ?_;refine JL.Y rfl (fun ρ h=>Yl.A6 (h _ _ rfl) (h _ _ rfl) fY) ?_;refine zg 3 rfl ?_;obtain rfl:=oi fZ;exact JL.kw (fV _ _ fX ⟨bI,rfl,rfl,(aQ.trans c8),c9⟩ bZ) rfl
   ·have ga:=ib c7 b0;refine JL.exit rfl ?_;obtain rfl:=oi ga;obtain rfl:=fU _ bZ;exact JL.kw (fT _ _ ⟨bI,rfl,rfl,(aQ.trans c8),c9⟩) rfl
  ·intro da;refine Au.Cm (q:=bG≤aC) (i:=35) rfl (fun b1=>?_) (fun b1=>?_)
   ·have gb:=ip c6 b1;refine JG.ms ht rfl [4,5,6] rfl ?_;obtain⟨aR,db,gc⟩:=bs gb;obtain⟨_,⟨_,_,rfl,rfl,⟨_,_,rfl,rfl,⟨dc,dd,rfl,gd⟩⟩⟩,ge⟩:=WL.at (Z.1.mono aQ) db;refine JG.V 7 ht rfl rfl (fun ρ h s' hs=>Yl.Be ((Z.1.mono aQ)).2 db underlying130 (Ag type133) (h _ _ rfl) (h _ _ rfl)) ?_;refine JG.V 8 ht rfl rfl (fun ρ h s' hs=>Yl.Bp (vs:= [iV aR.1,iV aR.2.1,.slice dc (aR.2.2).length dd]) (An underlying133) (Ag type133) (h _ _ rfl) (fun q w W=>by rw [Bd rfl];exact Bh 0 bi rfl (by simp [AA]) hs (ge q w W))) ?_;refine JG.ms ht rfl [9,10] rfl ?_;obtain⟨aS,de,gf⟩:=bs gc;obtain⟨_,⟨_,_,rfl,rfl,⟨_,_,rfl,rfl,⟨df,dg,rfl,gg⟩⟩⟩,gh⟩:=WL.at (Z.1.mono aQ) de;refine JG.V 11 ht rfl rfl (fun ρ h s' hs=>Yl.Be ((Z.1.mono aQ)).2 de underlying130 (Ag type133) (h _ _ rfl) (h _ _ rfl)) ?_;refine JG.V 12 ht rfl rfl (fun ρ h s' hs=>Yl.Bp (vs:= [iV aS.1,iV aS.2.1,.slice df (aS.2.2).length dg]) (An underlying133) (Ag type133) (h _ _ rfl) (fun q w W=>by rw [Bd rfl];exact Bh 0 bi rfl (by simp [AA]) hs (gh q w W))) ?_;obtain⟨gx,gi,gj⟩:=bs gf;refine JG.FC (i:=13) ⟨⟨0,_,rfl⟩,trivial⟩ (vs:= [.agg #[iV aR.1,iV aR.2.1,.slice dc (aR.2.2).length dd],.agg #[iV aS.1,iV aS.2.1,.slice df (aS.2.2).length dg]]) (EH gd gg gi) (by decide+kernel) rfl rfl rfl rfl (Aw func134 rfl) rfl bi ?_;rintro _ gk _ gl ⟨rfl,rfl⟩ gm;refine JG.ms ht rfl [14,15] rfl ?_;obtain rfl:=oi gj;refine Au.Cc ?_ (da _ _ ⟨gk,rfl,rfl,gl,gm⟩);exact⟨rfl,rfl,rfl,rfl,rfl,rfl,trivial⟩
   ·have gn:=im c6 b1;refine JG.ms ht rfl [4,5,6,7,8,9,10,11,12,13,14,15] rfl ?_;obtain rfl:=oi gn;refine Au.Cc ?_ (da _ _ ⟨bH,rfl,rfl,(Le.refl _),bi⟩);exact⟨rfl,rfl,rfl,rfl,rfl,rfl,trivial⟩
end Pal
namespace Pal
open Go Go.Conc Go.Proofs
open Go.Proofs.Tryz
variable {J:Judge Tryz.prog}{E:LH}
def Iu(fuel:Nat)(p0:List (AZ))(p1:Int)(p2:Int)(p3:Int)(ar:Unit):Option (A8 (Unit) (((List (AZ)))⊕(Unit))):=
 (Ay (p2 - p1)).bind fun aa=>
 if aa≤12 then(
  (f178 fuel p0 p1 p2).bind fun ab=>
  some (.done (Sum.inl ab))
 ) else(
  if p3=0 then(
   none
  ) else(
   (f181 fuel p0 p1 p2).bind fun O=>
   Option.bind (
    if O.2=2 then(
     (f182 fuel p0 p1 p2).bind fun ae=>
     (Ay (p2 - 1)).bind fun ag=>
     (Ay (O.1 - p1)).bind fun ah=>
     (Ay (ag - ah)).bind fun ai=>
     some (ai,1,ae)
    ) else(
     some (O.1,O.2,p0)
    )
   ) fun K=>
   Option.bind (
    if K.2.1=1 then(
     (f183 fuel K.2.2 p1 p2).bind fun U=>
     if U.1=true then(
      some (Sum.inl U.2)
     ) else(
      some (Sum.inr U.2)
     )
    ) else(
     some (Sum.inr K.2.2)
    )
   ) fun aj=>Sum.elim (fun r=>some (.done (Sum.inl r))) (fun W=>
   Option.bind (
    if 0<p1 then(
     (Ay (p1 - 1)).bind fun ak=>
     (ix W (ak)).bind fun al=>
     (ix W (K.1)).bind fun am=>
     (f134 fuel al am).bind fun an=>
     some (decide (¬(an<0)))
    ) else(
     some false
    )
   ) fun ao=>
   if ao=true then(
    none
   ) else(
    (f185 fuel W p1 p2 K.1).bind fun Z=>
    (Ay (Z.1 - p1)).bind fun ap=>
    (Ay (p2 - Z.1)).bind fun aq=>
    (Fo (aa) (8)).bind fun au=>
    if ap<aq then(
     none
    ) else(
     (Ay (Z.1+1)).bind fun av=>
     none
    )
   )
   ) aj
  )
 )
def F4(fuel:Nat)(p0:List (AZ))(p1:Int)(p2:Int)(p3:Int):Option ((List (AZ))):=
 Option.bind (iter (Iu fuel p0 p1 p2 p3) fuel ()) fun K=>
 Sum.elim (fun r=>some r) (fun O=>
 none
 ) K
theorem MD{K:Nat}{O:Nat}{U:Nat}{aj:Array Value}{p0:List (AZ)}{p1:Int}{p2:Int}{p3:Int}(hW:WL 133 BL E K O U aj p0){fuel:Nat}{r:(List (AZ))}(aA:F4 fuel p0 p1 p2 p3=some r):As J 162 [.slice (some ⟨K,0,none⟩) U O,iV p1,iV p2,iV p3,(.func (.func 134) #[] #[])] E [(K,.cells aj 133 (0,0))] (fun w E' B'=>∃(aB:Array Value),w= .tuple #[]∧B'= [(K,.cells aB 133 (0,0))]∧WL 133 BL E' K O U aB (r)):=by
 refine As.en func162 rfl rfl fun Q cy cs H ba aC=>?_;unfold F4 at aA;obtain⟨cz,bb,aD⟩:=bs aA;refine zg 8 rfl ?_;refine JL.join (fun L s=>False) ?_ ?_
 ·intro _ _ bc;exact bc.elim
 ·intro cA;refine JL.block ?_;refine JL.wk [(0,.slice (some ⟨K,0,none⟩) U O),(1,iV p1),(2,iV p2),(3,iV p3),(4,(.func (.func 134) #[] #[])),(10,.bool true),(11,.bool true)] rfl ?_;refine JL.Bq bb (fun L s bd=>∃(aE:LH),Jm E H aE [[(K,.cells aj 133 (0,0))]] [(0,.slice (some ⟨K,0,none⟩) U O),(1,iV p1),(2,iV p2),(3,iV p3),(4,(.func (.func 134) #[] #[])),(10,.bool true),(11,.bool true)] L s) ⟨E,rfl,rfl,(Le.refl _),ba⟩ ?_;rintro _ _ bd ⟨aE,rfl,rfl,Z,aF⟩ aG ⟨cB,al⟩ cC;have aH:=al;unfold Iu at aH;obtain⟨ak,bf,aI⟩:=bs aH;refine zg 5 rfl ?_;refine JL.Y rfl (fun ρ h=>Yl.Ba (h _ _ rfl) (h _ _ rfl) bf) ?_;refine zg 8 rfl ?_;refine JL.ifs (p:=ak≤12) rfl (fun am=>?_) (fun am=>?_)
  ·have bg:=ip aI am;obtain⟨cD,bh,bi⟩:=bs bg;refine zg 6 rfl ?_;refine JS.Bu 0 (NB (hW.mono Z) bh) rfl rfl (Aw func178 rfl) aF rfl ?_;rintro _ cE _ bj ⟨f32,rfl,rfl,bk⟩ bl;refine JL.done ?_;obtain rfl:=oi bi;obtain rfl:=aG _ al;have bm:=elim_inl aD;obtain rfl:=oi bm;refine JL.rt func162 rfl rfl ?_;exact aC _ _ _ _ (Z.trans bj) rfl ⟨f32,rfl,(by first | rfl | simp | (simp [Value.cells])),bk⟩ bl
  ·have aJ:=im aI am;refine zg 7 rfl ?_;refine JL.ifs (p:=p3=0) rfl (fun an=>?_) (fun an=>?_)
   ·have bn:=ip aJ an;refine zg 6 rfl ?_;cases bn
   ·have bo:=im aJ an;refine zg 5 rfl ?_;refine JL.Y (v:= .bool false) rfl (fun ρ h=>Yl.not (c:=true) (h _ _ rfl)) ?_;obtain⟨bp,bq,br⟩:=bs bo;refine zg 9 rfl ?_;refine JS.Bu 0 (NC (hW.mono Z) bq) rfl rfl (Aw func181 rfl) aF rfl ?_;rintro _ aK _ ao ⟨rfl,rfl⟩ aL;obtain⟨W,aM,bu⟩:=bs br;refine zg 12 rfl ?_;refine JL.join (fun L s=>∃(ae:LH) (f56:Array Value),Jn aK H ae [[(K,.cells f56 133 (0,0))]] [(0,.slice (some ⟨K,0,none⟩) U O),(1,iV p1),(2,iV p2),(3,iV p3),(4,(.func (.func 134) #[] #[])),(10,.bool true),(11,.bool true),(12,iV ak),(13,iV W.1),(14,iV W.2.1)] L s (WL 133 BL ae K O U f56 (W.2.2))) ?_ ?_
    ·rintro _ _ ⟨ae,f56,rfl,rfl,bv,aN,aO⟩;obtain⟨bw,aP,aQ⟩:=bs bu;refine zg 12 rfl ?_;refine JL.join (fun L s=>∃(ap:(List (AZ))) (ag:LH) (f65:Array Value),bw=Sum.inr ap∧Jn ae H ag [[(K,.cells f65 133 (0,0))]] [(0,.slice (some ⟨K,0,none⟩) U O),(1,iV p1),(2,iV p2),(3,iV p3),(4,(.func (.func 134) #[] #[])),(10,.bool true),(11,.bool true),(12,iV ak),(13,iV W.1)] L s (WL 133 BL ag K O U f65 (ap))) ?_ ?_
     ·rintro _ _ ⟨ap,ag,f65,rfl,rfl,rfl,cF,ah,ai⟩;have bx:=elim_inr aQ;refine zg 2 rfl ?_;refine JG.Cn 17 [K] ⟨⟨0,_,rfl⟩,trivial⟩ ah mixed rfl (by decide+kernel) fun ht=>?_;refine JG.ms ht rfl [0,1,2] rfl ?_;obtain⟨aR,aS,aT⟩:=bs bx;refine Au.join 0 #[true,true,true,true,true,true,true,true,true,true,true,true,true,true,true,true,true] (fun L s=>∃(aU:LH),Jm ag H aU [[(K,.cells f65 133 (0,0))]] [(0,.slice (some ⟨K,0,none⟩) U O),(1,iV p1),(2,iV p2),(3,iV p3),(4,(.func (.func 134) #[] #[])),(10,.bool true),(11,.bool true),(12,iV ak),(13,iV W.1),(97,.bool aR)] L s) ?_ ?_
      ·rintro _ _ ⟨aU,rfl,rfl,bz,bA⟩;refine Au.fin (by decide+kernel) ?_;refine JL.split (t:=aR) rfl (fun aq=>?_) (fun aq=>?_)
       ·have bB:=ip aT aq;refine zg 7 rfl ?_;cases bB
       ·have bC:=ib aT aq;obtain⟨cG,bD,bE⟩:=bs bC;refine zg 8 rfl ?_;refine JS.Bu 0 (NG (ai.mono bz) bD) rfl rfl (Aw func185 rfl) bA rfl ?_;rintro _ cH _ cI ⟨f83,rfl,rfl,cJ⟩ cK;obtain⟨bF,bG,bH⟩:=bs bE;refine zg 15 rfl ?_;refine JL.Y rfl (fun ρ h=>Yl.Ba (h _ _ rfl) (h _ _ rfl) bG) ?_;obtain⟨bI,bJ,bK⟩:=bs bH;refine zg 2 rfl ?_;refine JL.Y rfl (fun ρ h=>Yl.Ba (h _ _ rfl) (h _ _ rfl) bJ) ?_;obtain⟨bL,bM,aV⟩:=bs bK;refine zg 6 rfl ?_;refine JL.Y (v:=iV bL) rfl (fun ρ h=>Yl.HX (h _ _ rfl) (h _ _ rfl) bM) ?_;refine zg 8 rfl ?_;refine JL.ifs (p:=bF<bI) rfl (fun ar=>?_) (fun ar=>?_)
        ·have bN:=ip aV ar;refine zg 14 rfl ?_;cases bN
        ·have bO:=im aV ar;obtain⟨cM,bP,bQ⟩:=bs bO;refine zg 11 rfl ?_;refine JL.Y rfl (fun ρ h=>Yl.A6 (h _ _ rfl) (h _ _ rfl) bP) ?_;refine zg 3 rfl ?_;cases bQ
      ·intro aW;refine Au.Cm (q:=0<p1) (i:=83) rfl (fun au=>?_) (fun au=>?_)
       ·have bR:=ip aS au;refine JG.ms ht rfl [3,4,5] rfl ?_;obtain⟨cN,bS,bT⟩:=bs bR;refine JG.V 6 ht rfl rfl (fun ρ h s' hs=>Yl.Ba (h _ _ rfl) (h _ _ rfl) bS) ?_;obtain⟨aa,aX,bU⟩:=bs bT;obtain⟨_,⟨_,_,rfl,rfl,⟨_,_,rfl,rfl,⟨aY,aZ,rfl,bV⟩⟩⟩,bW⟩:=WL.at ai aX;refine JG.V 7 ht rfl rfl (fun ρ h s' hs=>Yl.Be (ai).2 aX underlying130 (Ag type133) (h _ _ rfl) (h _ _ rfl)) ?_;refine JG.V 8 ht rfl rfl (fun ρ h s' hs=>Yl.Bp (vs:= [iV aa.1,iV aa.2.1,.slice aY (aa.2.2).length aZ]) (An underlying133) (Ag type133) (h _ _ rfl) (fun q w av=>by rw [Bd rfl];exact Bh 0 ah rfl (by simp [AA]) hs (bW q w av))) ?_;refine JG.ms ht rfl [9,10] rfl ?_;obtain⟨ab,a0,bX⟩:=bs bU;obtain⟨_,⟨_,_,rfl,rfl,⟨_,_,rfl,rfl,⟨a1,a2,rfl,bY⟩⟩⟩,bZ⟩:=WL.at ai a0;refine JG.V 11 ht rfl rfl (fun ρ h s' hs=>Yl.Be (ai).2 a0 underlying130 (Ag type133) (h _ _ rfl) (h _ _ rfl)) ?_;refine JG.V 12 ht rfl rfl (fun ρ h s' hs=>Yl.Bp (vs:= [iV ab.1,iV ab.2.1,.slice a1 (ab.2.2).length a2]) (An underlying133) (Ag type133) (h _ _ rfl) (fun q w av=>by rw [Bd rfl];exact Bh 0 ah rfl (by simp [AA]) hs (bZ q w av))) ?_;obtain⟨b0,b1,b2⟩:=bs bX;refine JG.FC (i:=13) ⟨⟨0,_,rfl⟩,trivial⟩ (vs:= [.agg #[iV aa.1,iV aa.2.1,.slice aY (aa.2.2).length aZ],.agg #[iV ab.1,iV ab.2.1,.slice a1 (ab.2.2).length a2]]) (EH bV bY b1) (by decide+kernel) rfl rfl rfl rfl (Aw func134 rfl) rfl ah ?_;rintro _ b3 _ b4 ⟨rfl,rfl⟩ b5;refine JG.mv 14 ht rfl rfl ?_;refine JG.V (v:= .bool (decide (¬(b0<0)))) 15 ht rfl rfl (fun ρ h s' hs=>Yl.Gw (h _ _ rfl)) ?_;refine JG.mv 16 ht rfl rfl ?_;obtain rfl:=oi b2;refine Au.Cc ?_ (aW _ _ ⟨b3,rfl,rfl,b4,b5⟩);exact⟨rfl,rfl,rfl,rfl,rfl,rfl,rfl,rfl,rfl,rfl,trivial⟩
       ·have b6:=im aS au;refine JG.ms ht rfl [3,4,5,6,7,8,9,10,11,12,13,14,15,16] rfl ?_;obtain rfl:=oi b6;refine Au.Cc ?_ (aW _ _ ⟨ag,rfl,rfl,(Le.refl _),ah⟩);exact⟨rfl,rfl,rfl,rfl,rfl,rfl,rfl,rfl,rfl,rfl,trivial⟩
     ·intro a3;refine JL.ifs (p:=W.2.1=1) rfl (fun aw=>?_) (fun aw=>?_)
      ·have b7:=ip aP aw;obtain⟨a4,b8,a5⟩:=bs b7;refine zg 6 rfl ?_;refine JS.Bu 0 (Ns aO b8) rfl rfl (Aw func183 rfl) aN rfl ?_;rintro _ b9 _ a6 ⟨f133,rfl,rfl,a7⟩ a8;refine JL.done ?_;refine JL.split (t:=a4.1) rfl (fun ay=>?_) (fun ay=>?_)
       ·have ca:=ip a5 ay;obtain rfl:=oi ca;have cb:=elim_inl aQ;obtain rfl:=oi cb;obtain rfl:=aG _ al;have cc:=elim_inl aD;obtain rfl:=oi cc;refine JL.rt func162 rfl rfl ?_;exact aC _ _ _ _ (((Z.trans ao).trans bv).trans a6) rfl ⟨f133,rfl,(by first | rfl | simp | (simp [Value.cells])),a7⟩ a8
       ·have cd:=ib a5 ay;refine JL.skip ?_;exact JL.kw (a3 _ _ ⟨a4.2,b9,f133,(Option.some.inj cd).symm,rfl,rfl,a6,a8,a7⟩) rfl
      ·have ce:=im aP aw;refine JL.skip ?_;exact JL.kw (a3 _ _ ⟨W.2.2,ae,f56,(Option.some.inj ce).symm,rfl,rfl,(Le.refl _),aN,aO⟩) rfl
    ·intro a9;refine JL.ifs (p:=bp.2=2) rfl (fun az=>?_) (fun az=>?_)
     ·have cf:=ip aM az;obtain⟨cO,cg,ci⟩:=bs cf;refine zg 6 rfl ?_;refine JS.Bu 0 (Np (hW.mono (Z.trans ao)) cg) rfl rfl (Aw func182 rfl) aL rfl ?_;rintro _ ck _ cm ⟨f156,rfl,rfl,cn⟩ co;obtain⟨cP,cp,cq⟩:=bs ci;refine zg 4 rfl ?_;refine JL.Y rfl (fun ρ h=>Yl.Ba (h _ _ rfl) (h _ _ rfl) cp) ?_;obtain⟨cQ,cr,ct⟩:=bs cq;refine zg 2 rfl ?_;refine JL.Y rfl (fun ρ h=>Yl.Ba (h _ _ rfl) (h _ _ rfl) cr) ?_;obtain⟨cR,cu,cv⟩:=bs ct;refine JL.Y rfl (fun ρ h=>Yl.Ba (h _ _ rfl) (h _ _ rfl) cu) ?_;refine zg 5 rfl ?_;obtain rfl:=oi cv;exact JL.kw (a9 _ _ ⟨ck,f156,rfl,rfl,cm,co,cn⟩) rfl
     ·have cw:=im aM az;refine JL.skip ?_;obtain rfl:=oi cw;exact JL.kw (a9 _ _ ⟨aK,aj,rfl,rfl,(Le.refl _),aL,(hW.mono (Z.trans ao))⟩) rfl
def Fa(fuel:Nat)(p3:Int)(K:Int×Int×Bool×Bool×(List (AZ))):Option (A8 (Int×Int×Bool×Bool×(List (AZ))) (((List (AZ)))⊕(Unit))):=
 Option.bind (
  (Ay (K.2.1 - K.1)).bind fun ae=>
  if ae≤12 then(
   (f178 fuel K.2.2.2.2 K.1 K.2.1).bind fun aj=>
   some (Sum.inl aj)
  ) else(
   if p3=0 then(
    none
   ) else(
    Option.bind (
     if(!K.2.2.1)=true then(
      none
     ) else(
      some ()
     )
    ) fun aF=>
    (f181 fuel K.2.2.2.2 K.1 K.2.1).bind fun W=>
    Option.bind (
     if W.2=2 then(
      (f182 fuel K.2.2.2.2 K.1 K.2.1).bind fun ak=>
      (Ay (K.2.1 - 1)).bind fun al=>
      (Ay (W.1 - K.1)).bind fun am=>
      (Ay (al - am)).bind fun an=>
      some (an,1,ak)
     ) else(
      some (W.1,W.2,K.2.2.2.2)
     )
    ) fun U=>
    Option.bind (
     if K.2.2.1=true then(
      some K.2.2.2.1
     ) else(
      some false
     )
    ) fun ao=>
    Option.bind (
     if ao=true then(
      some (decide (U.2.1=1))
     ) else(
      some false
     )
    ) fun ap=>
    Option.bind (
     if ap=true then(
      (f183 fuel U.2.2 K.1 K.2.1).bind fun aa=>
      if aa.1=true then(
       some (Sum.inl aa.2)
      ) else(
       some (Sum.inr aa.2)
      )
     ) else(
      some (Sum.inr U.2.2)
     )
    ) fun aq=>Sum.elim (fun r=>some (Sum.inl r)) (fun ab=>
    Option.bind (
     if 0<K.1 then(
      (Ay (K.1 - 1)).bind fun ar=>
      (ix ab (ar)).bind fun au=>
      (ix ab (U.1)).bind fun av=>
      (f134 fuel au av).bind fun aw=>
      some (decide (¬(aw<0)))
     ) else(
      some false
     )
    ) fun ay=>
    if ay=true then(
     none
    ) else(
     (f185 fuel ab K.1 K.2.1 U.1).bind fun O=>
     (Ay (O.1 - K.1)).bind fun ag=>
     (Ay (K.2.1 - O.1)).bind fun ah=>
     (Fo (ae) (8)).bind fun ai=>
     Option.bind (
      if ag<ah then(
       (F4 fuel O.2.2 K.1 O.1 p3).bind fun az=>
       (Ay (O.1+1)).bind fun aA=>
       some (aA,K.2.1,decide (ai≤ag),az)
      ) else(
       (Ay (O.1+1)).bind fun aB=>
       (F4 fuel O.2.2 aB K.2.1 p3).bind fun aC=>
       some (K.1,O.1,decide (ai≤ah),aC)
      )
     ) fun Z=>
     some (Sum.inr (Z.1,Z.2.1,Z.2.2.1,O.2.1,Z.2.2.2))
    )
    ) aq
   )
  )
 ) fun aD=>Sum.elim (fun r=>some (.done (Sum.inl r))) (fun aE=>
 some (.more aE)
 ) aD
def f162(fuel:Nat)(p0:List (AZ))(p1:Int)(p2:Int)(p3:Int):Option ((List (AZ))):=
 Option.bind (iter (Fa fuel p3) fuel (p1,p2,true,true,p0)) fun K=>
 Sum.elim (fun r=>some r) (fun O=>
 none
 ) K
theorem RQ{O:Nat}{U:Nat}{W:Nat}{aA:Array Value}{p0:List (AZ)}{p1:Int}{p2:Int}{p3:Int}(hW:WL 133 BL E O U W aA p0){fuel:Nat}{r:(List (AZ))}(aQ:f162 fuel p0 p1 p2 p3=some r):As J 162 [.slice (some ⟨O,0,none⟩) W U,iV p1,iV p2,iV p3,(.func (.func 134) #[] #[])] E [(O,.cells aA 133 (0,0))] (fun w E' B'=>∃(aR:Array Value),w= .tuple #[]∧B'= [(O,.cells aR 133 (0,0))]∧WL 133 BL E' O U W aR (r)):=by
 refine As.en func162 rfl rfl fun Q dN cs H bJ aS=>?_;unfold f162 at aQ;obtain⟨dO,bK,aT⟩:=bs aQ;refine zg 8 rfl ?_;refine JL.join (fun L s=>False) ?_ ?_
 ·intro _ _ bL;exact bL.elim
 ·intro dP;refine JL.block ?_;refine JL.wk [(0,.slice (some ⟨O,0,none⟩) W U),(1,iV p1),(2,iV p2),(3,iV p3),(4,(.func (.func 134) #[] #[])),(10,.bool true),(11,.bool true)] rfl ?_;refine JL.Bq bK (fun L s K=>∃(ag:LH) (f22:Array Value),Jn E H ag [[(O,.cells f22 133 (0,0))]] [(0,.slice (some ⟨O,0,none⟩) W U),(1,iV K.1),(2,iV K.2.1),(3,iV p3),(4,(.func (.func 134) #[] #[])),(10,.bool K.2.2.1),(11,.bool K.2.2.2.1)] L s (WL 133 BL ag O U W f22 (K.2.2.2.2))) ⟨E,aA,rfl,rfl,(Le.refl _),bJ,hW⟩ ?_;rintro _ _ K ⟨ag,f22,rfl,rfl,aB,aU,ap⟩ aV ⟨dQ,aq⟩ bM;have aW:=aq;unfold Fa at aW;obtain⟨bN,bO,aC⟩:=bs aW;refine JL.join (fun L s=>∃(aa:Int×Int×Bool×Bool×(List (AZ))) (ar:LH) (f36:Array Value),bN=Sum.inr aa∧Jn ag H ar [[(O,.cells f36 133 (0,0))]] [(0,.slice (some ⟨O,0,none⟩) W U),(1,iV aa.1),(2,iV aa.2.1),(3,iV p3),(4,(.func (.func 134) #[] #[])),(10,.bool aa.2.2.1),(11,.bool aa.2.2.2.1)] L s (WL 133 BL ar O U W f36 (aa.2.2.2.2))) ?_ ?_
  ·rintro _ _ ⟨aa,ar,f36,rfl,rfl,rfl,bP,bQ,bR⟩;have bS:=elim_inr aC;obtain rfl:=oi bS;exact JL.kw (bM _ _ aa ⟨ar,f36,rfl,rfl,(aB.trans bP),bQ,bR⟩ aq) rfl
  ·intro bT;obtain⟨ae,bU,aX⟩:=bs bO;refine zg 5 rfl ?_;refine JL.Y rfl (fun ρ h=>Yl.Ba (h _ _ rfl) (h _ _ rfl) bU) ?_;refine zg 8 rfl ?_;refine JL.ifs (p:=ae≤12) rfl (fun aD=>?_) (fun aD=>?_)
   ·have bV:=ip aX aD;obtain⟨dR,bW,bX⟩:=bs bV;refine zg 6 rfl ?_;refine JS.Bu 0 (NB ap bW) rfl rfl (Aw func178 rfl) aU rfl ?_;rintro _ dS _ bY ⟨f52,rfl,rfl,bZ⟩ b0;refine JL.done ?_;obtain rfl:=oi bX;have b1:=elim_inl aC;obtain rfl:=oi b1;obtain rfl:=aV _ aq;have b2:=elim_inl aT;obtain rfl:=oi b2;refine JL.rt func162 rfl rfl ?_;exact aS _ _ _ _ (aB.trans bY) rfl ⟨f52,rfl,(by first | rfl | simp | (simp [Value.cells])),bZ⟩ b0
   ·have aY:=im aX aD;refine zg 7 rfl ?_;refine JL.ifs (p:=p3=0) rfl (fun aE=>?_) (fun aE=>?_)
    ·have b3:=ip aY aE;refine zg 6 rfl ?_;cases b3
    ·have b4:=im aY aE;refine zg 5 rfl ?_;refine JL.Y (v:= .bool (!K.2.2.1)) rfl (fun ρ h=>Yl.not (h _ _ rfl)) ?_;obtain⟨dT,aZ,b5⟩:=bs b4;refine JL.done ?_;refine JL.join (fun L s=>∃(a0:LH),Jm ag H a0 [[(O,.cells f22 133 (0,0))]] [(0,.slice (some ⟨O,0,none⟩) W U),(1,iV K.1),(2,iV K.2.1),(3,iV p3),(4,(.func (.func 134) #[] #[])),(10,.bool K.2.2.1),(11,.bool K.2.2.2.1),(12,iV ae)] L s) ?_ ?_
     ·rintro _ _ ⟨a0,rfl,rfl,ak,b6⟩;obtain⟨b7,b8,b9⟩:=bs b5;refine zg 6 rfl ?_;refine JS.Bu 0 (NC (ap.mono ak) b8) rfl rfl (Aw func181 rfl) b6 rfl ?_;rintro _ a1 _ au ⟨rfl,rfl⟩ a2;obtain⟨Z,a3,ca⟩:=bs b9;refine zg 12 rfl ?_;refine JL.join (fun L s=>∃(ah:LH) (f84:Array Value),Jn a1 H ah [[(O,.cells f84 133 (0,0))]] [(0,.slice (some ⟨O,0,none⟩) W U),(1,iV K.1),(2,iV K.2.1),(3,iV p3),(4,(.func (.func 134) #[] #[])),(10,.bool K.2.2.1),(11,.bool K.2.2.2.1),(12,iV ae),(13,iV Z.1),(14,iV Z.2.1)] L s (WL 133 BL ah O U W f84 (Z.2.2))) ?_ ?_
      ·rintro _ _ ⟨ah,f84,rfl,rfl,a4,a5,a6⟩;obtain⟨a7,a8,cb⟩:=bs ca;refine zg 5 rfl ?_;refine JL.BM [4,5,6,7] (fun L s=>∃(al:LH),Jm ah H al [[(O,.cells f84 133 (0,0))]] [(0,.slice (some ⟨O,0,none⟩) W U),(1,iV K.1),(2,iV K.2.1),(3,iV p3),(4,(.func (.func 134) #[] #[])),(10,.bool K.2.2.1),(11,.bool K.2.2.2.1),(12,iV ae),(13,iV Z.1),(14,iV Z.2.1),(71,.bool a7)] L s) ?_ ?_
       ·rintro _ _ ⟨al,rfl,rfl,av,a9⟩;obtain⟨ba,bb,cc⟩:=bs cb;refine zg 1 rfl ?_;refine JL.BM [] (fun L s=>∃(aw:LH),Jm al H aw [[(O,.cells f84 133 (0,0))]] [(0,.slice (some ⟨O,0,none⟩) W U),(1,iV K.1),(2,iV K.2.1),(3,iV p3),(4,(.func (.func 134) #[] #[])),(10,.bool K.2.2.1),(11,.bool K.2.2.2.1),(12,iV ae),(13,iV Z.1),(75,.bool ba)] L s) ?_ ?_
        ·rintro _ _ ⟨aw,rfl,rfl,ay,bc⟩;obtain⟨cd,bd,bf⟩:=bs cc;refine JL.done ?_;refine JL.join (fun L s=>∃(aF:(List (AZ))) (am:LH) (f105:Array Value),cd=Sum.inr aF∧Jn aw H am [[(O,.cells f105 133 (0,0))]] [(0,.slice (some ⟨O,0,none⟩) W U),(1,iV K.1),(2,iV K.2.1),(3,iV p3),(4,(.func (.func 134) #[] #[])),(10,.bool K.2.2.1),(11,.bool K.2.2.2.1),(12,iV ae),(13,iV Z.1)] L s (WL 133 BL am O U W f105 (aF))) ?_ ?_
         ·rintro _ _ ⟨aF,am,f105,rfl,rfl,rfl,ce,an,ao⟩;have cf:=elim_inr bf;refine zg 2 rfl ?_;refine JG.Cn 17 [O] ⟨⟨0,_,rfl⟩,trivial⟩ an mixed rfl (by decide+kernel) fun ht=>?_;refine JG.ms ht rfl [0,1,2] rfl ?_;obtain⟨bg,bh,bi⟩:=bs cf;refine Au.join 0 #[true,true,true,true,true,true,true,true,true,true,true,true,true,true,true,true,true] (fun L s=>∃(bj:LH),Jm am H bj [[(O,.cells f105 133 (0,0))]] [(0,.slice (some ⟨O,0,none⟩) W U),(1,iV K.1),(2,iV K.2.1),(3,iV p3),(4,(.func (.func 134) #[] #[])),(10,.bool K.2.2.1),(11,.bool K.2.2.2.1),(12,iV ae),(13,iV Z.1),(97,.bool bg)] L s) ?_ ?_
          ·rintro _ _ ⟨bj,rfl,rfl,bk,cg⟩;refine Au.fin (by decide+kernel) ?_;refine JL.split (t:=bg) rfl (fun aG=>?_) (fun aG=>?_)
           ·have ci:=ip bi aG;refine zg 7 rfl ?_;cases ci
           ·have ck:=ib bi aG;obtain⟨bl,cm,cn⟩:=bs ck;refine zg 8 rfl ?_;refine JS.Bu 0 (NG (ao.mono bk) cm) rfl rfl (Aw func185 rfl) cg rfl ?_;rintro _ co _ cp ⟨f123,rfl,rfl,bm⟩ bn;obtain⟨cq,cr,ct⟩:=bs cn;refine zg 15 rfl ?_;refine JL.Y rfl (fun ρ h=>Yl.Ba (h _ _ rfl) (h _ _ rfl) cr) ?_;obtain⟨cu,cv,cw⟩:=bs ct;refine zg 2 rfl ?_;refine JL.Y rfl (fun ρ h=>Yl.Ba (h _ _ rfl) (h _ _ rfl) cv) ?_;obtain⟨cy,cz,cA⟩:=bs cw;refine zg 6 rfl ?_;refine JL.Y (v:=iV cy) rfl (fun ρ h=>Yl.HX (h _ _ rfl) (h _ _ rfl) cz) ?_;obtain⟨ab,bo,cB⟩:=bs cA;refine zg 8 rfl ?_;refine JL.join (fun L s=>∃(az:LH) (f138:Array Value),Jn co H az [[(O,.cells f138 133 (0,0))]] [(0,.slice (some ⟨O,0,none⟩) W U),(1,iV ab.1),(2,iV ab.2.1),(3,iV p3),(4,(.func (.func 134) #[] #[])),(10,.bool ab.2.2.1),(11,.bool bl.2.1)] L s (WL 133 BL az O U W f138 (ab.2.2.2))) ?_ ?_
            ·rintro _ _ ⟨az,f138,rfl,rfl,cC,cD,cE⟩;refine JL.outBlock ?_;exact JL.kw (bT _ _ ⟨(ab.1,ab.2.1,ab.2.2.1,bl.2.1,ab.2.2.2),az,f138,(Option.some.inj cB).symm,rfl,rfl,((((((((ak.trans au).trans a4).trans av).trans ay).trans ce).trans bk).trans cp).trans cC),cD,cE⟩) rfl
            ·intro bp;refine JL.ifs (p:=cq<cu) rfl (fun aH=>?_) (fun aH=>?_)
             ·have cF:=ip bo aH;obtain⟨dU,cG,cH⟩:=bs cF;refine zg 14 rfl ?_;refine JS.Bu 0 (MD bm cG) rfl rfl (Aw func162 rfl) bn rfl ?_;rintro _ cI _ cJ ⟨f150,rfl,rfl,cK⟩ cM;obtain⟨dV,cN,cO⟩:=bs cH;refine zg 3 rfl ?_;refine JL.Y rfl (fun ρ h=>Yl.A6 (h _ _ rfl) (h _ _ rfl) cN) ?_;refine zg 2 rfl ?_;obtain rfl:=oi cO;exact JL.kw (bp _ _ ⟨cI,f150,rfl,rfl,cJ,cM,cK⟩) rfl
             ·have cP:=im bo aH;obtain⟨dW,cQ,cR⟩:=bs cP;refine zg 11 rfl ?_;refine JL.Y rfl (fun ρ h=>Yl.A6 (h _ _ rfl) (h _ _ rfl) cQ) ?_;obtain⟨dX,cT,cV⟩:=bs cR;refine zg 3 rfl ?_;refine JS.Bu 0 (MD bm cT) rfl rfl (Aw func162 rfl) bn rfl ?_;rintro _ cW _ cX ⟨f165,rfl,rfl,cY⟩ cZ;refine zg 5 rfl ?_;obtain rfl:=oi cV;exact JL.kw (bp _ _ ⟨cW,f165,rfl,rfl,cX,cZ,cY⟩) rfl
          ·intro bq;refine Au.Cm (q:=0<K.1) (i:=83) rfl (fun aI=>?_) (fun aI=>?_)
           ·have c0:=ip bh aI;refine JG.ms ht rfl [3,4,5] rfl ?_;obtain⟨dY,c1,c2⟩:=bs c0;refine JG.V 6 ht rfl rfl (fun ρ h s' hs=>Yl.Ba (h _ _ rfl) (h _ _ rfl) c1) ?_;obtain⟨ai,br,c3⟩:=bs c2;obtain⟨_,⟨_,_,rfl,rfl,⟨_,_,rfl,rfl,⟨bu,bv,rfl,c4⟩⟩⟩,c5⟩:=WL.at ao br;refine JG.V 7 ht rfl rfl (fun ρ h s' hs=>Yl.Be (ao).2 br underlying130 (Ag type133) (h _ _ rfl) (h _ _ rfl)) ?_;refine JG.V 8 ht rfl rfl (fun ρ h s' hs=>Yl.Bp (vs:= [iV ai.1,iV ai.2.1,.slice bu (ai.2.2).length bv]) (An underlying133) (Ag type133) (h _ _ rfl) (fun q w aJ=>by rw [Bd rfl];exact Bh 0 an rfl (by simp [AA]) hs (c5 q w aJ))) ?_;refine JG.ms ht rfl [9,10] rfl ?_;obtain⟨aj,bw,c6⟩:=bs c3;obtain⟨_,⟨_,_,rfl,rfl,⟨_,_,rfl,rfl,⟨bx,bz,rfl,c7⟩⟩⟩,c8⟩:=WL.at ao bw;refine JG.V 11 ht rfl rfl (fun ρ h s' hs=>Yl.Be (ao).2 bw underlying130 (Ag type133) (h _ _ rfl) (h _ _ rfl)) ?_;refine JG.V 12 ht rfl rfl (fun ρ h s' hs=>Yl.Bp (vs:= [iV aj.1,iV aj.2.1,.slice bx (aj.2.2).length bz]) (An underlying133) (Ag type133) (h _ _ rfl) (fun q w aJ=>by rw [Bd rfl];exact Bh 0 an rfl (by simp [AA]) hs (c8 q w aJ))) ?_;obtain⟨c9,da,db⟩:=bs c6;refine JG.FC (i:=13) ⟨⟨0,_,rfl⟩,trivial⟩ (vs:= [.agg #[iV ai.1,iV ai.2.1,.slice bu (ai.2.2).length bv],.agg #[iV aj.1,iV aj.2.1,.slice bx (aj.2.2).length bz]]) (EH c4 c7 da) (by decide+kernel) rfl rfl rfl rfl (Aw func134 rfl) rfl an ?_;rintro _ dc _ dd ⟨rfl,rfl⟩ de;refine JG.mv 14 ht rfl rfl ?_;refine JG.V (v:= .bool (decide (¬(c9<0)))) 15 ht rfl rfl (fun ρ h s' hs=>Yl.Gw (h _ _ rfl)) ?_;refine JG.mv 16 ht rfl rfl ?_;obtain rfl:=oi db;refine Au.Cc ?_ (bq _ _ ⟨dc,rfl,rfl,dd,de⟩);exact⟨rfl,rfl,rfl,rfl,rfl,rfl,rfl,rfl,rfl,rfl,trivial⟩
           ·have df:=im bh aI;refine JG.ms ht rfl [3,4,5,6,7,8,9,10,11,12,13,14,15,16] rfl ?_;obtain rfl:=oi df;refine Au.Cc ?_ (bq _ _ ⟨am,rfl,rfl,(Le.refl _),an⟩);exact⟨rfl,rfl,rfl,rfl,rfl,rfl,rfl,rfl,rfl,rfl,trivial⟩
         ·intro bA;refine JL.split (t:=ba) rfl (fun aK=>?_) (fun aK=>?_)
          ·have dg:=ip bd aK;obtain⟨bB,dh,bC⟩:=bs dg;refine zg 6 rfl ?_;refine JS.Bu 0 (Ns (a6.mono (av.trans ay)) dh) rfl rfl (Aw func183 rfl) bc rfl ?_;rintro _ di _ bD ⟨f205,rfl,rfl,bE⟩ bF;refine JL.done ?_;refine JL.split (t:=bB.1) rfl (fun aL=>?_) (fun aL=>?_)
           ·have dj:=ip bC aL;obtain rfl:=oi dj;have dk:=elim_inl bf;obtain rfl:=oi dk;have dl:=elim_inl aC;obtain rfl:=oi dl;obtain rfl:=aV _ aq;have dm:=elim_inl aT;obtain rfl:=oi dm;refine JL.rt func162 rfl rfl ?_;exact aS _ _ _ _ ((((((aB.trans ak).trans au).trans a4).trans av).trans ay).trans bD) rfl ⟨f205,rfl,(by first | rfl | simp | (simp [Value.cells])),bE⟩ bF
           ·have dn:=ib bC aL;refine JL.skip ?_;exact JL.kw (bA _ _ ⟨bB.2,di,f205,(Option.some.inj dn).symm,rfl,rfl,bD,bF,bE⟩) rfl
          ·have dp:=ib bd aK;refine JL.skip ?_;exact JL.kw (bA _ _ ⟨Z.2.2,aw,f84,(Option.some.inj dp).symm,rfl,rfl,(Le.refl _),bc,(a6.mono (av.trans ay))⟩) rfl
        ·intro bG;refine JL.Cb (c:=a7) (i:=72) rfl (fun aM=>?_) (fun aM=>?_)
         ·have dq:=ip bb aM;refine zg 3 rfl ?_;obtain rfl:=oi dq;exact JL.kw (bG _ _ ⟨al,rfl,rfl,(Le.refl _),a9⟩) rfl
         ·have dr:=ib bb aM;refine zg 3 rfl ?_;obtain rfl:=oi dr;exact JL.kw (bG _ _ ⟨al,rfl,rfl,(Le.refl _),a9⟩) rfl
       ·intro bH;refine JL.Cb (c:=K.2.2.1) (i:=69) rfl (fun aN=>?_) (fun aN=>?_)
        ·have dt:=ip a8 aN;refine zg 2 rfl ?_;obtain rfl:=oi dt;exact JL.kw (bH _ _ ⟨ah,rfl,rfl,(Le.refl _),a5⟩) rfl
        ·have du:=ib a8 aN;refine zg 2 rfl ?_;obtain rfl:=oi du;exact JL.kw (bH _ _ ⟨ah,rfl,rfl,(Le.refl _),a5⟩) rfl
      ·intro bI;refine JL.ifs (p:=b7.2=2) rfl (fun aO=>?_) (fun aO=>?_)
       ·have dv:=ip a3 aO;obtain⟨dZ,dw,dx⟩:=bs dv;refine zg 6 rfl ?_;refine JS.Bu 0 (Np (ap.mono (ak.trans au)) dw) rfl rfl (Aw func182 rfl) a2 rfl ?_;rintro _ dy _ dz ⟨dA,rfl,rfl,dB⟩ dC;obtain⟨ea,dD,dE⟩:=bs dx;refine zg 4 rfl ?_;refine JL.Y rfl (fun ρ h=>Yl.Ba (h _ _ rfl) (h _ _ rfl) dD) ?_;obtain⟨eb,dF,dG⟩:=bs dE;refine zg 2 rfl ?_;refine JL.Y rfl (fun ρ h=>Yl.Ba (h _ _ rfl) (h _ _ rfl) dF) ?_;obtain⟨ec,dH,dI⟩:=bs dG;refine JL.Y rfl (fun ρ h=>Yl.Ba (h _ _ rfl) (h _ _ rfl) dH) ?_;refine zg 5 rfl ?_;obtain rfl:=oi dI;exact JL.kw (bI _ _ ⟨dy,dA,rfl,rfl,dz,dC,dB⟩) rfl
       ·have dJ:=im a3 aO;refine JL.skip ?_;obtain rfl:=oi dJ;exact JL.kw (bI _ _ ⟨a1,f22,rfl,rfl,(Le.refl _),a2,(ap.mono (ak.trans au))⟩) rfl
     ·intro dK;refine JL.split (t:=(!K.2.2.1)) rfl (fun aP=>?_) (fun aP=>?_)
      ·have dL:=ip aZ aP;refine zg 6 rfl ?_;cases dL
      ·have dM:=ib aZ aP;refine JL.skip ?_;obtain rfl:=oi dM;exact JL.kw (dK _ _ ⟨ag,rfl,rfl,(Le.refl _),aU⟩) rfl
def f133(fuel:Nat)(p0:List (AZ)):Option ((List (AZ))):=
 (f163 fuel (Ca ((p0).length:Int))).bind fun K=>
 (f162 fuel p0 0 ((p0).length:Int) K).bind fun O=>
 some O
theorem RF{K:Nat}{O:Nat}{U:Nat}{W:Array Value}{p0:List (AZ)}(hW:WL 133 BL E K O U W p0){fuel:Nat}{r:(List (AZ))}(Z:f133 fuel p0=some r):As J 133 [.slice (some ⟨K,0,none⟩) U O,(.func (.func 134) #[] #[])] E [(K,.cells W 133 (0,0))] (fun w E' B'=>∃(aa:Array Value),w= .tuple #[]∧B'= [(K,.cells aa 133 (0,0))]∧WL 133 BL E' K O U aa (r)):=by
 refine As.en func133 rfl rfl fun Q ap cs H ae ag=>?_;unfold f133 at Z;refine zg 3 rfl ?_;refine JL.Y (v:=iV ((p0).length:Int)) rfl (fun ρ h=>Yl.Of (hW).2 rfl underlying130 (h _ _ rfl)) ?_;refine zg 6 rfl ?_;refine JL.Y (v:= .int .u64 ((Ca ((p0).length:Int):Nat):Int)) rfl (fun ρ h=>Yl.Ca underlying3 underlying156 (h _ _ rfl)) ?_;obtain⟨aq,ah,ai⟩:=bs Z;refine JS.cl (NH ah) rfl rfl (Aw func163 rfl) ae ?_;rintro _ ar _ ab ⟨rfl,rfl⟩ aj;obtain⟨au,ak,al⟩:=bs ai;refine zg 1 rfl ?_;refine JS.Bu 0 (RQ (hW.mono ab) ak) rfl rfl (Aw func162 rfl) aj rfl ?_;rintro _ av _ am ⟨f12,rfl,rfl,an⟩ ao;refine JL.done ?_;obtain rfl:=oi al;refine JL.fin (v:= .tuple #[]) rfl rfl (Bv.list func133 rfl (vs:= []) trivial) ?_;exact ag _ _ _ _ (ab.trans am) rfl ⟨f12,rfl,(by first | rfl | simp | (simp [Value.cells])),an⟩ ao
end Pal
namespace Pal
def Ad{α:Type}(o:Option α)(Q:α→Prop):Prop:=∃a,o=some a∧Q a
section
variable {α β:Type}{Q R:α→Prop}
theorem Ad.intro{a:α}(h:Q a):Ad (some a) Q:=⟨a,rfl,h⟩
theorem Ad.mono{o:Option α}(h:Ad o R)(k:∀a,R a→Q a):Ad o Q:=let ⟨a,K,O⟩:=h;⟨a,K,k a O⟩
theorem Ad.of_eq{o:Option α}{a:α}(h:o=some a)(k:Q a):Ad o Q:=⟨a,h,k⟩
theorem Ad.b{o:Option β}{f:β→Option α}{S:β→Prop}(h:Ad o S)(k:∀b,S b→Ad (f b) Q):Ad (o.bind f) Q:=by
 obtain⟨b,rfl,hb⟩:=h;obtain⟨a,K,O⟩:=k b hb;exact⟨a,K,O⟩
theorem Ad.be{o:Option β}{f:β→Option α}{b:β}(h:o=some b)(k:Ad (f b) Q):Ad (o.bind f) Q:=by subst h;exact k
theorem Ad.Ts{f:Int→Option α}{x:Int}(K: -9223372036854775808≤x)(O:x≤9223372036854775807)(k:Ad (f x) Q):Ad ((Ay x).bind f) Q:=Ad.be (if_pos ⟨K,O⟩) k
theorem Fg{xs:List β}{i:Int}{m:Nat}{b:β}(h:i=(m:Int))(hb:xs[m]? =some b):ix xs i=some b:=by subst h;simpa [ix] using hb
theorem Ad.BC{f:β→Option α}{xs:List β}{i:Int}{m:Nat}(h:i=(m:Int))(hm:m<xs.length)(k:Ad (f xs[m]) Q):Ad ((ix xs i).bind f) Q:=Ad.be (Fg h (List.getElem?_eq_getElem hm)) k
theorem Ad.Ky{f:List β→Option α}{xs:List β}{x:β}(h:xs.length+1≤2 ^ 40)(k:Ad (f (xs++ [x])) Q):Ad ((room xs x).bind f) Q:=Ad.be (if_pos h) k
theorem Ad.ite{c:Prop} [Decidable c] {x y:Option α}(K:c→Ad x Q)(O:¬c→Ad y Q):Ad (if c then x else y) Q:=by
 by_cases h:c
 ·rw [if_pos h];exact K h
 ·rw [if_neg h];exact O h
theorem Ad.pos{c:Prop} [Decidable c] {x y:Option α}(h:c)(k:Ad x Q):Ad (if c then x else y) Q:=by rw [if_pos h];exact k
theorem Ad.neg{c:Prop} [Decidable c] {x y:Option α}(h:¬c)(k:Ad y Q):Ad (if c then x else y) Q:=by rw [if_neg h];exact k
def A8.sat{S A:Type}(I:S→Prop)(Q:A→Prop):A8 S A→Prop
 | .more s=>I s
 | .done a=>Q a
theorem Ad.iter{S:Type}{body:S→Option (A8 S α)}(I:Nat→S→Prop)(round:∀m s,I m s→Ad (body s) (A8.sat (fun s'=>∃m',m'<m∧I m' s') Q)):
  ∀{m fuel:Nat} {s:S},I m s→m<fuel→Ad (iter body fuel s) Q:=by
 intro m
 induction m using Nat.strongRecOn with
 | _ m O=>
  intro fuel s U ab;obtain⟨fuel,rfl⟩:∃k,fuel=k+1:=⟨fuel - 1,by omega⟩;obtain⟨st,W,K⟩:=round m s U;unfold Pal.iter;rw [W];cases st with
  | more s'=>
   obtain⟨m',Z,aa⟩:=K;exact O m' Z aa (by omega)
  | done a=>exact⟨a,rfl,K⟩
end
end Pal
namespace Pal
open Go.Sort
abbrev PT:=Int×Int×(List (Int×(List Int)×Nat))
def AF(x y:PT):Bool:=decide (x.1<y.1)
theorem IG:SWO AF:=⟨fun x=>by simp [AF],fun x y z K O=>by simp [AF] at*;omega,fun x y z K O=>by simp [AF] at*;omega⟩
def KO(xs:List PT):Prop:=∀x∈xs,0≤x.1∧x.1≤1000
theorem Hv{fuel:Nat}{x y:PT}(K:0≤x.1∧x.1≤1000)(O:0≤y.1∧y.1≤1000):f134 fuel x y=some (x.1 - y.1):=by
 unfold f134;rw [show Ay (x.1 - y.1)=some (x.1 - y.1) from if_pos (by omega)];rfl
theorem GV(x y:PT):decide (x.1 - y.1<0)=AF x y:=by unfold AF;congr 1;apply propext;omega
theorem KO.get{xs:List PT}(h:KO xs){i:Nat}(hi:i<xs.length):0≤xs[i].1∧xs[i].1≤1000:=h _ (List.getElem_mem hi)
theorem KO.set{xs:List PT}(h:KO xs){i:Nat}{x:PT}(K:0≤x.1∧x.1≤1000):KO (xs.set i x):=fun y O=>by
 rcases List.mem_or_eq_of_mem_set O with q | q
 ·exact h y q
 ·subst q;exact K
theorem Gh{xs:List PT}{i j:Nat}(hi:i<xs.length)(K:j<xs.length):((xs.set i xs[j]).set j xs[i]).toArray=swp xs.toArray i j:=by
 unfold swp;rw [show xs.toArray[j]! =xs[j] by simp [getElem!_pos,K],show xs.toArray[i]! =xs[i] by simp [getElem!_pos,hi]];simp
theorem Et{xs:List PT}{i:Nat}(hi:i<xs.length):xs.toArray[i]! =xs[i]:=by simp [getElem!_pos,hi]
section
variable {α:Type}{Q:α→Prop}
theorem Ad.A1{f:Int→Option α}{x:Int}(y:Int)(h:x=y)(K: -9223372036854775808≤y)(O:y≤9223372036854775807)(k:Ad (f y) Q):Ad ((Ay x).bind f) Q:=by subst h;exact Ad.Ts K O k
end
theorem QG{F:Nat}(a:Nat):∀(j fuel:Nat) (xs:List PT),j<fuel→j<xs.length→xs.length<1000→KO xs→
  Ad (iter (GR F (a:Int)) fuel ((j:Int),xs)) (fun ys=>ys.toArray=insInner AF a j xs.toArray∧KO ys∧ys.length=xs.length):=by
 intro j
 induction j with
 | zero=>
  intro fuel xs ae U aa K;obtain⟨fuel,rfl⟩:∃k,fuel=k+1:=⟨fuel - 1,by omega⟩;refine⟨xs,?_,rfl,K,rfl⟩;have ag:¬((a:Int)<0):=by omega
  simp [iter,GR,ag]
 | succ j ah=>
  intro fuel xs ae U aa K;obtain⟨fuel,rfl⟩:∃k,fuel=k+1:=⟨fuel - 1,by omega⟩;have O:j<xs.length:=by omega
  have ai:Ad (GR F (a:Int) (((j+1:Nat):Int),xs)) (fun st=>st=if(decide (j+1>a)&&AF xs[j+1] xs[j])=true then .more ((j:Int),(xs.set (j+1) xs[j]).set j xs[j+1]) else .done xs):=by
   unfold GR;refine Ad.b (S:=fun c=>c=(decide (j+1>a)&&AF xs[j+1] xs[j])) ?_ ?_
   ·refine Ad.ite (fun h=>?_) (fun h=>?_)
    ·have Z:a<j+1:=by simp at h;omega
     refine Ad.BC (m:=j+1) rfl U ?_;refine Ad.A1 (j:Int) (by simp) (by omega) (by omega) ?_;refine Ad.BC (m:=j) rfl O ?_;refine Ad.be (Hv (K.get U) (K.get O)) ?_;refine Ad.intro ?_;rw [GV];simp [Z]
    ·have Z:¬a<j+1:=by simp at h;omega
     refine Ad.intro ?_;simp [Z]
   ·rintro c rfl;refine Ad.ite (fun h=>?_) (fun h=>?_)
    ·refine Ad.A1 (j:Int) (by simp) (by omega) (by omega) ?_;refine Ad.A1 (j:Int) (by simp) (by omega) (by omega) ?_;refine Ad.BC (m:=j) rfl O ?_;refine Ad.BC (m:=j+1) rfl U ?_;refine Ad.be (b:=(xs.set (j+1) xs[j])[j]'(by simpa using O)) (Fg rfl (List.getElem?_eq_getElem _)) ?_;refine Ad.A1 (j:Int) (by simp) (by omega) (by omega) ?_;refine Ad.intro ?_;rw [if_pos h];simp
    ·refine Ad.intro ?_;rw [if_neg h]
  obtain⟨st,aj,rfl⟩:=ai;unfold iter;rw [aj];have W:insInner AF a (j+1) xs.toArray=if(decide (j+1>a)&&AF xs[j+1] xs[j])=true then insInner AF a j (swp xs.toArray (j+1) j) else xs.toArray:=by
   rw [insInner,Et U,Et O]
  by_cases ab:(decide (j+1>a)&&AF xs[j+1] xs[j])=true
  ·rw [if_pos ab] at W ⊢;have ak:KO ((xs.set (j+1) xs[j]).set j xs[j+1]):=(K.set (K.get O)).set (K.get U);refine(ah fuel ((xs.set (j+1) xs[j]).set j xs[j+1]) (by omega) (by simpa using O) (by simpa using aa) ak).mono ?_;rintro ys ⟨al,am,an⟩;refine⟨?_,am,by simpa using an⟩;rw [al,Gh U O,W]
  ·rw [if_neg ab] at W ⊢;exact⟨xs,rfl,W.symm,K,rfl⟩
theorem P1{F:Nat}(a b:Nat)(ai:2000<F):∀(m i fuel:Nat) (xs:List PT),b - i=m→m<fuel→b≤xs.length→xs.length<1000→KO xs→
  Ad (iter (Gi F (a:Int) (b:Int)) fuel ((i:Int),xs)) (fun ys=>ys.toArray=insOuter AF a b i xs.toArray∧KO ys∧ys.length=xs.length):=by
 intro m
 induction m with
 | zero=>
  intro i fuel xs hm Z hb W O;obtain⟨fuel,rfl⟩:∃k,fuel=k+1:=⟨fuel - 1,by omega⟩;have U:¬i<b:=by omega
  have K:Ad (Gi F (a:Int) (b:Int) ((i:Int),xs)) (fun st=>st= .done xs):=by
   unfold Gi;exact Ad.neg (show ¬(i:Int)<(b:Int) by omega) (Ad.intro rfl)
  obtain⟨st,K,rfl⟩:=K;unfold iter;rw [K];refine⟨xs,rfl,?_,O,rfl⟩;rw [insOuter,if_neg U]
 | succ m aa=>
  intro i fuel xs hm Z hb W O;obtain⟨fuel,rfl⟩:∃k,fuel=k+1:=⟨fuel - 1,by omega⟩;have U:i<b:=by omega
  obtain⟨ys,ab,ae,ag,aj⟩:=QG (F:=F) a i F xs (by omega) (by omega) W O;have K:Ad (Gi F (a:Int) (b:Int) ((i:Int),xs)) (fun st=>st= .more (((i+1:Nat):Int),ys)):=by
   unfold Gi;refine Ad.pos (show(i:Int)<(b:Int) by omega) ?_;refine Ad.be ab ?_;refine Ad.A1 ((i+1:Nat):Int) (by simp) (by omega) (by omega) ?_;exact Ad.intro rfl
  obtain⟨st,K,rfl⟩:=K;unfold iter;rw [K];refine(aa (i+1) fuel ys (by omega) (by omega) (by omega) (by omega) ag).mono ?_;rintro ak ⟨k1,ah,al⟩;refine⟨?_,ah,by omega⟩;rw [k1,ae,insOuter.eq_def AF a b i,if_pos U]
theorem M3{F a b:Nat}{xs:List PT}(K:2000<F)(hb:b≤xs.length)(O:xs.length<1000)(U:KO xs)(ab:a≤b):
  Ad (f178 F xs (a:Int) (b:Int)) (fun ys=>ys.toArray=insertionSort AF xs.toArray a b∧KO ys∧ys.length=xs.length):=by
 unfold f178;refine Ad.A1 ((a+1:Nat):Int) (by simp) (by omega) (by omega) ?_;refine Ad.b (P1 (F:=F) a b K (b - (a+1)) (a+1) F xs rfl (by omega) hb O U) ?_;rintro ys ⟨W,Z,aa⟩;exact⟨ys,rfl,W,Z,aa⟩
end Pal
namespace Pal
open Go.Sort
theorem Kb{F a b sw:Nat}{xs:List PT}(O:a<xs.length)(hb:b<xs.length)(hs:sw<1000)(W:xs.length<1000)(U:KO xs):
  f200 F xs (a:Int) (b:Int) (sw:Int)=some ((((order2 AF xs.toArray a b sw).1:Nat):Int),(((order2 AF xs.toArray a b sw).2.1:Nat):Int),(((order2 AF xs.toArray a b sw).2.2:Nat):Int)):=by
 have h:Ad (f200 F xs (a:Int) (b:Int) (sw:Int)) (fun r=>r=((((order2 AF xs.toArray a b sw).1:Nat):Int),(((order2 AF xs.toArray a b sw).2.1:Nat):Int),(((order2 AF xs.toArray a b sw).2.2:Nat):Int))):=by
  unfold f200;refine Ad.BC (m:=b) rfl hb ?_;refine Ad.BC (m:=a) rfl O ?_;refine Ad.be (Hv (U.get hb) (U.get O)) ?_;have e:order2 AF xs.toArray a b sw=if AF xs[b] xs[a] then(b,a,sw+1) else(a,b,sw):=by unfold order2;rw [Et O,Et hb]
  refine Ad.ite (fun h=>?_) (fun h=>?_)
  ·have K:AF xs[b] xs[a]=true:=by rw [← GV];exact decide_eq_true h
   refine Ad.A1 ((sw+1:Nat):Int) (by simp) (by omega) (by omega) ?_;refine Ad.intro ?_;rw [e,if_pos K]
  ·have K:¬AF xs[b] xs[a]=true:=by rw [← GV];simpa using h
   refine Ad.intro ?_;rw [e,if_neg K]
 obtain⟨r,K,rfl⟩:=h;exact K
theorem L5{n a b sw:Nat}{d:Array PT}(K:a<n)(hb:b<n):(order2 AF d a b sw).1<n∧(order2 AF d a b sw).2.1<n∧(order2 AF d a b sw).2.2≤sw+1:=by
 unfold order2;split
 ·exact⟨hb,K,Nat.le_refl _⟩
 ·exact⟨K,hb,Nat.le_succ _⟩
theorem Q6{F a b c sw:Nat}{xs:List PT}(U:a<xs.length)(hb:b<xs.length)(W:c<xs.length)(hs:sw<900)(K:xs.length<1000)(O:KO xs):
  f197 F xs (a:Int) (b:Int) (c:Int) (sw:Int)=some ((((median AF xs.toArray a b c sw).1:Nat):Int),(((median AF xs.toArray a b c sw).2:Nat):Int)):=by
 unfold f197 median;obtain⟨aa,Z,ae⟩:=L5 (sw:=sw) (d:=xs.toArray) U hb;rw [Kb U hb (by omega) K O];simp only [Option.bind_some];obtain⟨ab,ag,ah⟩:=L5 (sw:=(order2 AF xs.toArray a b sw).2.2) (d:=xs.toArray) Z W;rw [Kb Z W (by omega) K O];simp only [Option.bind_some];rw [Kb aa ab (by omega) K O];simp only [Option.bind_some]
def F3:Hint→Int | .unknown=>0 | .increasing=>1 | .decreasing=>2
theorem Ad.quo{α:Type}{Q:α→Prop}{f:Int→Option α}{x:Int}(m k:Nat)(K:x=(m:Int))(hm:m<1000)(O:0<k)(h:Ad (f ((m / k:Nat):Int)) Q):Ad ((Fo x (k:Int)).bind f) Q:=by
 subst K;refine Ad.be ?_ h;unfold Fo;rw [if_neg (by omega)];have e:((m:Int).tdiv (k:Int))=((m / k:Nat):Int):=by rw [Int.tdiv_eq_ediv_of_nonneg (by omega)];rfl
 have hle:m / k≤m:=Nat.div_le_self _ _;rw [e];generalize m / k=z at hle ⊢;exact if_pos (by omega)
theorem QN{F a b:Nat}{xs:List PT}(ai:a+8≤b)(aj:b<a+50)(hb:b≤xs.length)(aa:xs.length<1000)(ab:KO xs):
  f181 F xs (a:Int) (b:Int)=some ((((choosePivot AF xs.toArray a b).1:Nat):Int),F3 (choosePivot AF xs.toArray a b).2):=by
 have h:Ad (f181 F xs (a:Int) (b:Int)) (fun r=>r=((((choosePivot AF xs.toArray a b).1:Nat):Int),F3 (choosePivot AF xs.toArray a b).2)):=by
  unfold f181;have ak:(b - a) / 4≤b - a:=Nat.div_le_self _ _;have al:(b - a) / 4*3<b - a:=by omega
  refine Ad.A1 ((b - a:Nat):Int) (by omega) (by omega) (by omega) ?_;refine Ad.quo (b - a) 4 rfl (by omega) (by omega) ?_;refine Ad.A1 (((b - a) / 4*1:Nat):Int) (by push_cast;rfl) (by omega) (by omega) ?_;refine Ad.A1 ((a+(b - a) / 4*1:Nat):Int) (by push_cast;rfl) (by omega) (by omega) ?_;refine Ad.quo (b - a) 4 rfl (by omega) (by omega) ?_;refine Ad.A1 (((b - a) / 4*2:Nat):Int) (by push_cast;rfl) (by omega) (by omega) ?_;refine Ad.A1 ((a+(b - a) / 4*2:Nat):Int) (by push_cast;rfl) (by omega) (by omega) ?_;refine Ad.quo (b - a) 4 rfl (by omega) (by omega) ?_;refine Ad.A1 (((b - a) / 4*3:Nat):Int) (by push_cast;rfl) (by omega) (by omega) ?_;refine Ad.A1 ((a+(b - a) / 4*3:Nat):Int) (by push_cast;rfl) (by omega) (by omega) ?_;have ae:choosePivot AF xs.toArray a b=((median AF xs.toArray (a+(b - a) / 4*1) (a+(b - a) / 4*2) (a+(b - a) / 4*3) 0).1,if(median AF xs.toArray (a+(b - a) / 4*1) (a+(b - a) / 4*2) (a+(b - a) / 4*3) 0).2=0 then .increasing else if(median AF xs.toArray (a+(b - a) / 4*1) (a+(b - a) / 4*2) (a+(b - a) / 4*3) 0).2=12 then .decreasing else .unknown):=by
   unfold choosePivot;simp only;rw [if_pos (by omega),if_neg (by omega)]
  rw [ae];generalize ag:median AF xs.toArray (a+(b - a) / 4*1) (a+(b - a) / 4*2) (a+(b - a) / 4*3) 0=K;refine Ad.b (S:=fun r=>r=(((K.1:Nat):Int),((K.2:Nat):Int))) ?_ ?_
  ·refine Ad.pos (by omega) ?_;refine Ad.b (S:=fun _=>True) (Ad.neg (by omega) (Ad.intro trivial)) fun _ _=>?_;have Z:=Q6 (F:=F) (a:=a+(b - a) / 4*1) (b:=a+(b - a) / 4*2) (c:=a+(b - a) / 4*3) (sw:=0) (xs:=xs) (by omega) (by omega) (by omega) (by omega) aa ab;rw [ag] at Z;exact Ad.be Z (Ad.intro rfl)
  ·rintro r rfl;refine Ad.ite (fun h=>?_) (fun h=>?_)
   ·have O:K.2=0:=by simp at h;omega
    rw [if_pos O];exact Ad.intro rfl
   ·have O:¬K.2=0:=by simp at h;omega
    rw [if_neg O];refine Ad.ite (fun U=>?_) (fun U=>?_)
    ·have W:K.2=12:=by simp at U;omega
     rw [if_pos W];exact Ad.intro rfl
    ·have W:¬K.2=12:=by simp at U;omega
     rw [if_neg W];exact Ad.intro rfl
 obtain⟨r,ah,rfl⟩:=h;exact ah
theorem Rg{F:Nat}:∀(m i j fuel:Nat) (xs:List PT),j - i≤m→m<fuel→(i<j→j<xs.length)→i≤xs.length→j≤xs.length→xs.length<1000→KO xs→
  Ad (iter (FA F) fuel ((i:Int),(j:Int),xs)) (fun ys=>ys.toArray=reverseLoop i j xs.toArray∧KO ys∧ys.length=xs.length):=by
 intro m
 induction m with
 | zero=>
  intro i j fuel xs hm ae aa hi ag ab K;obtain⟨fuel,rfl⟩:∃k,fuel=k+1:=⟨fuel - 1,by omega⟩;have O:¬i<j:=by omega
  have U:Ad (FA F ((i:Int),(j:Int),xs)) (fun st=>st= .done xs):=by
   unfold FA;exact Ad.neg (show ¬(i:Int)<(j:Int) by omega) (Ad.intro rfl)
  obtain⟨st,hb,rfl⟩:=U;unfold iter;rw [hb];refine⟨xs,rfl,?_,K,rfl⟩;rw [reverseLoop,if_neg O]
 | succ m ah=>
  intro i j fuel xs hm ae aa hi ag ab K;obtain⟨fuel,rfl⟩:∃k,fuel=k+1:=⟨fuel - 1,by omega⟩;by_cases O:i<j
  ·have W:=aa O;have Z:i<xs.length:=by omega
   have U:Ad (FA F ((i:Int),(j:Int),xs)) (fun st=>st= .more (((i+1:Nat):Int),((j - 1:Nat):Int),(xs.set i xs[j]).set j xs[i])):=by
    unfold FA;refine Ad.pos (show(i:Int)<(j:Int) by omega) ?_;refine Ad.BC (m:=j) rfl W ?_;refine Ad.BC (m:=i) rfl Z ?_;refine Ad.A1 ((i+1:Nat):Int) (by simp) (by omega) (by omega) ?_;refine Ad.A1 ((j - 1:Nat):Int) (by simp;omega) (by omega) (by omega) ?_;exact Ad.intro rfl
   obtain⟨st,hb,rfl⟩:=U;unfold iter;rw [hb];refine(ah (i+1) (j - 1) fuel ((xs.set i xs[j]).set j xs[i]) (by omega) (by omega) (by simp;omega) (by simp;omega) (by simp;omega) (by simpa using ab) ((K.set (K.get W)).set (K.get Z))).mono ?_;rintro ys ⟨ai,aj,ak⟩;refine⟨?_,aj,by simpa using ak⟩;rw [ai,Gh Z W,reverseLoop.eq_def i j,if_pos O]
  ·have U:Ad (FA F ((i:Int),(j:Int),xs)) (fun st=>st= .done xs):=by
    unfold FA;exact Ad.neg (show ¬(i:Int)<(j:Int) by omega) (Ad.intro rfl)
   obtain⟨st,hb,rfl⟩:=U;unfold iter;rw [hb];refine⟨xs,rfl,?_,K,rfl⟩;rw [reverseLoop,if_neg O]
theorem QV{F a b:Nat}{xs:List PT}(U:2000<F)(W:a<b)(hb:b≤xs.length)(K:xs.length<1000)(O:KO xs):
  Ad (f182 F xs (a:Int) (b:Int)) (fun ys=>ys.toArray=reverseRange xs.toArray a b∧KO ys∧ys.length=xs.length):=by
 unfold f182 reverseRange;refine Ad.A1 ((b - 1:Nat):Int) (by omega) (by omega) (by omega) ?_;refine Ad.b (Rg (F:=F) (b - 1 - a) a (b - 1) F xs (by omega) (by omega) (by omega) (by omega) (by omega) K O) ?_;rintro ys h;exact⟨ys,rfl,h⟩
theorem QZ{F b q1:Nat}{xs:List PT}(q2:Int)(hb:b≤xs.length)(ah:xs.length<1000)(aa:KO xs):∀(m i fuel:Nat),b - i≤m→m<fuel→1≤i→
  Ad (iter (Gl F (b:Int) (((q1:Nat):Int),q2,xs)) fuel (i:Int)) (fun r=>r=((scanSorted AF xs.toArray b i:Nat):Int)):=by
 intro m
 induction m with
 | zero=>
  intro i fuel hm ag hi;obtain⟨fuel,rfl⟩:∃k,fuel=k+1:=⟨fuel - 1,by omega⟩;have K:¬i<b:=by omega
  have O:Ad (Gl F (b:Int) (((q1:Nat):Int),q2,xs) (i:Int)) (fun st=>st= .done (i:Int)):=by
   unfold Gl;refine Ad.b (S:=fun c=>c=false) (Ad.neg (by omega) (Ad.intro rfl)) ?_;rintro c rfl;exact Ad.neg (by simp) (Ad.intro rfl)
  obtain⟨st,U,rfl⟩:=O;unfold iter;rw [U];refine⟨_,rfl,?_⟩;rw [scanSorted,if_neg (by simp [K])]
 | succ m ab=>
  intro i fuel hm ag hi;obtain⟨fuel,rfl⟩:∃k,fuel=k+1:=⟨fuel - 1,by omega⟩;by_cases K:i<b
  ·have W:i<xs.length:=by omega
   have Z:i - 1<xs.length:=by omega
   have O:Ad (Gl F (b:Int) (((q1:Nat):Int),q2,xs) (i:Int)) (fun st=>st=if(!AF xs[i] xs[i-1])=true then .more ((i+1:Nat):Int) else .done (i:Int)):=by
    unfold Gl;refine Ad.b (S:=fun c=>c= !AF xs[i] xs[i-1]) ?_ ?_
    ·refine Ad.pos (by omega) ?_;refine Ad.BC (m:=i) rfl W ?_;refine Ad.A1 ((i - 1:Nat):Int) (by omega) (by omega) (by omega) ?_;refine Ad.BC (m:=i - 1) rfl Z ?_;refine Ad.be (Hv (aa.get W) (aa.get Z)) ?_;refine Ad.intro ?_;rw [← GV];exact decide_not
    ·rintro c rfl;refine Ad.ite (fun h=>?_) (fun h=>?_)
     ·refine Ad.A1 ((i+1:Nat):Int) (by simp) (by omega) (by omega) ?_;rw [if_pos h];exact Ad.intro rfl
     ·rw [if_neg h];exact Ad.intro rfl
   obtain⟨st,U,rfl⟩:=O;unfold iter;rw [U];have hs:scanSorted AF xs.toArray b i=if(!AF xs[i] xs[i-1])=true then scanSorted AF xs.toArray b (i+1) else i:=by
    rw [scanSorted.eq_def AF xs.toArray b i,Et W,Et Z];simp [K]
   by_cases ae:(!AF xs[i] xs[i-1])=true
   ·rw [if_pos ae] at hs ⊢;rw [hs];exact ab (i+1) fuel (by omega) (by omega) (by omega)
   ·rw [if_neg ae] at hs ⊢;exact⟨_,rfl,by rw [hs]⟩
  ·exact ab i (fuel+1) (by omega) (by omega) hi
theorem QE{F a b:Nat}{xs:List PT}(ab:2000<F)(ae:a<b)(ag:b<a+50)(hb:b≤xs.length)(O:xs.length<1000)(U:KO xs):
  f183 F xs (a:Int) (b:Int)=some ((partialInsertionSort AF xs.toArray a b).2,xs)∧(partialInsertionSort AF xs.toArray a b).1=xs.toArray:=by
 have e:partialInsertionSort AF xs.toArray a b=if scanSorted AF xs.toArray b (a+1)=b then(xs.toArray,true) else(xs.toArray,false):=by
  unfold partialInsertionSort partialIns;simp only;split
  ·rfl
  ·rw [if_pos (by omega)]
 have h:Ad (f183 F xs (a:Int) (b:Int)) (fun r=>r=((partialInsertionSort AF xs.toArray a b).2,xs)):=by
  unfold f183;refine Ad.A1 ((a+1:Nat):Int) (by simp) (by omega) (by omega) ?_;refine Ad.b (S:=fun r=>r=Sum.inl ((partialInsertionSort AF xs.toArray a b).2,xs)) ?_ ?_
  ·obtain⟨K,rfl⟩:∃k,F=k+1:=⟨F - 1,by omega⟩;have W:Ad (IQ (K+1) (a:Int) (b:Int) (((a+1:Nat):Int),0,xs)) (fun st=>st= .done (Sum.inl ((partialInsertionSort AF xs.toArray a b).2,xs))):=by
    unfold IQ;refine Ad.pos (show(0:Int)<5 by omega) ?_;refine Ad.b (QZ (F:=K+1) (q1:=a+1) 0 hb O U (b - (a+1)) (a+1) (K+1) (by omega) (by omega) (by omega)) ?_;rintro r rfl;rw [e];refine Ad.ite (fun h=>?_) (fun h=>?_)
    ·rw [if_pos (by omega)];exact Ad.intro rfl
    ·rw [if_neg (by omega)];refine Ad.A1 ((b - a:Nat):Int) (by omega) (by omega) (by omega) ?_;exact Ad.pos (by omega) (Ad.intro rfl)
   obtain⟨st,Z,rfl⟩:=W;unfold iter;rw [Z];exact⟨_,rfl,rfl⟩
  ·rintro r rfl;exact Ad.intro rfl
 obtain⟨r,aa,rfl⟩:=h;refine⟨aa,?_⟩;rw [e];split <;> rfl
end Pal
namespace Pal
open Go.Sort
theorem LI{body:Int→Option (A8 Int Int)}{d:Array PT}{p:PT→Bool}{j:Nat}(W:j<900)
  (h:∀i:Nat,i≤j+2→body (i:Int)=some (if(decide (i≤j)&&p d[i]!)=true then .more ((i+1:Nat):Int) else .done (i:Int))):
  ∀(m i fuel:Nat),j+1 - i≤m→m<fuel→i≤j+2→iter body fuel (i:Int)=some ((scanUp p d j i:Nat):Int):=by
 intro m
 induction m with
 | zero=>
  intro i fuel hm O hi;obtain⟨fuel,rfl⟩:∃k,fuel=k+1:=⟨fuel - 1,by omega⟩;have K:¬(decide (i≤j)&&p d[i]!)=true:=by simp;omega
  unfold iter;rw [h i hi,if_neg K,scanUp,if_neg K]
 | succ m U=>
  intro i fuel hm O hi;obtain⟨fuel,rfl⟩:∃k,fuel=k+1:=⟨fuel - 1,by omega⟩;unfold iter;rw [h i hi,scanUp];by_cases K:(decide (i≤j)&&p d[i]!)=true
  ·rw [if_pos K,if_pos K];have:i≤j:=by simp at K;exact K.1
   exact U (i+1) fuel (by omega) (by omega) (by omega)
  ·rw [if_neg K,if_neg K]
theorem Lo{body:Int→Option (A8 Int Int)}{d:Array PT}{p:PT→Bool}{i:Nat}(hi:1≤i){n:Nat}
  (h:∀j:Nat,j<n→body (j:Int)=some (if(decide (i≤j)&&p d[j]!)=true then .more ((j - 1:Nat):Int) else .done (j:Int))):
  ∀(j fuel:Nat),j<n→j<fuel→iter body fuel (j:Int)=some ((scanDown p d i j:Nat):Int):=by
 intro j
 induction j with
 | zero=>
  intro fuel O U;obtain⟨fuel,rfl⟩:∃k,fuel=k+1:=⟨fuel - 1,by omega⟩;have K:¬(decide (i≤0)&&p d[0]!)=true:=by simp;omega
  unfold iter;rw [h 0 O,if_neg K];rfl
 | succ j W=>
  intro fuel O U;obtain⟨fuel,rfl⟩:∃k,fuel=k+1:=⟨fuel - 1,by omega⟩;unfold iter;rw [h (j+1) O,scanDown];by_cases K:(decide (i≤j+1)&&p d[j+1]!)=true
  ·rw [if_pos K,if_pos K];exact W fuel (by omega) (by omega)
  ·rw [if_neg K,if_neg K]
theorem Ad.Ib{α:Type}{o:Option α}{a:α}(h:Ad o (fun x=>x=a)):o=some a:=by obtain⟨x,K,rfl⟩:=h;exact K
theorem MS{F a:Nat}{q2:Int}{j:Nat}{q1:Int}{ys:List PT}(K:a<ys.length)(Z:j<ys.length)(aa:ys.length<900)(W:KO ys)(i:Nat)(hi:i≤j+2):
  GW F (a:Int) (q1,(j:Int),ys) (i:Int)=some (if(decide (i≤j)&&AF ys.toArray[i]! ys.toArray[a]!)=true then .more ((i+1:Nat):Int) else .done (i:Int)):=by
 refine Ad.Ib ?_;unfold GW;refine Ad.b (S:=fun c=>c=(decide (i≤j)&&AF ys.toArray[i]! ys.toArray[a]!)) ?_ ?_
 ·refine Ad.ite (fun h=>?_) (fun h=>?_)
  ·have O:i≤j:=by simp at h;omega
   have U:i<ys.length:=by omega
   refine Ad.BC (m:=i) rfl U ?_;refine Ad.BC (m:=a) rfl K ?_;refine Ad.be (Hv (W.get U) (W.get K)) ?_;refine Ad.intro ?_;rw [GV,Et U,Et K];simp [O]
  ·have O:¬i≤j:=by simp at h;omega
   refine Ad.intro ?_;simp [O]
 ·rintro c rfl;refine Ad.ite (fun h=>?_) (fun h=>?_)
  ·refine Ad.A1 ((i+1:Nat):Int) (by simp) (by omega) (by omega) ?_;rw [if_pos h];exact Ad.intro rfl
  ·rw [if_neg h];exact Ad.intro rfl
theorem LS{F a i:Nat}{q1 q2:Int}{ys:List PT}(O:a<ys.length)(Z:ys.length<900)(W:KO ys)(hi:1≤i)(j:Nat)(U:j<ys.length):
  GQ F (a:Int) (q1,q2,ys) (i:Int) (j:Int)=some (if(decide (i≤j)&& !AF ys.toArray[j]! ys.toArray[a]!)=true then .more ((j - 1:Nat):Int) else .done (j:Int)):=by
 refine Ad.Ib ?_;unfold GQ;refine Ad.b (S:=fun c=>c=(decide (i≤j)&& !AF ys.toArray[j]! ys.toArray[a]!)) ?_ ?_
 ·refine Ad.ite (fun h=>?_) (fun h=>?_)
  ·have K:i≤j:=by omega
   refine Ad.BC (m:=j) rfl U ?_;refine Ad.BC (m:=a) rfl O ?_;refine Ad.be (Hv (W.get U) (W.get O)) ?_;refine Ad.intro ?_;rw [Et U,Et O,← GV,← decide_not];simp [K]
  ·have K:¬i≤j:=by omega
   refine Ad.intro ?_;simp [K]
 ·rintro c rfl;refine Ad.ite (fun h=>?_) (fun h=>?_)
  ·have K:i≤j:=by simp at h;exact h.1
   refine Ad.A1 ((j - 1:Nat):Int) (by omega) (by omega) (by omega) ?_;rw [if_pos h];exact Ad.intro rfl
  ·rw [if_neg h];exact Ad.intro rfl
theorem QW{F a b:Nat}(ay:2000<F)(az:a<b):∀(m i j fuel:Nat) (ys:List PT),j+1 - i≤m→m<fuel→a<i→i≤j+2→j<b→b≤ys.length→ys.length<900→KO ys→
  Ad (iter (Gj F (a:Int)) fuel ((i:Int),(j:Int),ys)) (fun r=>r.1=(((partLoop AF a i j ys.toArray).1:Nat):Int)∧r.2.toArray=(partLoop AF a i j ys.toArray).2∧KO r.2∧r.2.length=ys.length):=by
 intro m
 induction m with
 | zero=>?_
 | succ m al=>?_
 all_goals
  intro i j fuel ys hm aA aB am aC hb W U;obtain⟨fuel,rfl⟩:∃k,fuel=k+1:=⟨fuel - 1,by omega⟩;have ah:a<ys.length:=by omega
  have ai:j<ys.length:=by omega
  have Z:iter (GW F (a:Int) ((i:Int),(j:Int),ys)) F (i:Int)=some ((scanUp (fun x=>AF x ys.toArray[a]!) ys.toArray j i:Nat):Int):=
   LI (by omega) (fun an ao=>MS (q2:=0) ah ai W U an ao) (j+1 - i) i F (by omega) (by omega) am
  have ap:=scanUp_ge (fun x=>AF x ys.toArray[a]!) ys.toArray j i;have aq:=scanUp_spec (fun x=>AF x ys.toArray[a]!) ys.toArray j _ i rfl;have O:=partLoop_eq AF a i j ys.toArray;generalize aD:scanUp (fun x=>AF x ys.toArray[a]!) ys.toArray j i=i2 at Z ap aq O;have aa:iter (GQ F (a:Int) ((i:Int),(j:Int),ys) (i2:Int)) F (j:Int)=some ((scanDown (fun x=> !AF x ys.toArray[a]!) ys.toArray i2 j:Nat):Int):=
   Lo (n:=ys.length) (by omega) (fun ar au=>LS ah W U (by omega) ar au) j F ai (by omega)
  have hle:=scanDown_le (fun x=> !AF x ys.toArray[a]!) ys.toArray i2 j;generalize aE:scanDown (fun x=> !AF x ys.toArray[a]!) ys.toArray i2 j=K at aa hle O;by_cases aj:i2>K
  ·have ab:Gj F (a:Int) ((i:Int),(j:Int),ys)=some (.done ((K:Int),ys)):=by
    refine Ad.Ib ?_;unfold Gj;refine Ad.be Z ?_;refine Ad.be aa ?_;exact Ad.pos (by omega) (Ad.intro rfl)
   unfold iter;rw [ab];rw [if_pos aj] at O;exact⟨_,rfl,by rw [O],by rw [O],U,rfl⟩
  ·first
    | (exfalso;omega)
    | (
     have ae:i2<ys.length:=by omega
     have ag:K<ys.length:=by omega
     have ab:Gj F (a:Int) ((i:Int),(j:Int),ys)=some (.more (((i2+1:Nat):Int),((K - 1:Nat):Int),(ys.set i2 ys[K]).set K ys[i2])):=by
      refine Ad.Ib ?_
      unfold Gj
      refine Ad.be Z ?_
      refine Ad.be aa ?_
      refine Ad.neg (by omega) ?_
      refine Ad.BC (m:=K) rfl ag ?_
      refine Ad.BC (m:=i2) rfl ae ?_
      refine Ad.A1 ((i2+1:Nat):Int) (by simp) (by omega) (by omega) ?_
      refine Ad.A1 ((K - 1:Nat):Int) (by omega) (by omega) (by omega) ?_
      exact Ad.intro rfl
     unfold iter;rw [ab]
     rw [if_neg aj] at O
     refine(al (i2+1) (K - 1) fuel ((ys.set i2 ys[K]).set K ys[i2]) (by omega) (by omega) (by omega) (by omega) (by omega) (by simpa using hb) (by simpa using W) ((U.set (U.get ag)).set (U.get ae))).mono ?_
     rintro r ⟨k1,ak,av,aw⟩
     rw [Gh ae ag,← O] at k1 ak
     exact⟨k1,ak,av,by simpa using aw⟩)
theorem Qe{F a:Nat}{j p3:Nat}{xs ys:List PT}{K O:PT}(he:(xs.set a K).set p3 O=ys)(U:a<ys.length)(W:j<ys.length)(Z:ys.length<900)(aa:KO ys)(i:Nat)(hi:i≤j+2):
  Ht F xs (a:Int) (p3:Int) K O (j:Int) (i:Int)=some (if(decide (i≤j)&&AF ys.toArray[i]! ys.toArray[a]!)=true then .more ((i+1:Nat):Int) else .done (i:Int)):=by
 rw [← MS (F:=F) (q1:=0) (q2:=0) U W Z aa i hi];unfold Ht GW;simp only [Int.toNat_natCast,he]
theorem Pg{F a i p3:Nat}{xs ys:List PT}{K O:PT}(he:(xs.set a K).set p3 O=ys)(U:a<ys.length)(W:ys.length<900)(Z:KO ys)(hi:1≤i)(j:Nat)(aa:j<ys.length):
  Hw F xs (a:Int) (p3:Int) K O (i:Int) (j:Int)=some (if(decide (i≤j)&& !AF ys.toArray[j]! ys.toArray[a]!)=true then .more ((j - 1:Nat):Int) else .done (j:Int)):=by
 rw [← LS (F:=F) (q1:=0) (q2:=0) U W Z hi j aa];unfold Hw GQ;simp only [Int.toNat_natCast,he]
theorem OV(a:Nat):∀(n i j:Nat) (d:Array PT),j+1 - i≤n→(partLoop AF a i j d).1≤j:=by
  intro n
  induction n with
  | zero=>?_
  | succ n W=>?_
  all_goals
    intro i j d aa;have K:=partLoop_eq AF a i j d;have Z:=scanUp_ge (fun x=>AF x d[a]!) d j i;generalize ab:scanUp (fun x=>AF x d[a]!) d j i=i2 at Z K;have hle:=scanDown_le (fun x=> !AF x d[a]!) d i2 j;generalize ae:scanDown (fun x=> !AF x d[a]!) d i2 j=O at hle K;by_cases U:i2>O
    ·rw [K,if_pos U];exact hle
    ·first
        | (exfalso;omega)
        | (rw [K,if_neg U]
           have:=W (i2+1) (O - 1) (swp d i2 O) (by omega)
           omega)
theorem Qz{F a b pv:Nat}(ar:2000<F){xs:List PT}(aE:a≤pv)(aF:pv<b)(hb:b≤xs.length)(aG:xs.length<900)(ae:KO xs):
  Ad (f185 F xs (a:Int) (b:Int) (pv:Int)) (fun r=>r.1=(((partition AF xs.toArray a b pv).1:Nat):Int)∧r.2.1=(partition AF xs.toArray a b pv).2.1∧r.2.2.toArray=(partition AF xs.toArray a b pv).2.2∧KO r.2.2∧r.2.2.length=xs.length):=by
 have ag:a<xs.length:=by omega
 have ah:pv<xs.length:=by omega
 obtain⟨ys,W⟩:∃ys,(xs.set a xs[pv]).set pv xs[a]=ys:=⟨_,rfl⟩;have O:KO ys:=by rw [← W];exact(ae.set (ae.get ah)).set (ae.get ag)
 have ao:ys.length=xs.length:=by rw [← W];simp
 have au:ys.toArray=swp xs.toArray a pv:=by rw [← W,Gh ag ah]
 have aa:a<ys.length:=by omega
 have ap:b - 1<ys.length:=by omega
 unfold f185;refine Ad.BC (m:=pv) rfl ah ?_;refine Ad.BC (m:=a) rfl ag ?_;refine Ad.A1 ((a+1:Nat):Int) (by simp) (by omega) (by omega) ?_;refine Ad.A1 ((b - 1:Nat):Int) (by omega) (by omega) (by omega) ?_;have av:iter (Ht F xs (a:Int) (pv:Int) xs[pv] xs[a] ((b - 1:Nat):Int)) F ((a+1:Nat):Int)=some ((scanUp (fun x=>AF x ys.toArray[a]!) ys.toArray (b - 1) (a+1):Nat):Int):=
  LI (by omega) (fun aw ay=>Qe W aa ap (by omega) O aw ay) (b - 1+1 - (a+1)) (a+1) F (by omega) (by omega) (by omega)
 refine Ad.be av ?_;have az:=scanUp_ge (fun x=>AF x ys.toArray[a]!) ys.toArray (b - 1) (a+1);have U:partition AF xs.toArray a b pv=if scanUp (fun x=>AF x ys.toArray[a]!) ys.toArray (b - 1) (a+1)>scanDown (fun x=> !AF x ys.toArray[a]!) ys.toArray (scanUp (fun x=>AF x ys.toArray[a]!) ys.toArray (b - 1) (a+1)) (b - 1) then
   (scanDown (fun x=> !AF x ys.toArray[a]!) ys.toArray (scanUp (fun x=>AF x ys.toArray[a]!) ys.toArray (b - 1) (a+1)) (b - 1),true,swp ys.toArray (scanDown (fun x=> !AF x ys.toArray[a]!) ys.toArray (scanUp (fun x=>AF x ys.toArray[a]!) ys.toArray (b - 1) (a+1)) (b - 1)) a) else
   ((partLoop AF a (scanUp (fun x=>AF x ys.toArray[a]!) ys.toArray (b - 1) (a+1)+1) (scanDown (fun x=> !AF x ys.toArray[a]!) ys.toArray (scanUp (fun x=>AF x ys.toArray[a]!) ys.toArray (b - 1) (a+1)) (b - 1) - 1) (swp ys.toArray (scanUp (fun x=>AF x ys.toArray[a]!) ys.toArray (b - 1) (a+1)) (scanDown (fun x=> !AF x ys.toArray[a]!) ys.toArray (scanUp (fun x=>AF x ys.toArray[a]!) ys.toArray (b - 1) (a+1)) (b - 1)))).1,false,
    swp (partLoop AF a (scanUp (fun x=>AF x ys.toArray[a]!) ys.toArray (b - 1) (a+1)+1) (scanDown (fun x=> !AF x ys.toArray[a]!) ys.toArray (scanUp (fun x=>AF x ys.toArray[a]!) ys.toArray (b - 1) (a+1)) (b - 1) - 1) (swp ys.toArray (scanUp (fun x=>AF x ys.toArray[a]!) ys.toArray (b - 1) (a+1)) (scanDown (fun x=> !AF x ys.toArray[a]!) ys.toArray (scanUp (fun x=>AF x ys.toArray[a]!) ys.toArray (b - 1) (a+1)) (b - 1)))).2
     (partLoop AF a (scanUp (fun x=>AF x ys.toArray[a]!) ys.toArray (b - 1) (a+1)+1) (scanDown (fun x=> !AF x ys.toArray[a]!) ys.toArray (scanUp (fun x=>AF x ys.toArray[a]!) ys.toArray (b - 1) (a+1)) (b - 1) - 1) (swp ys.toArray (scanUp (fun x=>AF x ys.toArray[a]!) ys.toArray (b - 1) (a+1)) (scanDown (fun x=> !AF x ys.toArray[a]!) ys.toArray (scanUp (fun x=>AF x ys.toArray[a]!) ys.toArray (b - 1) (a+1)) (b - 1)))).1 a):=by
  rw [au];rfl
 generalize aH:scanUp (fun x=>AF x ys.toArray[a]!) ys.toArray (b - 1) (a+1)=i2 at az U ⊢;have aA:iter (Hw F xs (a:Int) (pv:Int) xs[pv] xs[a] (i2:Int)) F ((b - 1:Nat):Int)=some ((scanDown (fun x=> !AF x ys.toArray[a]!) ys.toArray i2 (b - 1):Nat):Int):=
  Lo (n:=ys.length) (by omega) (fun aB aC=>Pg W aa (by omega) O (by omega) aB aC) (b - 1) F ap (by omega)
 refine Ad.be aA ?_;have hle:=scanDown_le (fun x=> !AF x ys.toArray[a]!) ys.toArray i2 (b - 1);generalize aI:scanDown (fun x=> !AF x ys.toArray[a]!) ys.toArray i2 (b - 1)=K at hle U ⊢;have Z:K<ys.length:=by omega
 simp only [Int.toNat_natCast,W];refine Ad.ite (fun h=>?_) (fun h=>?_)
 ·have ai:i2>K:=by omega
  rw [if_pos ai] at U;refine Ad.BC (m:=a) rfl aa ?_;refine Ad.BC (m:=K) rfl Z ?_;refine Ad.intro ?_;rw [U];exact⟨rfl,rfl,Gh Z aa,(O.set (O.get aa)).set (O.get Z),by simp [ao]⟩
 ·have ai:¬i2>K:=by omega
  have aj:i2<ys.length:=by omega
  rw [if_neg ai] at U;refine Ad.BC (m:=K) rfl Z ?_;refine Ad.BC (m:=i2) rfl aj ?_;refine Ad.A1 ((i2+1:Nat):Int) (by simp) (by omega) (by omega) ?_;refine Ad.A1 ((K - 1:Nat):Int) (by omega) (by omega) (by omega) ?_;refine Ad.b (QW (F:=F) ar (show a<b by omega) (K - 1+1 - (i2+1)) (i2+1) (K - 1) F ((ys.set i2 ys[K]).set K ys[i2]) (by omega) (by omega) (by omega) (by omega) (by omega) (by simp;omega) (by simp;omega) ((O.set (O.get Z)).set (O.get aj))) ?_;rintro r ⟨k1,ak,ab,aq⟩;rw [Gh aj Z] at k1 ak;have aD:=OV a _ (i2+1) (K - 1) (swp ys.toArray i2 K) (Nat.le_refl _);obtain⟨aJ,al⟩:=r;simp only at k1 ak ab aq ⊢;subst k1;rw [← ak] at U;have hlen:al.length=ys.length:=by simpa using aq
  generalize (partLoop AF a (i2+1) (K - 1) (swp ys.toArray i2 K)).1=pm at aD U ⊢;have am:pm<al.length:=by omega
  have an:a<al.length:=by omega
  refine Ad.BC (m:=a) rfl an ?_;refine Ad.BC (m:=pm) rfl am ?_;refine Ad.intro ?_;rw [U];exact⟨rfl,rfl,Gh am an,(ab.set (ab.get an)).set (ab.get am),by simp [hlen,ao]⟩
end Pal
namespace Pal
open Go.Sort
theorem Rl(F:Nat):∀n:Nat,n<13→∃l,f163 F (Ca (n:Int))=some l:=by
 intro n K
 match n,K with
 | 0,_=>exact⟨_,rfl⟩
 | 1,_=>exact⟨_,rfl⟩
 | 2,_=>exact⟨_,rfl⟩
 | 3,_=>exact⟨_,rfl⟩
 | 4,_=>exact⟨_,rfl⟩
 | 5,_=>exact⟨_,rfl⟩
 | 6,_=>exact⟨_,rfl⟩
 | 7,_=>exact⟨_,rfl⟩
 | 8,_=>exact⟨_,rfl⟩
 | 9,_=>exact⟨_,rfl⟩
 | 10,_=>exact⟨_,rfl⟩
 | 11,_=>exact⟨_,rfl⟩
 | 12,_=>exact⟨_,rfl⟩
 | n+13,h=>omega
theorem PX(F:Nat):f163 F (Ca ((13:Nat):Int))=some 4:=rfl
def Is(xs:List PT)(d:Array PT)(ys:List PT):Prop:=ys.toArray=d∧KO ys∧ys.length=xs.length
theorem Lu{F a b:Nat}{l:Int}{xs:List PT}(K:2000<F)(O:a≤b)(ah:b≤a+12)(hb:b≤xs.length)(ai:xs.length<900)(U:KO xs):
  Ad (F4 F xs (a:Int) (b:Int) l) (Is xs (insertionSort AF xs.toArray a b)):=by
 unfold F4;refine Ad.b (S:=fun r=>∃ys,r=Sum.inl ys∧Is xs (insertionSort AF xs.toArray a b) ys) ?_ ?_
 ·obtain⟨W,rfl⟩:∃k,F=k+1:=⟨F - 1,by omega⟩;obtain⟨ys,Z,aa,ab,ae⟩:=M3 K hb (by omega) U O;have ag:Iu (W+1) xs (a:Int) (b:Int) l ()=some (.done (Sum.inl ys)):=by
   refine Ad.Ib ?_;unfold Iu;refine Ad.A1 ((b - a:Nat):Int) (by omega) (by omega) (by omega) ?_;refine Ad.pos (by omega) ?_;exact Ad.be Z (Ad.intro rfl)
  unfold iter;rw [ag];exact⟨_,rfl,ys,rfl,aa,ab,ae⟩
 ·rintro r ⟨ys,rfl,h⟩;exact Ad.intro h
theorem JC{F a b:Nat}{l:Int}{wb wp:Bool}{xs:List PT}(K:2000<F)(O:a≤b)(ae:b≤a+12)(hb:b≤xs.length)(ag:xs.length<900)(U:KO xs):
  Ad (Fa F l ((a:Int),(b:Int),wb,wp,xs)) (fun st=>∃ys,st= .done (Sum.inl ys)∧Is xs (insertionSort AF xs.toArray a b) ys):=by
 obtain⟨ys,W,Z,aa,ab⟩:=M3 K hb (by omega) U O;unfold Fa;refine Ad.b (S:=fun r=>r=Sum.inl ys) ?_ ?_
 ·refine Ad.A1 ((b - a:Nat):Int) (by dsimp only;omega) (by omega) (by omega) ?_;refine Ad.pos (by omega) ?_;exact Ad.be W (Ad.intro rfl)
 ·rintro r rfl;exact Ad.intro ⟨ys,rfl,Z,aa,ab⟩
theorem Pj{F n:Nat}{l:Int}{xs:List PT}(O:2000<F)(ab:n=xs.length)(ae:n≤12)(U:KO xs):
  Ad (f162 F xs 0 (n:Int) l) (Is xs (insertionSort AF xs.toArray 0 n)):=by
 unfold f162;refine Ad.b (S:=fun r=>∃ys,r=Sum.inl ys∧Is xs (insertionSort AF xs.toArray 0 n) ys) ?_ ?_
 ·obtain⟨K,rfl⟩:∃k,F=k+1:=⟨F - 1,by omega⟩;obtain⟨st,W,ys,rfl,Z⟩:=JC (F:=K+1) (a:=0) (b:=n) (l:=l) (wb:=true) (wp:=true) (xs:=xs) O (by omega) (by omega) (by omega) (by omega) U;have aa:Fa (K+1) l (0,(n:Int),true,true,xs)=some (.done (Sum.inl ys)):=W;unfold iter;rw [aa];exact⟨_,rfl,ys,rfl,Z⟩
 ·rintro r ⟨ys,rfl,h⟩;exact Ad.intro h
theorem Qa{S A:Type}{body:S→Option (A8 S A)}{F:Nat}{s s':S}(h:body s=some (.more s')){Q:A→Prop}(k:Ad (iter body F s') Q):Ad (iter body (F+1) s) Q:=by
 unfold iter;rw [h];exact k
theorem P8{S A:Type}{body:S→Option (A8 S A)}{F:Nat}{s:S}{Q:A→Prop}(h:Ad (body s) (fun st=>∃a,st= .done a∧Q a)):Ad (iter body (F+1) s) Q:=by
 obtain⟨st,K,a,rfl,O⟩:=h;unfold iter;rw [K];exact⟨a,rfl,O⟩
set_option maxHeartbeats 1000000 in
theorem QY{F:Nat}{xs:List PT}(bg:3000<F)(aM:xs.length=13)(ar:KO xs):
  Ad (f162 F xs 0 ((13:Nat):Int) 4) (Is xs (pdq AF xs.toArray 0 13 4 true true)):=by
 have aN:xs.toArray.size=13:=by simpa using aM
 obtain⟨s1,B1,bh,s2,bi,au,bj,bk⟩:=rd_facts (lt:=AF) (d:=xs.toArray) (a:=0) (b:=13) (limit:=4) (wb:=true) (wp:=true) IG partialInsertionSort_holds reverseRange_holds (by omega) (by rw [aN];omega) (.inl rfl);have av:¬(13 - 0≤12):=by omega
 have aF:=QN (F:=F) (a:=0) (b:=13) (xs:=xs) (by omega) (by omega) (by omega) (by omega) ar;have aO:choosePivot AF xs.toArray 0 13=(rd AF xs.toArray 0 13 4 true true).c:=rfl;rw [aO] at aF;generalize K:rd AF xs.toArray 0 13 4 true true=R at*;have aP:R.lim=4:=by rw [← K];rfl
 have aQ:R.c.2= .decreasing→R.d2=reverseRange xs.toArray 0 13∧R.pivot=(13 - 1) - (R.c.1 - 0)∧R.hint= .increasing:=by
  intro h;rw [← K] at h ⊢;exact rd_dec h
 have aR:R.c.2≠ .decreasing→R.d2=xs.toArray∧R.pivot=R.c.1∧R.hint=R.c.2:=by
  intro h;rw [← K] at h ⊢;exact rd_not h
 have aS:R.hint= .increasing→R.pi=partialInsertionSort AF R.d2 0 13:=by
  intro h;rw [← K] at h ⊢;exact rd_pi_yes (by simp [h])
 have aT:R.hint≠ .increasing→R.pi=(R.d2,false):=by
  intro h;rw [← K] at h ⊢;exact rd_pi_no (by simp [h])
 have aU:Ad (if F3 R.c.2=2 then(f182 F xs 0 ((13:Nat):Int)).bind fun aV=>(Ay (((13:Nat):Int) - 1)).bind fun aW=>(Ay (((R.c.1:Nat):Int) - 0)).bind fun aX=>(Ay (aW - aX)).bind fun aY=>some (aY,(1:Int),aV) else some (((R.c.1:Nat):Int),F3 R.c.2,xs))
   (fun q=>q.1=((R.pivot:Nat):Int)∧q.2.1=F3 R.hint∧Is xs R.d2 q.2.2):=by
  by_cases ak:R.c.2= .decreasing
  ·obtain⟨ag,ah,Z⟩:=aQ ak;refine Ad.pos (by rw [ak];rfl) ?_;refine Ad.b (QV (F:=F) (a:=0) (b:=13) (xs:=xs) (by omega) (by omega) (by omega) (by omega) ar) ?_;rintro ys ⟨k1,U,W⟩;refine Ad.A1 12 (by omega) (by omega) (by omega) ?_;refine Ad.A1 ((R.c.1:Nat):Int) (by omega) (by omega) (by omega) ?_;refine Ad.A1 ((12 - R.c.1:Nat):Int) (by omega) (by omega) (by omega) ?_;refine Ad.intro ⟨?_,?_,?_,U,W⟩
   ·rw [ah];rfl
   ·rw [Z];rfl
   ·rw [ag];exact k1
  ·obtain⟨ag,ah,Z⟩:=aR ak;refine Ad.neg (by intro h;cases aw:R.c.2 <;> rw [aw] at h ak <;> first | (exact ak rfl) | (cases h)) ?_
   refine Ad.intro ⟨?_,?_,?_,ar,rfl⟩
   ·rw [ah]
   ·rw [Z]
   ·rw [ag]
 unfold f162;refine Ad.b (S:=fun r=>∃ys,r=Sum.inl ys∧Is xs (pdq AF xs.toArray 0 13 4 true true) ys) ?_ (by rintro r ⟨ys,rfl,h⟩;exact Ad.intro h);have aZ:∀(aa:List PT),Is xs R.pi.1 aa→R.pi.2=false→
   Ad ((f185 F aa 0 ((13:Nat):Int) ((R.pivot:Nat):Int)).bind fun O=>(Ay (O.1 - 0)).bind fun aG=>(Ay (((13:Nat):Int) - O.1)).bind fun aH=>(Fo (13:Int) (8)).bind fun aI=>
     Option.bind (
      if aG<aH then(
       (F4 F O.2.2 0 O.1 4).bind fun a0=>
       (Ay (O.1+1)).bind fun a1=>
       some (a1,((13:Nat):Int),decide (aI≤aG),a0)
      ) else(
       (Ay (O.1+1)).bind fun a2=>
       (F4 F O.2.2 a2 ((13:Nat):Int) 4).bind fun a3=>
       some ((0:Int),O.1,decide (aI≤aH),a3)
      )
     ) fun ao=>
     some (ao.1,ao.2.1,ao.2.2.1,O.2.1,ao.2.2.2))
    (fun st=>Ad (Fa F 4 st) (fun q=>∃a,q= .done a∧∃ys,a=Sum.inl ys∧Is xs (pdq AF xs.toArray 0 13 4 true true) ys)):=by
  intro aa a4 aJ;obtain⟨z1,a5,bl⟩:=a4;have bm:aa.length=13:=by omega
  refine Ad.b (Qz (F:=F) (a:=0) (b:=13) (pv:=R.pivot) (xs:=aa) (by omega) (by omega) au.2 (by omega) (by omega) a5) ?_;rw [z1];have ab:=partition_holds AF IG R.pi.1 0 13 R.pivot au.1 au.2 (by omega);have al:=fun ay=>pdq_left (lt:=AF) (d:=xs.toArray) (a:=0) (b:=13) (limit:=4) (wb:=true) (wp:=true) av (by omega) (by rw [K];exact aJ) (by simp) (by rw [K];exact⟨ab.1,ab.2.1⟩) ay;have am:=fun ay=>pdq_right (lt:=AF) (d:=xs.toArray) (a:=0) (b:=13) (limit:=4) (wb:=true) (wp:=true) av (by omega) (by rw [K];exact aJ) (by simp) (by rw [K];exact⟨ab.1,ab.2.1⟩) ay;rw [K] at al am;rw [aP] at al am;generalize partition AF R.pi.1 0 13 R.pivot=PA at ab al am ⊢;obtain⟨m,bn,d4⟩:=PA;rintro⟨bo,a6,ae⟩ ⟨k1,U,W,az,a7⟩;simp only at k1 U W az a7 ab al am ⊢;subst k1 U;have hm:m<13:=ab.2.1;have bp:ae.length=13:=by omega
  refine Ad.A1 (m:Int) (by omega) (by omega) (by omega) ?_;refine Ad.A1 ((13 - m:Nat):Int) (by omega) (by omega) (by omega) ?_;refine Ad.be (b:=1) rfl ?_;by_cases aK:m - 0<13 - m
  ·refine Ad.b (S:=fun q=>∃us,q=(((m+1:Nat):Int),((13:Nat):Int),decide ((1:Int)≤(m:Int)),us)∧Is ae (insertionSort AF ae.toArray 0 m) us) ?_ ?_
   ·refine Ad.pos (by omega) ?_;refine Ad.b (Lu (F:=F) (a:=0) (b:=m) (l:=4) (xs:=ae) (by omega) (by omega) (by omega) (by omega) (by omega) az) ?_;intro us aA;refine Ad.A1 ((m+1:Nat):Int) (by simp) (by omega) (by omega) ?_;exact Ad.intro ⟨us,rfl,aA⟩
   ·rintro q ⟨us,rfl,u1,aB,a8⟩;refine Ad.intro ?_;refine(JC (F:=F) (a:=m+1) (b:=13) (l:=4) (xs:=us) (by omega) (by omega) (by omega) (by omega) (by omega) aB).mono ?_;rintro st ⟨ys,rfl,v1,v2,a9⟩;refine⟨_,rfl,ys,rfl,?_,v2,by omega⟩;rw [v1,u1,W,al aK,pdq_small (by omega),pdq_small (by omega)]
  ·refine Ad.b (S:=fun q=>∃us,q=((0:Int),(m:Int),decide ((1:Int)≤((13 - m:Nat):Int)),us)∧Is ae (insertionSort AF ae.toArray (m+1) 13) us) ?_ ?_
   ·refine Ad.neg (by omega) ?_;refine Ad.A1 ((m+1:Nat):Int) (by simp) (by omega) (by omega) ?_;refine Ad.b (Lu (F:=F) (a:=m+1) (b:=13) (l:=4) (xs:=ae) (by omega) (by omega) (by omega) (by omega) (by omega) az) ?_;intro us aA;exact Ad.intro ⟨us,rfl,aA⟩
   ·rintro q ⟨us,rfl,u1,aB,a8⟩;refine Ad.intro ?_;have:=JC (F:=F) (a:=0) (b:=m) (l:=4) (wb:=decide ((1:Int)≤((13 - m:Nat):Int))) (wp:=a6) (xs:=us) (by omega) (by omega) (by omega) (by omega) (by omega) aB;refine Ad.mono this ?_;rintro st ⟨ys,rfl,v1,v2,a9⟩;refine⟨_,rfl,ys,rfl,?_,v2,by omega⟩;rw [v1,u1,W,am aK,pdq_small (by omega),pdq_small (by omega)]
 have ba:Ad (Fa F 4 (0,((13:Nat):Int),true,true,xs)) (fun st=>(∃a,st= .done a∧∃ys,a=Sum.inl ys∧Is xs (pdq AF xs.toArray 0 13 4 true true) ys)∨
   ∃s',st= .more s'∧Ad (Fa F 4 s') (fun q=>∃a,q= .done a∧∃ys,a=Sum.inl ys∧Is xs (pdq AF xs.toArray 0 13 4 true true) ys)):=by
  unfold Fa;refine Ad.b (S:=fun r=>(∃ys,r=Sum.inl ys∧Is xs (pdq AF xs.toArray 0 13 4 true true) ys)∨∃s',r=Sum.inr s'∧Ad (Fa F 4 s') (fun q=>∃a,q= .done a∧∃ys,a=Sum.inl ys∧Is xs (pdq AF xs.toArray 0 13 4 true true) ys)) ?_ ?_
  ·refine Ad.A1 13 (by dsimp only;omega) (by omega) (by omega) ?_;refine Ad.neg (by omega) ?_;refine Ad.neg (by omega) ?_;refine Ad.b (S:=fun _=>True) (Ad.neg (by simp) (Ad.intro trivial)) fun _ _=>?_;refine Ad.be aF ?_;refine Ad.b aU ?_;rintro⟨q1,q2,ai⟩ ⟨ag,ah,Z⟩;simp only at ag ah Z ⊢;subst ag ah;refine Ad.be (b:=true) (by simp) ?_;refine Ad.be (b:=decide (F3 R.hint=1)) (by simp) ?_;have bb:Ad (if(decide (F3 R.hint=1))=true then(f183 F ai 0 ((13:Nat):Int)).bind fun aC=>if aC.1=true then some (Sum.inl aC.2) else some (Sum.inr aC.2) else some (Sum.inr ai))
     (fun r=>(R.pi.2=true∧∃ys,r=Sum.inl ys∧Is xs R.pi.1 ys)∨(R.pi.2=false∧∃ys,r=Sum.inr ys∧Is xs R.pi.1 ys)):=by
    by_cases hh:R.hint= .increasing
    ·refine Ad.pos (by rw [hh];rfl) ?_;obtain⟨k1,U,W⟩:=Z;obtain⟨aD,ap⟩:=QE (F:=F) (a:=0) (b:=13) (xs:=ai) (by omega) (by omega) (by omega) (by omega) (by omega) U;rw [k1] at aD ap;rw [← aS hh] at aD ap;refine Ad.be aD ?_;refine Ad.ite (fun h=>?_) (fun h=>?_)
     ·exact Ad.intro (.inl ⟨h,ai,rfl,by rw [ap];exact k1,U,W⟩)
     ·exact Ad.intro (.inr ⟨by simpa using h,ai,rfl,by rw [ap];exact k1,U,W⟩)
    ·refine Ad.neg (by intro h;cases aw:R.hint <;> rw [aw] at h hh <;> first | (exact hh rfl) | (simp [F3] at h)) ?_
     rw [aT hh];exact Ad.intro (.inr ⟨rfl,ai,rfl,Z⟩)
   refine Ad.b bb ?_;rintro r (⟨p2,ys,rfl,aE⟩ | ⟨p2,aa,rfl,bc⟩)
   ·refine Ad.intro (.inl ⟨ys,rfl,?_⟩);rw [pdq_done av (by omega) (by rw [K];exact p2),K];exact aE
   ·rw [Sum.elim_inr];refine Ad.b (S:=fun c=>c=false) (Ad.neg (by omega) (Ad.intro rfl)) ?_;rintro c rfl;refine Ad.neg (by simp) ?_;obtain⟨s',aj,an⟩:=aZ aa bc p2;have bq:∀{α β:Type} (o:Option α) (f:α→Option β) (g:β→(List PT)⊕(Int×Int×Bool×Bool×List PT)),True:=fun _ _ _=>trivial;refine Ad.of_eq (a:=Sum.inr s') ?_ (.inr ⟨s',rfl,an⟩);have key:∀(o:Option (Int×Int×Bool×Bool×List PT)),o=some s'→(o.bind fun x=>some (Sum.inr x:List PT⊕(Int×Int×Bool×Bool×List PT)))=some (Sum.inr s'):=fun o bd=>by rw [bd];rfl
    refine Eq.trans ?_ (key _ aj);simp only [Option.bind_assoc,Option.bind_some]
  ·rintro r (⟨ys,rfl,aE⟩ | ⟨s',rfl,bf⟩)
   ·exact Ad.intro (.inl ⟨_,rfl,ys,rfl,aE⟩)
   ·exact Ad.intro (.inr ⟨s',rfl,bf⟩)
 obtain⟨br,aL⟩:∃k,F=k+2:=⟨F - 2,by omega⟩;obtain⟨st,aj,an | an⟩:=ba
 ·obtain⟨a,rfl,aq⟩:=an;rw [aL] at aj ⊢;unfold iter;rw [aj];exact⟨a,rfl,aq⟩
 ·obtain⟨s',rfl,aq⟩:=an;rw [aL] at aj aq ⊢;exact Qa aj (P8 aq)
end Pal
namespace Pal
open Go Go.Conc Go.Proofs
open Go.Proofs.Tryz
variable {J:Judge Tryz.prog}{E:LH}
def Mk(fuel:Nat)(p1:Int)(K:Int)(U:Unit):Option (A8 (Unit) (Unit)):=
 Option.bind (
  if p1<K then(
   none
  ) else(
   some false
  )
 ) fun O=>
 if O=true then(
  (Ay (K - 1)).bind fun W=>
  (Ay (K - 1)).bind fun Z=>
  none
 ) else(
  some (.done ())
 )
def Mn(fuel:Nat)(p1:Int)(p2:Int)(K:Int):Option (A8 (Int) (Unit)):=
 if K<p2 then(
  Option.bind (iter (Mk fuel p1 K) fuel ()) fun U=>
  (Ay (K+1)).bind fun O=>
  some (.more O)
 ) else(
  some (.done ())
 )
def KG(fuel:Nat)(p1:Int)(p2:Int):Option (Unit):=
 (Ay (p1+1)).bind fun K=>
 Option.bind (iter (Mn fuel p1 p2) fuel K) fun O=>
 some ()
theorem QD{p1:Int}{p2:Int}{fuel:Nat}{r:Unit}(ai:KG fuel p1 p2=some r):As J 178 [.slice none 0 0,iV p1,iV p2,(.func (.func 134) #[] #[])] E [] (fun w E' B'=>w= .tuple #[]∧B'= []):=by
 refine As.en func178 rfl rfl fun Q a5 cs H ar au=>?_;unfold KG at ai;obtain⟨av,aw,ay⟩:=bs ai;refine zg 3 rfl ?_;refine JL.Y rfl (fun ρ h=>Yl.A6 (h _ _ rfl) (h _ _ rfl) aw) ?_;obtain⟨a6,az,aA⟩:=bs ay;refine zg 2 rfl ?_;refine JL.join (fun L s=>∃(aj:LH),Jm E H aj [] [] L s) ?_ ?_
 ·rintro _ _ ⟨aj,rfl,rfl,aB,aC⟩;obtain rfl:=oi aA;refine JL.fin (v:= .tuple #[]) rfl rfl (Bv.list func178 rfl (vs:= []) trivial) ?_;exact au _ _ _ _ aB rfl ⟨rfl,rfl⟩ aC
 ·intro aD;refine JL.block ?_;refine JL.wk [(0,.slice none 0 0),(1,iV p1),(2,iV p2),(3,(.func (.func 134) #[] #[])),(8,iV av)] rfl ?_;refine JL.Bq az (fun L s K=>∃(O:LH),Jm E H O [] [(0,.slice none 0 0),(1,iV p1),(2,iV p2),(3,(.func (.func 134) #[] #[])),(8,iV K)] L s) ⟨E,rfl,rfl,(Le.refl _),ar⟩ ?_;rintro _ _ K ⟨O,rfl,rfl,ak,al⟩ aE ⟨a7,W⟩ aF;have Z:=W;unfold Mn at Z;refine zg 7 rfl ?_;refine JL.ifs (p:=K<p2) rfl (fun aa=>?_) (fun aa=>?_)
  ·have aG:=ip Z aa;obtain⟨a8,aH,aI⟩:=bs aG;refine zg 8 rfl ?_;refine JL.join (fun L s=>∃(ab:LH),Jm O H ab [] [(0,.slice none 0 0),(1,iV p1),(2,iV p2),(3,(.func (.func 134) #[] #[])),(8,iV K)] L s) ?_ ?_
   ·rintro _ _ ⟨ab,rfl,rfl,aJ,aK⟩;obtain⟨aL,aM,aN⟩:=bs aI;refine zg 3 rfl ?_;refine JL.Y rfl (fun ρ h=>Yl.A6 (h _ _ rfl) (h _ _ rfl) aM) ?_;refine zg 2 rfl ?_;obtain rfl:=oi aN;exact JL.kw (aF _ _ aL ⟨ab,rfl,rfl,(ak.trans aJ),aK⟩ W) rfl
   ·intro aO;refine JL.block ?_;refine JL.wk [(0,.slice none 0 0),(1,iV p1),(2,iV p2),(3,(.func (.func 134) #[] #[])),(8,iV K),(9,iV K)] rfl ?_;refine JL.Bq aH (fun L s aP=>∃(U:LH),Jm O H U [] [(0,.slice none 0 0),(1,iV p1),(2,iV p2),(3,(.func (.func 134) #[] #[])),(8,iV K),(9,iV K)] L s) ⟨O,rfl,rfl,(Le.refl _),al⟩ ?_;rintro _ _ aP ⟨U,rfl,rfl,aQ,aR⟩ aS ⟨a9,am⟩ ba;have an:=am;unfold Mk at an;refine zg 2 rfl ?_;refine JG.Dm 17 mixed rfl (by decide+kernel) fun ht=>?_;refine JG.ms ht rfl [0,1,2,3] rfl ?_;obtain⟨ao,ap,aq⟩:=bs an;refine Au.join 0 #[true,true,true,true,true,true,true,true,true,true,true,true,true,true,true,true,true] (fun L s=>∃(ae:LH),Jm U H ae [] [(0,.slice none 0 0),(1,iV p1),(2,iV p2),(3,(.func (.func 134) #[] #[])),(8,iV K),(9,iV K),(34,.bool ao)] L s) ?_ ?_
    ·rintro _ _ ⟨ae,rfl,rfl,aT,aU⟩;refine Au.fin (by decide+kernel) ?_;refine JL.split (t:=ao) rfl (fun ag=>?_) (fun ag=>?_)
     ·have aV:=ip aq ag;refine zg 3 rfl ?_;refine JG.Dm 16 mixed rfl (by decide+kernel) fun ht=>?_;refine JG.ms ht rfl [0,1,2,3] rfl ?_;obtain⟨bb,aW,aX⟩:=bs aV;refine JG.V 4 ht rfl rfl (fun ρ h s' hs=>Yl.Ba (h _ _ rfl) (h _ _ rfl) aW) ?_;refine JG.ms ht rfl [5,6] rfl ?_;obtain⟨bc,aY,aZ⟩:=bs aX;refine JG.V 7 ht rfl rfl (fun ρ h s' hs=>Yl.Ba (h _ _ rfl) (h _ _ rfl) aY) ?_;cases aZ
     ·have a0:=ib aq ag;refine JL.exit rfl ?_;obtain rfl:=oi a0;obtain rfl:=aS _ am;exact JL.kw (aO _ _ ⟨ae,rfl,rfl,(aQ.trans aT),aU⟩) rfl
    ·intro a1;refine Au.Cm (q:=p1<K) (i:=21) rfl (fun ah=>?_) (fun ah=>?_)
     ·have a2:=ip ap ah;refine JG.ms ht rfl [4,5,6] rfl ?_;cases a2
     ·have a3:=im ap ah;refine JG.ms ht rfl [4,5,6,7,8,9,10,11,12,13,14,15,16] rfl ?_;obtain rfl:=oi a3;refine Au.Cc ?_ (a1 _ _ ⟨U,rfl,rfl,(Le.refl _),aR⟩);exact⟨rfl,rfl,rfl,rfl,rfl,rfl,rfl,trivial⟩
  ·have a4:=im Z aa;refine JL.exit rfl ?_;obtain rfl:=oi a4;obtain rfl:=aE _ W;exact JL.kw (aD _ _ ⟨O,rfl,rfl,ak,al⟩) rfl
def Ml(fuel:Nat)(p1:Int)(p2:Int)(p3:Int)(O:Unit):Option (A8 (Unit) ((Unit)⊕(Unit))):=
 (Ay (p2 - p1)).bind fun K=>
 if K≤12 then(
  (KG fuel p1 p2).bind fun U=>
  some (.done (Sum.inl ()))
 ) else(
  if p3=0 then(
   none
  ) else(
   none
  )
 )
def KF(fuel:Nat)(p1:Int)(p2:Int)(p3:Int):Option (Unit):=
 Option.bind (iter (Ml fuel p1 p2 p3) fuel ()) fun K=>
 Sum.elim (fun r=>some r) (fun O=>
 none
 ) K
theorem Rh{p1:Int}{p2:Int}{p3:Int}{fuel:Nat}{r:Unit}(U:KF fuel p1 p2 p3=some r):As J 162 [.slice none 0 0,iV p1,iV p2,iV p3,(.func (.func 134) #[] #[])] E [] (fun w E' B'=>w= .tuple #[]∧B'= []):=by
 refine As.en func162 rfl rfl fun Q aC cs H ag ah=>?_;unfold KF at U;obtain⟨aD,ai,aj⟩:=bs U;refine zg 8 rfl ?_;refine JL.join (fun L s=>False) ?_ ?_
 ·intro _ _ ak;exact ak.elim
 ·intro aE;refine JL.block ?_;refine JL.wk [(0,.slice none 0 0),(1,iV p1),(2,iV p2),(3,iV p3),(4,(.func (.func 134) #[] #[])),(10,.bool true),(11,.bool true)] rfl ?_;refine JL.Bq ai (fun L s al=>∃(W:LH),Jm E H W [] [(0,.slice none 0 0),(1,iV p1),(2,iV p2),(3,iV p3),(4,(.func (.func 134) #[] #[])),(10,.bool true),(11,.bool true)] L s) ⟨E,rfl,rfl,(Le.refl _),ag⟩ ?_;rintro _ _ al ⟨W,rfl,rfl,am,an⟩ ao ⟨aF,Z⟩ aG;have aa:=Z;unfold Ml at aa;obtain⟨ap,aq,ab⟩:=bs aa;refine zg 5 rfl ?_;refine JL.Y rfl (fun ρ h=>Yl.Ba (h _ _ rfl) (h _ _ rfl) aq) ?_;refine zg 8 rfl ?_;refine JL.ifs (p:=ap≤12) rfl (fun K=>?_) (fun K=>?_)
  ·have ar:=ip ab K;obtain⟨aH,au,av⟩:=bs ar;refine zg 6 rfl ?_;refine JS.cl (QD au) rfl rfl (Aw func178 rfl) an ?_;rintro _ aI _ aw ⟨rfl,rfl⟩ ay;refine JL.done ?_;obtain rfl:=oi av;obtain rfl:=ao _ Z;have az:=elim_inl aj;obtain rfl:=oi az;refine JL.rt func162 rfl rfl ?_;exact ah _ _ _ _ (am.trans aw) rfl ⟨rfl,rfl⟩ ay
  ·have ae:=im ab K;refine zg 7 rfl ?_;refine JL.ifs (p:=p3=0) rfl (fun O=>?_) (fun O=>?_)
   ·have aA:=ip ae O;refine zg 6 rfl ?_;cases aA
   ·have aB:=im ae O;refine zg 5 rfl ?_;refine JL.Y (v:= .bool false) rfl (fun ρ h=>Yl.not (c:=true) (h _ _ rfl)) ?_;refine zg 9 rfl ?_;cases aB
def Oe(fuel:Nat):Option (Unit):=
 (f163 fuel (Ca ((0:Nat):Int))).bind fun K=>
 (KF fuel 0 ((0:Nat):Int) K).bind fun O=>
 some ()
theorem Rn{fuel:Nat}{r:Unit}(K:Oe fuel=some r):As J 133 [.slice none 0 0,(.func (.func 134) #[] #[])] E [] (fun w E' B'=>w= .tuple #[]∧B'= []):=by
 refine As.en func133 rfl rfl fun Q aj cs H O U=>?_;unfold Oe at K;refine zg 3 rfl ?_;refine JL.Y rfl (fun ρ h=>Yl.len rfl underlying130 (h _ _ rfl)) ?_;refine zg 6 rfl ?_;refine JL.Y (v:= .int .u64 ((Ca ((0:Nat):Int):Nat):Int)) rfl (fun ρ h=>Yl.Ca underlying3 underlying156 (h _ _ rfl)) ?_;obtain⟨ak,W,Z⟩:=bs K;refine JS.cl (NH W) rfl rfl (Aw func163 rfl) O ?_;rintro _ al _ aa ⟨rfl,rfl⟩ ab;obtain⟨am,ae,ag⟩:=bs Z;refine zg 1 rfl ?_;refine JS.cl (Rh ae) rfl rfl (Aw func162 rfl) ab ?_;rintro _ an _ ah ⟨rfl,rfl⟩ ai;refine JL.done ?_;obtain rfl:=oi ag;refine JL.fin (v:= .tuple #[]) rfl rfl (Bv.list func133 rfl (vs:= []) trivial) ?_;exact U _ _ _ _ (aa.trans ah) rfl ⟨rfl,rfl⟩ ai
end Pal
namespace Pal
open Go Go.Conc Go.Proofs Go.Sort
theorem Px:∀(ys K:List PT),K.Perm ys→ys.Pairwise (fun p q=>p.1<q.1)→K.Pairwise (fun p q=>p.1≤q.1)→K=ys:=by
 intro ys
 induction ys with
 | nil=>intro K h _ _;exact h.eq_nil
 | cons y ys aa=>
  intro K h O U;cases K with
  | nil=>exact absurd h.symm.eq_nil (by simp)
  | cons z K=>
   rw [List.pairwise_cons] at O U;have W:z∈y::ys:=h.mem_iff.1 (by simp);have Z:y∈z::K:=h.mem_iff.2 (by simp);have e:z=y:=by
    rcases List.mem_cons.1 W with e | W
    ·exact e
    ·rcases List.mem_cons.1 Z with e | Z
     ·exact e.symm
     ·have:=O.1 z W;have:=U.1 y Z;omega
   subst e;rw [aa K ((List.perm_cons z).1 h) O.2 U.2]
theorem Rb{F:Nat}{xs ys:List PT}(aj:3000<F)(ar:xs.length≤13)(aa:KO xs)(ak:ys.Perm xs)(hs:ys.Pairwise (fun p q=>p.1<q.1)):f133 F xs=some ys:=by
 have fin:∀(d:Array PT) (K:List PT),PermIn 0 xs.toArray.size xs.toArray d→SortedIn AF 0 xs.toArray.size d→K.toArray=d→K=ys:=by
  rintro d K ab al rfl;have ae:K.Perm xs:=by
   have ag:=ab.2.2;have O:=ab.1;simp only [List.size_toArray] at O ag;have am:(K.toArray.extract 0 xs.length).toList=K:=by simp [← O]
   have an:(xs.toArray.extract 0 xs.length).toList=xs:=by simp
   rwa [am,an] at ag
  refine Px ys K (ae.trans ak.symm) hs ?_;rw [List.pairwise_iff_getElem];intro i j hi ah ao;have h:=al i j (Nat.zero_le _) ao (by simpa using (ae.length_eq▸ah));rw [Et hi,Et ah] at h;simpa [AF] using h
 have h:Ad (f133 F xs) (fun K=>K=ys):=by
  unfold f133;rcases Nat.lt_or_ge xs.length 13 with ai | ai
  ·obtain⟨l,O⟩:=Rl F xs.length ai;refine Ad.be O ?_;refine Ad.b (Pj (F:=F) (n:=xs.length) (l:=l) (by omega) rfl (by omega) aa) ?_;rintro K ⟨k1,ap,aq⟩;obtain⟨W,Z⟩:=insertionSort_holds IG xs.toArray 0 xs.length (Nat.zero_le _) (by simp);exact Ad.intro (fin _ K (by simpa using W) (by simpa using Z) k1)
  ·have U:xs.length=13:=by omega
   refine Ad.be (b:=4) (by rw [U];exact PX F) ?_;rw [U];refine Ad.b (QY (F:=F) (xs:=xs) aj U aa) ?_;rintro K ⟨k1,ap,aq⟩;obtain⟨W,Z⟩:=pdq_sorts AF IG xs.toArray 0 13 4 true true (Nat.zero_le _) (by simp [U]) (.inl rfl);have e:xs.toArray.size=13:=by simpa using U
   exact Ad.intro (fin _ K (by rw [e];exact W) (by rw [e];exact Z) k1)
 obtain⟨K,O,rfl⟩:=h;exact O
theorem RN{J:Judge Tryz.prog}{E:LH}{a:Option Addr}{c:Nat}{g:Seg}{xs ys:List PT}(U:xs.length≤13)(W:KO xs)(O:ys.Perm xs)(hs:ys.Pairwise (fun p q=>p.1<q.1))(Z:OL 133 (rP rI (rP rI (rL (rP rI (rP (rL rI) (rN .u16)))))) E a c g xs):
  As J 133 [.slice a xs.length c,.func (.func 134) #[] #[]] E g (fun w E' B'=>w= .tuple #[]∧OL 133 (rP rI (rP rI (rL (rP rI (rP (rL rI) (rN .u16)))))) E' a c B' ys):=by
 rcases Z.cases with⟨rfl,rfl,rfl,rfl⟩ | ⟨ab,f,rfl,rfl,hW⟩
 ·obtain rfl:ys= []:=O.eq_nil;refine(Rn (fuel:=10) (r:=()) rfl).mono ?_;rintro w E' B' hle ⟨K,rfl⟩;exact⟨K,OL.nil⟩
 ·refine(RF hW (fuel:=4000) (Rb (by omega) U W O hs)).mono ?_;rintro w E' B' hle ⟨ae,K,rfl,aa⟩;exact⟨K,aa.1⟩
end Pal
namespace Pal
open Go Go.Conc Go.Proofs
open Go.Proofs.Tryz
open Go.Conc.Lib Go.ConcR.Gen
def CE(qs:Nat→Int×List (Bz)):List (AZ):=((List.range 13).filter (fun j=>decide (0<(qs j).2.length))).map (partOf qs)
theorem QO
  {E:LH} {k1 ag:Nat} {ar au ah:Ar} {av aw ai:Nat} {ay:List Value} {U:Br} {ab:AT} (aj:At E k1 ag (([.slice ar (U.1).length av,.slice au (U.2.1).length aw]:List Value)++ay)) (aD:Ao (rL rI) E ar av (U.1)) (aE:Ao (rL rI) E au aw (U.2.1)) (aF:(rA 13 (rN .u16)).r E ay (U.2.2)) (aG:Ao Bl E ah ai ab) {fuel:Nat} {qs:Nat→Int×List (Bz)} (aH:∀j,j<13→Ez fuel U ab ((j:Nat):Int)=some (qs j)):
  As (CC Tryz.prog) 102 [.pointer (some ⟨k1,ag,none⟩),.slice ah ab.length ai] E [] (fun w E' B'=>∃a c,w= .slice a (CE qs).length c∧B'= []∧Ao BL E' a c (CE qs)):=by
 refine As.en func102 rfl rfl fun Q bk cs H aI aJ=>?_;refine zg 2 rfl ?_;refine JS.box (v:= .pointer (some ⟨k1,ag,none⟩)) rfl rfl rfl aI rfl fun aK aL=>?_;refine JS.Bo 1 aL rfl fun bl aM ak aN=>?_;refine JS.box (v:= .slice ah ab.length ai) rfl rfl rfl aN rfl fun aO aP=>?_;refine JS.Bo 2 aP rfl fun bm az aQ aR=>?_;refine JS.split (S':= []) (by simp) aR fun aS=>?_;refine zg 4 rfl ?_;refine JS.makeChan rfl rfl rfl underlying162 (CJ type133) aS fun ch aT=>?_;refine JS.alloc rfl rfl rfl aT (AN type162) fun rc aU=>?_;refine JS.store (v:= .chan (some ch)) (off:=0) 1 rfl rfl rfl aU rfl rfl (Ag type162) (by simp [Value.cells,BJ]) rfl (Nat.le_of_ble_eq_true rfl) fun aV=>?_;refine JS.Bo 1 aV rfl fun W al am aW=>?_;refine zg 3 rfl ?_;refine JS.alloc rfl rfl rfl aW (AN type171) fun wg aX=>?_;refine JS.split (S':= [[(ch,.chan 0 #[] false 0 0 false)],[(wg,.cells #[.int .u64 0,.int .u32 0] 171 (0,0))]]) (by simp [Value.cells]) aX fun ae=>?_;refine zg 7 rfl ?_;refine JL.G4 ?_;refine JL.wk [(2,.pointer (some ⟨aK,0,none⟩)),(3,.pointer (some ⟨aO,0,none⟩)),(5,.pointer (some ⟨rc,0,none⟩)),(6,.pointer (some ⟨wg,0,none⟩)),(11,iV ((0:Nat):Int))] rfl ?_;have aY:=aM.trans az;have Z:=aY.trans al;have an:=Nd.iff.1 ae;intro T aZ;let F:Fam:=⟨wg,ch,171,13,fun j=>decide (0<(qs j).2.length),fun kk v E=>kk<13∧∃a c,v= .agg #[iV ((kk:Nat):Int),iV (qs kk).1,.slice a (qs kk).2.length c]∧Ao Cj E a c (qs kk).2,fun g s=>(CC Tryz.prog).ok Q g s⟩;refine QQ F (Nat.le_of_ble_eq_true rfl) (show 13<2147483647 by omega) ?_ ?_ (Jo (j:=1) ae rfl) (Jo (j:=0) ae rfl) ?_ (fun g s h=>h)
 ·rintro kk v bn bo ao ⟨aa,a,c,a0,aj⟩;exact⟨aa,a,c,a0,aj.mono ao⟩
 ·intro e;have:=an.1;simp at this;exact this e.symm
 have a1:=O0 ae;show Way Tryz.prog true (Stop Tryz.prog F (.Dx 0)) _ (⟨(Am W H [[(ch,.chan 0 #[] false 0 0 false)],[(wg,.cells #[.int .u64 0,.int .u32 0] 171 (0,0))]]).E,FX (Am W H [[(ch,.chan 0 #[] false 0 0 false)],[(wg,.cells #[.int .u64 0,.int .u32 0] 171 (0,0))]]).H wg ch,false⟩:St);rw [show(Am W H [[(ch,.chan 0 #[] false 0 0 false)],[(wg,.cells #[.int .u64 0,.int .u32 0] 171 (0,0))]]).E=W from rfl,a1];have a2:Ax W H []:=trivial;refine PF (F:=F) rfl (aj.mono Z) (aD.mono Z) (aE.mono Z) (Rp.mono _ Z aF) (aG.mono Z) (ak.mono (az.trans al)) (aQ.mono al) am aH (fun j _=>rfl) (fun j a3 E' a c a4=>⟨a3,a,c,rfl,a4⟩) (fun aA ap bp=>?_) 13 0 rfl (by decide) W (Le.refl _) a2 T aZ;refine zg 9 rfl ?_;refine JL.Y (v:= .func (.func 131) #[] ([.pointer (some F.sA),.pointer (some ⟨rc,0,none⟩)]:List Value).toArray) rfl (fun ρ h=>Yl.Gm (by simp) (by simp [h (.tmp 6) _ rfl,h (.tmp 5) _ rfl])) ?_;have aB:=Qj (F:=F) (show 13<2147483648 by omega) (am.mono ap);refine JL.EC (fi:= #[]) rfl rfl rfl rfl rfl rfl rfl (by first | exact aB | (simp only [List.append_toArray,List.nil_append,Array.append_empty,Array.empty_append];exact aB)) ?_
 refine zg 8 rfl ?_;refine JL.Y (v:= .chan (some ch)) rfl (fun ρ h=>Yl.load (An underlying162) (h _ _ rfl) (At.Oa (j:=0) (am.mono ap) rfl)) ?_;refine zg 2 rfl ?_;refine JL.G4 ?_;refine JL.wk [(8,.slice none 0 0),(18,.chan (some ch))] rfl ?_;have a5:Ax aA H [[]]:=trivial;refine Pw (F:=F) (Q:=Q) rfl (fun g s h=>h) (qs:=qs) (fun kk v E' h=>h.2) (fun K bq a c g a6 an aC a7 a8 a9=>?_) 13 [] [] aA none 0 [] rfl List.nodup_nil (by simp) (by decide) (Le.refl _) OL.nil a5;have aq:(CE qs).Perm (K.map (partOf qs)):=by
  unfold CE;refine List.Perm.map _ ?_;refine(List.perm_ext_iff_of_nodup (List.nodup_range.filter _) an).2 fun x=>?_;constructor
  ·intro O;simp at O;exact a7 x O.1 (by simpa [F] using O.2)
  ·intro O;have aa:=aC x O;simp;exact⟨aa.1,by simpa [F] using aa.2⟩
 have ba:(CE qs).Pairwise (fun p q=>p.1<q.1):=by
  unfold CE;rw [List.pairwise_map];refine List.Pairwise.filter _ ?_;refine List.Pairwise.imp ?_ List.pairwise_lt_range;intro a b ao;exact Int.ofNat_lt.2 ao
 have hlen:(K.map (partOf qs)).length≤13:=by
  rw [← aq.length_eq];unfold CE;rw [List.length_map];exact Nat.le_trans (List.length_filter_le _ _) (by simp)
 have bb:KO (K.map (partOf qs)):=by
  intro x O;obtain⟨j,ak,rfl⟩:=List.mem_map.1 O;have aa:=(aC j ak).1;simp only [partOf];omega
 have bc:(K.map (partOf qs)).length=(CE qs).length:=aq.length_eq.symm;refine zg 3 rfl ?_;refine JS.KH (vs:= [.slice a (K.map (partOf qs)).length c,.func (.func 134) #[] #[]]) 0 (RN hlen bb aq ba a8) rfl rfl rfl (Aw func133 rfl) rfl a9 rfl ?_;rintro _ br g' bd ⟨rfl,bf⟩ bg;refine zg 6 rfl ?_;refine JS.BO 0 bf bg rfl fun bu bh bi bj=>?_;refine JL.ret (v:= .slice a (K.map (partOf qs)).length c) rfl rfl (Bv.list func102 rfl (vs:= [.slice a (K.map (partOf qs)).length c]) ⟨rfl,trivial⟩) ?_;exact aJ _ _ _ [] ((((Z.trans ap).trans a6).trans bd).trans bh) (by simp) ⟨a,c,by rw [bc],rfl,bi⟩ bj
end Pal
namespace Pal
open Go Go.Conc Go.Proofs
open Go.Proofs.Tryz
open Go.Conc.Lib Go.ConcR.Gen
def G2(fuel:Nat)(K:Br)(O:AT):Option (List (AZ)):=
 if(List.range 13).all (fun j=>(Ez fuel K O ((j:Nat):Int)).isSome)=true then some (CE fun j=>(Ez fuel K O ((j:Nat):Int)).getD (0,[])) else none
theorem My
  {E:LH} {k1 W:Nat} {Z aa ab:Ar} {ae ag ah:Nat} {ai:List Value} {K:Br} {O:AT} (am:At E k1 W (([.slice Z (K.1).length ae,.slice aa (K.2.1).length ag]:List Value)++ai)) (an:Ao (rL rI) E Z ae (K.1)) (ao:Ao (rL rI) E aa ag (K.2.1)) (ap:(rA 13 (rN .u16)).r E ai (K.2.2)) (aq:Ao Bl E ab ah O) {fuel:Nat} {r:List (AZ)} (U:G2 fuel K O=some r):
  As (CC Tryz.prog) 102 [.pointer (some ⟨k1,W,none⟩),.slice ab O.length ah] E [] (fun w E' B'=>∃(aj:Ar) (ak:Nat),w= .slice aj r.length ak∧B'= []∧Ao BL E' aj ak r):=by
 unfold G2 at U;split at U
 ·rename_i al;cases U;refine(QO am an ao ap aq (fuel:=fuel) (qs:=fun j=>(Ez fuel K O ((j:Nat):Int)).getD (0,[])) fun j ar=>?_).mono ?_
  ·rw [List.all_eq_true] at al;obtain⟨q,au⟩:=Option.isSome_iff_exists.1 (al j (List.mem_range.2 ar));rw [au];rfl
  ·rintro w E' B' _ ⟨a,c,av,aw,ay⟩;exact⟨a,c,av,aw,ay⟩
 ·cases U
end Pal
namespace Pal
open Go Go.Conc Go.Proofs
open Go.Proofs.Tryz
def HC(fuel:Nat)(O:AZ)(K:Int×(List (Bz))×Int):Option (A8 (Int×(List (Bz))×Int) (Int×(List (Bz)))):=
 if K.2.2<((O.2.2).length:Int) then(
  (ix O.2.2 (K.2.2)).bind fun W=>
  (F7 fuel K.1 K.2.1 W O.2.1).bind fun U=>
  (Ay (K.2.2+1)).bind fun Z=>
  some (.more (U.1,U.2,Z))
 ) else(
  some (.done (K.1,K.2.1))
 )
def I1(fuel:Nat)(O:(List (AZ)))(K:Int×(List (Bz))×Int):Option (A8 (Int×(List (Bz))×Int) (Int×(List (Bz)))):=
 if K.2.2<((O).length:Int) then(
  (ix O (K.2.2)).bind fun W=>
  Option.bind (iter (HC fuel W) fuel (K.1,K.2.1,0)) fun U=>
  (Ay (K.2.2+1)).bind fun Z=>
  some (.more (U.1,U.2,Z))
 ) else(
  some (.done (K.1,K.2.1))
 )
def f93(fuel:Nat)(p0:Br)(p1:AT):Option ((Int×(List (Bz)))):=
 (G2 fuel p0 p1).bind fun K=>
 Option.bind (iter (I1 fuel K) fuel (0,[],0)) fun O=>
 some O
theorem Ji{E:LH}{k1:Nat}{aQ:Nat}{aR:Ar}{aS:Nat}{aT:Ar}{aU:Nat}{aV:List Value}{aW:Ar}{aX:Nat}{p0:Br}{p1:AT}(ba:At E k1 aQ (([.slice aR (p0.1).length aS,.slice aT (p0.2.1).length aU]:List Value)++aV))(bb:Ao (rL rI) E aR aS (p0.1))(bc:Ao (rL rI) E aT aU (p0.2.1))(bd:(rA 13 (rN .u16)).r E aV (p0.2.2))(bf:Ao Bl E aW aX (p1)){fuel:Nat}{r:(Int×(List (Bz)))}(aY:f93 fuel p0 p1=some r):As (CC Tryz.prog) 93 [.pointer (some ⟨k1,aQ,none⟩),.slice aW (p1).length aX] E [] (fun w E' B'=>∃(aZ:Ar) (a0:Nat),w= .agg #[iV r.1,.slice aZ (r.2).length a0]∧B'= []∧Ao Cj E' aZ a0 (r.2)):=by
 refine As.en func93 rfl rfl fun Q cr cs H bg bh=>?_;unfold f93 at aY;refine zg 2 rfl ?_;refine JS.alloc rfl rfl rfl bg (AN type97) fun U bi=>?_;refine zg 3 rfl ?_;refine JS.alloc rfl rfl rfl bi (AN type97) fun W bj=>?_;obtain⟨O,bk,bl⟩:=bs aY;refine zg 6 rfl ?_;refine JS.cl (My ba bb bc bd bf bk) rfl rfl (Aw func102 rfl) bj ?_;rintro _ aC _ bm ⟨ah,ai,rfl,rfl,bn⟩ bo;refine JL.Y rfl (fun ρ h=>Yl.len rfl underlying130 (h _ _ rfl)) ?_;obtain⟨K,bp,bq⟩:=bs bl;refine zg 2 rfl ?_;refine JL.join (fun L s=>∃(aD:LH) (Z:Ar) (aa:Nat) (aE:Seg),Jn aC H aD [[(U,.cells #[iV 0,.slice none 0 0] 97 (0,0))],[(W,.cells #[iV K.1,.slice Z (K.2).length aa] 97 (0,0))],aE] [(4,.pointer (some ⟨U,0,none⟩)),(5,.pointer (some ⟨W,0,none⟩))] L s (OL 104 Cj aD Z aa aE (K.2))) ?_ ?_
 ·rintro _ _ ⟨aD,Z,aa,aE,rfl,rfl,br,a1,bu⟩;refine zg 2 rfl ?_;refine JL.Y rfl (fun ρ h=>Yl.Bp (vs:= [iV K.1,.slice Z (K.2).length aa]) (An underlying97) (Ag type97) (h _ _ rfl) (Ec (off:=0) 1 a1 rfl rfl)) ?_;refine JS.st (v:= .agg #[iV K.1,.slice Z (K.2).length aa]) (off:=0) 0 a1 (Ag type97) rfl rfl rfl rfl fun bv=>?_;refine JL.done ?_;refine JS.BO 2 bu bv rfl fun ct bw bx bz=>?_;refine JS.drop 1 bz rfl fun a2=>?_;obtain rfl:=oi bq;refine JL.ret (v:= .agg #[iV K.1,.slice Z (K.2).length aa]) rfl rfl (Bv.list func93 rfl (vs:= [.agg #[iV K.1,.slice Z (K.2).length aa]]) ⟨⟨_,rfl,Ld.many (vs:= [iV K.1,.slice Z (K.2).length aa]) (An underlying97) (Ag type97) (Ec (off:=0) 0 a2 rfl rfl)⟩,trivial⟩) ?_;refine Gk 0 a2 rfl fun bA=>?_;exact bh _ _ _ _ ((bm.trans br).trans bw) rfl ⟨Z,aa,rfl,rfl,bx⟩ bA
 ·intro bB;refine JL.block ?_;refine JL.wk [(4,.pointer (some ⟨U,0,none⟩)),(5,.pointer (some ⟨W,0,none⟩)),(12,.slice ah (O).length ai),(13,iV ((O).length:Int)),(14,iV 0)] rfl ?_;refine JL.Bq bp (fun L s ab=>∃(an:LH) (aj:Ar) (ak:Nat) (al:Seg),Jn aC H an [[(U,.cells #[iV 0,.slice none 0 0] 97 (0,0))],[(W,.cells #[iV ab.1,.slice aj (ab.2.1).length ak] 97 (0,0))],al] [(4,.pointer (some ⟨U,0,none⟩)),(5,.pointer (some ⟨W,0,none⟩)),(12,.slice ah (O).length ai),(13,iV ((O).length:Int)),(14,iV ab.2.2)] L s (OL 104 Cj an aj ak al (ab.2.1))) ⟨aC,none,0,[],rfl,rfl,(Le.refl _),bo,OL.nil⟩ ?_;rintro _ _ ab ⟨an,aj,ak,al,rfl,rfl,aF,a3,a4⟩ bC ⟨cu,aG⟩ bD;have aH:=aG;unfold I1 at aH;refine zg 5 rfl ?_;refine JL.ifs (p:=ab.2.2<((O).length:Int)) rfl (fun aI=>?_) (fun aI=>?_)
  ·have bE:=ip aH aI;obtain⟨ae,bF,bG⟩:=bs bE;refine zg 5 rfl ?_;refine JS.BV (bn.mono aF) bF rfl rfl rfl rfl rfl underlying130 (Ag type133) ?_;rintro cv cw _ ⟨_,_,rfl,rfl,⟨_,_,rfl,rfl,⟨aJ,aK,rfl,bH⟩⟩⟩ bI;refine JL.Bx bI (An underlying133) (Ag type133) rfl rfl ?_;refine JS.alloc rfl rfl rfl a3 (AN type133) fun a5 bJ=>?_;refine JS.st (v:= .agg #[iV ae.1,iV ae.2.1,.slice aJ (ae.2.2).length aK]) (off:=0) 3 bJ (Ag type133) rfl rfl rfl rfl fun bK=>?_;refine JS.Bo 3 bK rfl fun aL aM a6 bL=>?_;refine zg 3 rfl ?_;refine JL.fd underlying133 (Ag type97) rfl rfl rfl ?_;refine JL.fd underlying97 (Ag type95) rfl rfl rfl ?_;refine JL.ld 2 a6 (An underlying95) rfl rfl rfl ?_;refine JL.Y rfl (fun ρ h=>Yl.len rfl underlying95 (h _ _ rfl)) ?_;obtain⟨am,bM,bN⟩:=bs bG;refine zg 2 rfl ?_;refine JL.join (fun L s=>∃(ao:LH) (ap:Ar) (aq:Nat) (ar:Seg),Jn aL H ao [[(U,.cells #[iV 0,.slice none 0 0] 97 (0,0))],[(W,.cells #[iV am.1,.slice ap (am.2).length aq] 97 (0,0))],ar] [(4,.pointer (some ⟨U,0,none⟩)),(5,.pointer (some ⟨W,0,none⟩)),(12,.slice ah (O).length ai),(13,iV ((O).length:Int)),(14,iV ab.2.2)] L s (OL 104 Cj ao ap aq ar (am.2))) ?_ ?_
   ·rintro _ _ ⟨ao,ap,aq,ar,rfl,rfl,bO,bP,bQ⟩;obtain⟨bR,bS,bT⟩:=bs bN;refine zg 2 rfl ?_;refine JL.Y rfl (fun ρ h=>Yl.A6 (h _ _ rfl) (h _ _ rfl) bS) ?_;refine zg 2 rfl ?_;obtain rfl:=oi bT;exact JL.kw (bD _ _ (am.1,am.2,bR) ⟨ao,ap,aq,ar,rfl,rfl,((aF.trans aM).trans bO),bP,bQ⟩ aG) rfl
   ·intro bU;refine JL.block ?_;refine JL.wk [(4,.pointer (some ⟨U,0,none⟩)),(5,.pointer (some ⟨W,0,none⟩)),(7,.pointer (some ⟨a5,0,none⟩)),(12,.slice ah (O).length ai),(13,iV ((O).length:Int)),(14,iV ab.2.2),(20,.slice aJ (ae.2.2).length aK),(21,iV ((ae.2.2).length:Int)),(22,iV 0)] rfl ?_;refine JL.Bq bM (fun L s ag=>∃(au:LH) (av:Ar) (aw:Nat) (ay:Seg),Jn aL H au [[(U,.cells #[iV 0,.slice none 0 0] 97 (0,0))],[(W,.cells #[iV ag.1,.slice av (ag.2.1).length aw] 97 (0,0))],ay] [(4,.pointer (some ⟨U,0,none⟩)),(5,.pointer (some ⟨W,0,none⟩)),(7,.pointer (some ⟨a5,0,none⟩)),(12,.slice ah (O).length ai),(13,iV ((O).length:Int)),(14,iV ab.2.2),(20,.slice aJ (ae.2.2).length aK),(21,iV ((ae.2.2).length:Int)),(22,iV ag.2.2)] L s (OL 104 Cj au av aw ay (ag.2.1))) ⟨aL,aj,ak,al,rfl,rfl,(Le.refl _),bL,(a4.mono aM)⟩ ?_;rintro _ _ ag ⟨au,av,aw,ay,rfl,rfl,az,a7,a8⟩ bV ⟨cy,aN⟩ bW;have aO:=aN;unfold HC at aO;refine zg 5 rfl ?_;refine JL.ifs (p:=ag.2.2<((ae.2.2).length:Int)) rfl (fun aP=>?_) (fun aP=>?_)
    ·have bX:=ip aO aP;obtain⟨aA,bY,bZ⟩:=bs bX;refine zg 5 rfl ?_;refine JS.BV (bH.mono (aM.trans az)) bY rfl rfl rfl rfl rfl underlying95 (Ag type104) ?_;rintro cz cA _ ⟨_,_,rfl,rfl,⟨_,_,rfl,⟨b0,b1,rfl,b2⟩,rfl⟩⟩ b3;refine JL.Bx b3 (An underlying104) (Ag type104) rfl rfl ?_;refine JS.alloc rfl rfl rfl a7 (AN type104) fun cB b4=>?_;refine JS.st (v:= .agg #[iV aA.1,.slice b0 (aA.2.1).length b1,.int .u16 ((aA.2.2:Nat):Int)]) (off:=0) 3 b4 (Ag type104) rfl rfl rfl rfl fun b5=>?_;refine JS.Bo 3 b5 rfl fun cC aB b6 b7=>?_;refine zg 2 rfl ?_;refine JL.Bx b6 (An underlying104) (Ag type104) rfl rfl ?_;refine JL.fd underlying133 (Ag type97) rfl rfl rfl ?_;refine JL.fd underlying97 (Ag type3) rfl rfl rfl ?_;refine JL.ld 1 (a6.mono (az.trans aB)) (An underlying3) rfl rfl rfl ?_;obtain⟨a9,b8,b9⟩:=bs bZ;refine JS.merge 1 2 rfl rfl b7 fun ca=>?_;refine JS.Bu 1 (RZ (age:=0) (a8.mono aB) (tr:=aA) (b2.mono aB) b8) rfl rfl (Aw func122 rfl) ca rfl ?_;rintro _ cb _ cc ⟨cd,ce,cf,rfl,rfl,cg⟩ ci;refine JS.part 1 rfl ci fun ck=>?_;obtain⟨cm,cn,co⟩:=bs b9;refine zg 3 rfl ?_;refine JL.Y rfl (fun ρ h=>Yl.A6 (h _ _ rfl) (h _ _ rfl) cn) ?_;refine zg 2 rfl ?_;obtain rfl:=oi co;exact JL.kw (bW _ _ (a9.1,a9.2,cm) ⟨cb,cd,ce,cf,rfl,rfl,((az.trans aB).trans cc),ck,cg⟩ aN) rfl
    ·have cp:=im aO aP;refine JL.exit rfl ?_;obtain rfl:=oi cp;obtain rfl:=bV _ aN;exact JL.kw (bU _ _ ⟨au,av,aw,ay,rfl,rfl,az,a7,a8⟩) rfl
  ·have cq:=im aH aI;refine JL.exit rfl ?_;obtain rfl:=oi cq;obtain rfl:=bC _ aG;exact JL.kw (bB _ _ ⟨an,aj,ak,al,rfl,rfl,aF,a3,a4⟩) rfl
def f78(fuel:Nat)(p0:BD)(p1:AT)(p2:Int)(p3:Bool):Option ((Option (Br))×(Int×(List (Bz)))×Int):=
 (f69 fuel p0 p1).bind fun O=>
 if O≠0 then(
  some (none,(0,[]),O)
 ) else(
  (Ay (((p1).length:Int) - 1)).bind fun W=>
  (f101 fuel p2 (-1) W).bind fun Z=>
  if Z=true then(
   some (none,(0,[]),3)
  ) else(
   (f92 fuel p0).bind fun aa=>
   (aa).bind fun U=>
   (f93 fuel U p1).bind fun K=>
   Option.bind (
    if((K.2).length:Int)=0 then(
     some (!p3)
    ) else(
     some false
    )
   ) fun ab=>
   if ab=true then(
    some (none,K,11)
   ) else(
    some (some U,K,0)
   )
  )
 )
theorem Jj{E:LH}{ak:Ar}{c2:Nat}{al:Ar}{am:Nat}{az:Ar}{aA:Nat}{p0:BD}{p1:AT}{p2:Int}{p3:Bool}(aB:Ao (rL rI) E ak c2 (p0.1))(aC:Ao (rL rI) E al am (p0.2))(aD:Ao Bl E az aA (p1)){fuel:Nat}{r:(Option (Br))×(Int×(List (Bz)))×Int}(aE:f78 fuel p0 p1 p2 p3=some r):As (CC Tryz.prog) 78 [.agg #[.slice ak (p0.1).length c2,.slice al (p0.2).length am],.slice az (p1).length aA,iV p2,.bool p3] E [] (fun w E' B'=>∃(aF:Value) (aG:Ar) (aH:Nat),w= .tuple #[aF,.agg #[iV r.2.1.1,.slice aG (r.2.1.2).length aH],iV r.2.2]∧B'= []∧Hi (rP (rL (rL rI)) (rP (rL (rL rI)) (rA 13 (rN .u16)))) E' aF (r.1)∧Ao Cj E' aG aH (r.2.1.2)):=by
 refine As.en func78 rfl rfl fun Q bL cs H a8 ah=>?_;unfold f78 at aE;refine zg 2 rfl ?_;refine JS.box (v:= .agg #[.slice ak (p0.1).length c2,.slice al (p0.2).length am]) rfl rfl rfl a8 rfl fun bM a9=>?_;refine JS.Bo 1 a9 rfl fun bN W aI ba=>?_;refine zg 1 rfl ?_;refine JS.alloc rfl rfl rfl ba (AN type97) fun aJ bb=>?_;refine zg 5 rfl ?_;refine JL.Bx aI (An underlying24) (Ag type24) rfl rfl ?_;obtain⟨an,bc,aK⟩:=bs aE;refine zg 1 rfl ?_;refine JS.cl (HS (aB.mono W) (aC.mono W) (aD.mono W) bc) rfl rfl (Aw func69 rfl) bb ?_;rintro _ bO _ aa ⟨rfl,rfl⟩ aL;refine zg 7 rfl ?_;refine JL.ifs (p:=an≠0) rfl (fun ao=>?_) (fun ao=>?_)
 ·have bd:=ip aK ao;refine zg 2 rfl ?_;refine JL.Y (v:= .agg #[iV 0,.slice none 0 0]) rfl (fun ρ h=>Yl.Ci [(0,1),(1,1)] h (AN type97) underlying97 ⟨rfl,Ag type3,rfl,Ag type95,trivial⟩ rfl rfl) ?_;refine zg 2 rfl ?_;refine JS.st (v:= .agg #[iV 0,.slice none 0 0]) (off:=0) 2 aL (Ag type97) rfl rfl rfl rfl fun aM=>?_;refine zg 2 rfl ?_;obtain rfl:=oi bd;refine JL.ret (v:= .tuple #[.pointer none,.agg #[iV 0,.slice none 0 0],iV an]) rfl rfl (Bv.list func78 rfl (vs:= [.pointer none,.agg #[iV 0,.slice none 0 0],iV an]) ⟨rfl,⟨_,rfl,Ld.many (vs:= [iV 0,.slice none 0 0]) (An underlying97) (Ag type97) (Ec (off:=0) 2 aM rfl rfl)⟩,rfl,trivial⟩) ?_;refine Gk 2 aM rfl fun bf=>?_;exact ah _ _ _ _ (W.trans aa) rfl ⟨.pointer none,none,0,rfl,rfl,rfl,Ao.nil⟩ bf
 ·have bg:=im aK ao;refine zg 6 rfl ?_;refine JL.Y rfl (fun ρ h=>Yl.len rfl underlying25 (h _ _ rfl)) ?_;obtain⟨bP,bh,bi⟩:=bs bg;refine JL.Y rfl (fun ρ h=>Yl.Ba (h _ _ rfl) (h _ _ rfl) bh) ?_;obtain⟨bj,bk,aN⟩:=bs bi;refine JS.cl (Gn bk) rfl rfl (Aw func101 rfl) aL ?_;rintro _ bQ _ ae ⟨rfl,rfl⟩ aO;refine JL.done ?_;refine JL.split (t:=bj) rfl (fun ap=>?_) (fun ap=>?_)
  ·have bl:=ip aN ap;refine zg 2 rfl ?_;refine JL.Y (v:= .agg #[iV 0,.slice none 0 0]) rfl (fun ρ h=>Yl.Ci [(0,1),(1,1)] h (AN type97) underlying97 ⟨rfl,Ag type3,rfl,Ag type95,trivial⟩ rfl rfl) ?_;refine zg 1 rfl ?_;refine JS.st (v:= .agg #[iV 0,.slice none 0 0]) (off:=0) 2 aO (Ag type97) rfl rfl rfl rfl fun aP=>?_;refine zg 2 rfl ?_;obtain rfl:=oi bl;refine JL.ret (v:= .tuple #[.pointer none,.agg #[iV 0,.slice none 0 0],iV 3]) rfl rfl (Bv.list func78 rfl (vs:= [.pointer none,.agg #[iV 0,.slice none 0 0],iV 3]) ⟨rfl,⟨_,rfl,Ld.many (vs:= [iV 0,.slice none 0 0]) (An underlying97) (Ag type97) (Ec (off:=0) 2 aP rfl rfl)⟩,rfl,trivial⟩) ?_;refine Gk 2 aP rfl fun bm=>?_;exact ah _ _ _ _ ((W.trans aa).trans ae) rfl ⟨.pointer none,none,0,rfl,rfl,rfl,Ao.nil⟩ bm
  ·have bn:=ib aN ap;refine zg 3 rfl ?_;refine JL.Bx (aI.mono (aa.trans ae)) (An underlying24) (Ag type24) rfl rfl ?_;obtain⟨bR,bo,bp⟩:=bs bn;refine JS.cl (Jd (aB.mono ((W.trans aa).trans ae)) (aC.mono ((W.trans aa).trans ae)) bo) rfl rfl (Aw func92 rfl) aO ?_;rintro bS bT _ aq ⟨_,rfl,rfl,bq⟩ br;obtain⟨ar,bu,bv⟩:=bs bp;have aQ:=bq;refine zg 6 rfl ?_;rw [bu] at aQ;obtain⟨ai,aj,_,rfl,aR,⟨_,_,rfl,⟨bw,bx,rfl,aS⟩,⟨_,aT,rfl,⟨aU,aV,rfl,aW⟩,aX⟩⟩⟩:=aQ;obtain⟨K,bz,bA⟩:=bs bv;refine JS.cl (Ji aR aS aW aX (aD.mono (((W.trans aa).trans ae).trans aq)) bz) rfl rfl (Aw func93 rfl) br ?_;rintro _ bU _ ag ⟨O,U,rfl,rfl,aY⟩ bB;refine JS.alloc rfl rfl rfl bB (AN type97) fun bC bD=>?_;refine JS.st (v:= .agg #[iV K.1,.slice O (K.2).length U]) (off:=0) 7 bD (Ag type97) rfl rfl rfl rfl fun bE=>?_;refine JS.Bo 7 bE rfl fun au ab av aZ=>?_;refine zg 4 rfl ?_;refine JL.fd underlying97 (Ag type95) rfl rfl rfl ?_;refine JL.ld 1 av (An underlying95) rfl rfl rfl ?_;refine JL.Y rfl (fun ρ h=>Yl.len rfl underlying95 (h _ _ rfl)) ?_;obtain⟨a0,a1,a2⟩:=bs bA;refine zg 2 rfl ?_;refine JL.BM [] (fun L s=>∃(a3:LH),Jm au H a3 [[(aJ,.cells #[iV 0,.slice none 0 0] 97 (0,0))]] [(9,.pointer (some ⟨aJ,0,none⟩)),(12,.pointer (some ⟨ai,aj,none⟩)),(13,.pointer (some ⟨bC,0,none⟩)),(39,.bool a0)] L s) ?_ ?_
   ·rintro _ _ ⟨a3,rfl,rfl,Z,a4⟩;refine JL.done ?_;refine JL.split (t:=a0) rfl (fun aw=>?_) (fun aw=>?_)
    ·have bF:=ip a2 aw;refine JL.seq ?_;refine JG.Dm 2 mixed rfl (by decide+kernel) fun ht=>?_;refine JG.Bx 0 ht (av.mono Z) (An underlying97) (Ag type97) rfl rfl rfl ?_;refine JG.mv 1 ht rfl rfl ?_;refine Au.leaf (tail:= [2,3]) (by decide+kernel) (fun t=>A7 (by decide+kernel) (A7 (by decide+kernel) BU) t) ?_;refine JS.st (v:= .agg #[iV K.1,.slice O (K.2).length U]) (off:=0) 0 a4 (Ag type97) rfl rfl rfl rfl fun a5=>?_;refine zg 2 rfl ?_;obtain rfl:=oi bF;refine JL.ret (v:= .tuple #[.pointer none,.agg #[iV K.1,.slice O (K.2).length U],iV 11]) rfl rfl (Bv.list func78 rfl (vs:= [.pointer none,.agg #[iV K.1,.slice O (K.2).length U],iV 11]) ⟨rfl,⟨_,rfl,Ld.many (vs:= [iV K.1,.slice O (K.2).length U]) (An underlying97) (Ag type97) (Ec (off:=0) 0 a5 rfl rfl)⟩,rfl,trivial⟩) ?_;refine Gk 0 a5 rfl fun bG=>?_;exact ah _ _ _ _ ((((((W.trans aa).trans ae).trans aq).trans ag).trans ab).trans Z) rfl ⟨.pointer none,O,U,rfl,rfl,rfl,(aY.mono (ab.trans Z))⟩ bG
    ·have bH:=ib a2 aw;refine zg 2 rfl ?_;refine JG.Dm 3 mixed rfl (by decide+kernel) fun ht=>?_;refine JG.mv 0 ht rfl rfl ?_;refine JG.Bx 1 ht (av.mono Z) (An underlying97) (Ag type97) rfl rfl rfl ?_;refine JG.mv 2 ht rfl rfl ?_;refine Au.leaf (tail:= [3,4]) (by decide+kernel) (fun t=>A7 (by decide+kernel) (A7 (by decide+kernel) BU) t) ?_;refine JS.st (v:= .agg #[iV K.1,.slice O (K.2).length U]) (off:=0) 0 a4 (Ag type97) rfl rfl rfl rfl fun a6=>?_;refine zg 2 rfl ?_;obtain rfl:=oi bH;refine JL.ret (v:= .tuple #[.pointer (some ⟨ai,aj,none⟩),.agg #[iV K.1,.slice O (K.2).length U],iV 0]) rfl rfl (Bv.list func78 rfl (vs:= [.pointer (some ⟨ai,aj,none⟩),.agg #[iV K.1,.slice O (K.2).length U],iV 0]) ⟨rfl,⟨_,rfl,Ld.many (vs:= [iV K.1,.slice O (K.2).length U]) (An underlying97) (Ag type97) (Ec (off:=0) 0 a6 rfl rfl)⟩,rfl,trivial⟩) ?_;refine Gk 0 a6 rfl fun bI=>?_;exact ah _ _ _ _ ((((((W.trans aa).trans ae).trans aq).trans ag).trans ab).trans Z) rfl ⟨.pointer (some ⟨ai,aj,none⟩),O,U,rfl,rfl,⟨_,_,_,rfl,(aR.mono ((ag.trans ab).trans Z)),⟨[.slice bw (ar.1).length bx],(([.slice aU (ar.2.1).length aV]:List Value)++aT),rfl,⟨_,_,rfl,(aS.mono ((ag.trans ab).trans Z))⟩,⟨[.slice aU (ar.2.1).length aV],aT,rfl,⟨_,_,rfl,(aW.mono ((ag.trans ab).trans Z))⟩,(Rp.mono _ ((ag.trans ab).trans Z) aX)⟩⟩⟩,(aY.mono (ab.trans Z))⟩ bI
   ·intro a7;refine JL.Cm (q:=((K.2).length:Int)=0) (i:=36) rfl (fun ay=>?_) (fun ay=>?_)
    ·have bJ:=ip a1 ay;refine zg 1 rfl ?_;refine JL.Y (v:= .bool (!p3)) rfl (fun ρ h=>Yl.not (h _ _ rfl)) ?_;refine zg 1 rfl ?_;obtain rfl:=oi bJ;exact JL.kw (a7 _ _ ⟨au,rfl,rfl,(Le.refl _),aZ⟩) rfl
    ·have bK:=im a1 ay;refine zg 3 rfl ?_;obtain rfl:=oi bK;exact JL.kw (a7 _ _ ⟨au,rfl,rfl,(Le.refl _),aZ⟩) rfl
def f28(fuel:Nat)(p0:BD)(p1:AT):Option (Int×Int):=
 (f78 fuel p0 p1 (-1) true).bind fun K=>
 some (((K.2.1.2).length:Int),K.2.2)
theorem SD{E:LH}{O:Ar}{c2:Nat}{U:Ar}{W:Nat}{Z:Ar}{aa:Nat}{p0:BD}{p1:AT}(ag:Ao (rL rI) E O c2 (p0.1))(ah:Ao (rL rI) E U W (p0.2))(ai:Ao Bl E Z aa (p1)){fuel:Nat}{r:Int×Int}(ab:f28 fuel p0 p1=some r):As (CC Tryz.prog) 28 [.agg #[.slice O (p0.1).length c2,.slice U (p0.2).length W],.slice Z (p1).length aa] E [] (fun w E' B'=>w= .tuple #[iV r.1,iV r.2]∧B'= []):=by
 refine As.en func28 rfl rfl fun Q aC cs H aj ak=>?_;unfold f28 at ab;refine zg 2 rfl ?_;refine JS.box (v:= .agg #[.slice O (p0.1).length c2,.slice U (p0.2).length W]) rfl rfl rfl aj rfl fun aD al=>?_;refine JS.Bo 1 al rfl fun aE K am an=>?_;refine zg 5 rfl ?_;refine JL.Bx am (An underlying24) (Ag type24) rfl rfl ?_;obtain⟨ae,ao,ap⟩:=bs ab;refine zg 1 rfl ?_;refine JS.cl (Jj (ag.mono K) (ah.mono K) (ai.mono K) ao) rfl rfl (Aw func78 rfl) an ?_;rintro _ aF _ aq ⟨aG,ar,au,rfl,rfl,aH,aI⟩ av;refine zg 4 rfl ?_;refine JS.alloc rfl rfl rfl av (AN type97) fun aJ aw=>?_;refine zg 1 rfl ?_;refine JS.st (v:= .agg #[iV ae.2.1.1,.slice ar (ae.2.1.2).length au]) (off:=0) 3 aw (Ag type97) rfl rfl rfl rfl fun ay=>?_;refine JS.Bo 3 ay rfl fun aK az aA aB=>?_;refine zg 4 rfl ?_;refine JL.fd underlying97 (Ag type95) rfl rfl rfl ?_;refine JL.ld 1 aA (An underlying95) rfl rfl rfl ?_;refine JL.Y rfl (fun ρ h=>Yl.len rfl underlying95 (h _ _ rfl)) ?_;refine zg 4 rfl ?_;obtain rfl:=oi ap;refine JL.rt func28 rfl rfl ?_;exact ak _ _ _ _ ((K.trans aq).trans az) rfl ⟨rfl,rfl⟩ aB
def f30(fuel:Nat)(p0:BD)(p1:AT):Option (Int×(List Int)×Int):=
 (f78 fuel p0 p1 (-1) false).bind fun K=>
 if K.2.2≠0 then(
  some (0,[],K.2.2)
 ) else(
  (ix K.2.1.2 (0)).bind fun O=>
  (ix K.2.1.2 (0)).bind fun U=>
  some (O.1,U.2.1,0)
 )
theorem SO{E:LH}{U:Ar}{c2:Nat}{W:Ar}{Z:Nat}{ae:Ar}{ag:Nat}{p0:BD}{p1:AT}(aq:Ao (rL rI) E U c2 (p0.1))(ar:Ao (rL rI) E W Z (p0.2))(au:Ao Bl E ae ag (p1)){fuel:Nat}{r:Int×(List Int)×Int}(ah:f30 fuel p0 p1=some r):As (CC Tryz.prog) 30 [.agg #[.slice U (p0.1).length c2,.slice W (p0.2).length Z],.slice ae (p1).length ag] E [] (fun w E' B'=>∃(ai:Ar) (aj:Nat),w= .tuple #[iV r.1,.slice ai (r.2.1).length aj,iV r.2.2]∧B'= []∧Ao rI E' ai aj (r.2.1)):=by
 refine As.en func30 rfl rfl fun Q aR cs H av ak=>?_;unfold f30 at ah;refine zg 2 rfl ?_;refine JS.box (v:= .agg #[.slice U (p0.1).length c2,.slice W (p0.2).length Z]) rfl rfl rfl av rfl fun aS aw=>?_;refine JS.Bo 1 aw rfl fun aT K ay az=>?_;refine zg 6 rfl ?_;refine JL.Bx ay (An underlying24) (Ag type24) rfl rfl ?_;obtain⟨aa,aA,al⟩:=bs ah;refine zg 1 rfl ?_;refine JS.cl (Jj (aq.mono K) (ar.mono K) (au.mono K) aA) rfl rfl (Aw func78 rfl) az ?_;rintro _ aU _ am ⟨aV,aB,aC,rfl,rfl,aW,an⟩ aD;refine zg 4 rfl ?_;refine JS.alloc rfl rfl rfl aD (AN type97) fun aX aE=>?_;refine zg 1 rfl ?_;refine JS.st (v:= .agg #[iV aa.2.1.1,.slice aB (aa.2.1.2).length aC]) (off:=0) 3 aE (Ag type97) rfl rfl rfl rfl fun aF=>?_;refine JS.Bo 3 aF rfl fun aY O ao ap=>?_;refine zg 8 rfl ?_;refine JL.ifs (p:=aa.2.2≠0) rfl (fun ab=>?_) (fun ab=>?_)
 ·have aG:=ip al ab;refine zg 7 rfl ?_;obtain rfl:=oi aG;refine JL.rt func30 rfl rfl ?_;exact ak _ _ _ _ ((K.trans am).trans O) rfl ⟨none,0,rfl,rfl,Ao.nil⟩ ap
 ·have aH:=im al ab;refine zg 2 rfl ?_;refine JG.Dm 11 mixed rfl (by decide+kernel) fun ht=>?_;refine JG.fd 0 ht underlying97 (Ag type95) rfl rfl rfl rfl ?_;refine JG.ld 1 ht 1 ao (An underlying95) rfl rfl rfl rfl ?_;obtain⟨aZ,aI,aJ⟩:=bs aH;refine JG.idx 2 (an.mono O) aI rfl ht (by decide+kernel) rfl rfl rfl rfl rfl underlying95 (Ag type104) ?_;rintro a0 a1 _ ⟨_,_,rfl,rfl,⟨_,_,rfl,⟨a2,a3,rfl,a4⟩,rfl⟩⟩ aK;refine JG.fd 3 ht underlying104 (Ag type3) rfl rfl rfl rfl ?_;refine JG.ld 4 ht 0 aK (An underlying3) rfl rfl rfl rfl ?_;refine JG.fd 5 ht underlying97 (Ag type95) rfl rfl rfl rfl ?_;refine JG.ld 6 ht 1 ao (An underlying95) rfl rfl rfl rfl ?_;obtain⟨a5,aL,aM⟩:=bs aJ;refine JG.idx 7 (an.mono O) aL rfl ht (by decide+kernel) rfl rfl rfl rfl rfl underlying95 (Ag type104) ?_;rintro a6 a7 _ ⟨_,_,rfl,rfl,⟨_,_,rfl,⟨aN,aO,rfl,aP⟩,rfl⟩⟩ aQ;refine JG.fd 8 ht underlying104 (Ag type28) rfl rfl rfl rfl ?_;refine JG.ld 9 ht 1 aQ (An underlying28) rfl rfl rfl rfl ?_;refine JG.mv 10 ht rfl rfl ?_;refine Au.leaf (tail:= [11,12]) (by decide+kernel) (fun t=>A7 (by decide+kernel) (A7 (by decide+kernel) BU) t) ?_;refine zg 3 rfl ?_;obtain rfl:=oi aM;refine JL.rt func30 rfl rfl ?_;exact ak _ _ _ _ ((K.trans am).trans O) rfl ⟨aN,aO,rfl,rfl,aP⟩ ap
def Nr(fuel:Nat)(p2:Int)(O:(List (AZ)))(K:(List Int)×Int):Option (A8 ((List Int)×Int) ((List Int))):=
 if K.2<((O).length:Int) then(
  (ix O (K.2)).bind fun U=>
  Option.bind (
   if U.2.1≤p2 then(
    (room K.1 U.1).bind fun W=>
    some W
   ) else(
    some K.1
   )
  ) fun Z=>
  (Ay (K.2+1)).bind fun aa=>
  some (.more (Z,aa))
 ) else(
  some (.done K.1)
 )
def f43(fuel:Nat)(p0:BD)(p1:AT)(p2:Int):Option ((List Int)×Int):=
 (f69 fuel p0 p1).bind fun K=>
 if K≠0 then(
  some ([],K)
 ) else(
  (f101 fuel p2 0 4).bind fun U=>
  if U=true then(
   some ([],1)
  ) else(
   (f92 fuel p0).bind fun W=>
   (W).bind fun Z=>
   (G2 fuel Z p1).bind fun aa=>
   Option.bind (iter (Nr fuel p2 aa) fuel ([],0)) fun O=>
   if((O).length:Int)=0 then(
    some ([],11)
   ) else(
    some (O,0)
   )
  )
 )
theorem SF{E:LH}{ap:Ar}{c2:Nat}{aq:Ar}{ar:Nat}{aO:Ar}{aP:Nat}{p0:BD}{p1:AT}{p2:Int}(aQ:Ao (rL rI) E ap c2 (p0.1))(aR:Ao (rL rI) E aq ar (p0.2))(aS:Ao Bl E aO aP (p1)){fuel:Nat}{r:(List Int)×Int}(aT:f43 fuel p0 p1 p2=some r):As (CC Tryz.prog) 43 [.agg #[.slice ap (p0.1).length c2,.slice aq (p0.2).length ar],.slice aO (p1).length aP,iV p2] E [] (fun w E' B'=>∃(aU:Ar) (aV:Nat),w= .tuple #[.slice aU (r.1).length aV,iV r.2]∧B'= []∧Ao rI E' aU aV (r.1)):=by
 refine As.en func43 rfl rfl fun Q ce cs H bb ah=>?_;unfold f43 at aT;refine zg 2 rfl ?_;refine JS.box (v:= .agg #[.slice ap (p0.1).length c2,.slice aq (p0.2).length ar]) rfl rfl rfl bb rfl fun cf bc=>?_;refine JS.Bo 1 bc rfl fun cg K aW bd=>?_;refine zg 6 rfl ?_;refine JL.Bx aW (An underlying24) (Ag type24) rfl rfl ?_;obtain⟨bf,bg,aX⟩:=bs aT;refine zg 1 rfl ?_;refine JS.cl (HS (aQ.mono K) (aR.mono K) (aS.mono K) bg) rfl rfl (Aw func69 rfl) bd ?_;rintro _ ci _ O ⟨rfl,rfl⟩ aY;refine zg 7 rfl ?_;refine JL.ifs (p:=bf≠0) rfl (fun au=>?_) (fun au=>?_)
 ·have bh:=ip aX au;refine zg 6 rfl ?_;obtain rfl:=oi bh;refine JL.rt func43 rfl rfl ?_;exact ah _ _ _ _ (K.trans O) rfl ⟨none,0,rfl,rfl,Ao.nil⟩ aY
 ·have bi:=im aX au;obtain⟨bj,bk,aZ⟩:=bs bi;refine zg 5 rfl ?_;refine JS.cl (Gn bk) rfl rfl (Aw func101 rfl) aY ?_;rintro _ ck _ U ⟨rfl,rfl⟩ a0;refine JL.done ?_;refine JL.split (t:=bj) rfl (fun av=>?_) (fun av=>?_)
  ·have bl:=ip aZ av;refine zg 5 rfl ?_;obtain rfl:=oi bl;refine JL.rt func43 rfl rfl ?_;exact ah _ _ _ _ ((K.trans O).trans U) rfl ⟨none,0,rfl,rfl,Ao.nil⟩ a0
  ·have bm:=ib aZ av;refine zg 8 rfl ?_;refine JL.Bx (aW.mono (O.trans U)) (An underlying24) (Ag type24) rfl rfl ?_;obtain⟨cm,bn,bo⟩:=bs bm;refine JS.cl (Jd (aQ.mono ((K.trans O).trans U)) (aR.mono ((K.trans O).trans U)) bn) rfl rfl (Aw func92 rfl) a0 ?_;rintro cn co _ aw ⟨_,rfl,rfl,bp⟩ bq;obtain⟨cp,br,bu⟩:=bs bo;have a1:=bp;refine zg 1 rfl ?_;rw [br] at a1;obtain⟨cq,cr,_,rfl,bv,⟨_,_,rfl,⟨ct,cu,rfl,bw⟩,⟨_,cv,rfl,⟨cw,cy,rfl,bx⟩,bz⟩⟩⟩:=a1;obtain⟨W,bA,bB⟩:=bs bu;refine JS.cl (My bv bw bx bz (aS.mono (((K.trans O).trans U).trans aw)) bA) rfl rfl (Aw func102 rfl) bq ?_;rintro _ ay _ a2 ⟨az,aA,rfl,rfl,bC⟩ bD;refine JL.Y rfl (fun ρ h=>Yl.len rfl underlying130 (h _ _ rfl)) ?_;obtain⟨aB,bE,a3⟩:=bs bB;refine zg 2 rfl ?_;refine JL.join (fun L s=>∃(aC:LH) (ai:Ar) (aj:Nat) (aD:Seg),Jn ay H aC [aD] [(9,.slice ai (aB).length aj)] L s (OL 3 rI aC ai aj aD (aB))) ?_ ?_
   ·rintro _ _ ⟨aC,ai,aj,aD,rfl,rfl,a4,a5,bF⟩;refine zg 4 rfl ?_;refine JL.Y rfl (fun ρ h=>Yl.len rfl underlying28 (h _ _ rfl)) ?_;refine zg 2 rfl ?_;refine JL.ifs (p:=((aB).length:Int)=0) rfl (fun aE=>?_) (fun aE=>?_)
    ·have bG:=ip a3 aE;refine zg 5 rfl ?_;refine JS.drop 0 a5 rfl fun bH=>?_;obtain rfl:=oi bG;refine JL.rt func43 rfl rfl ?_;exact ah _ _ _ _ (((((K.trans O).trans U).trans aw).trans a2).trans a4) rfl ⟨none,0,rfl,rfl,Ao.nil⟩ bH
    ·have bI:=im a3 aE;refine zg 7 rfl ?_;refine JS.BO 0 bF a5 rfl fun cz bJ bK bL=>?_;obtain rfl:=oi bI;refine JL.rt func43 rfl rfl ?_;exact ah _ _ _ _ ((((((K.trans O).trans U).trans aw).trans a2).trans a4).trans bJ) rfl ⟨ai,aj,rfl,rfl,bK⟩ bL
   ·intro bM;refine JL.block ?_;refine JL.wk [(2,iV p2),(9,.slice none 0 0),(23,.slice az (W).length aA),(24,iV ((W).length:Int)),(25,iV 0)] rfl ?_;refine JL.Bq bE (fun L s Z=>∃(ak:LH) (aa:Ar) (ab:Nat) (ae:Seg),Jn ay H ak [ae] [(2,iV p2),(9,.slice aa (Z.1).length ab),(23,.slice az (W).length aA),(24,iV ((W).length:Int)),(25,iV Z.2)] L s (OL 3 rI ak aa ab ae (Z.1))) ⟨ay,none,0,[],rfl,rfl,(Le.refl _),bD,OL.nil⟩ ?_;rintro _ _ Z ⟨ak,aa,ab,ae,rfl,rfl,aF,a6,aG⟩ bN ⟨cA,aH⟩ bO;have aI:=aH;unfold Nr at aI;refine zg 5 rfl ?_;refine JL.ifs (p:=Z.2<((W).length:Int)) rfl (fun aJ=>?_) (fun aJ=>?_)
    ·have bP:=ip aI aJ;obtain⟨ag,bQ,bR⟩:=bs bP;refine zg 5 rfl ?_;refine JS.BV (bC.mono aF) bQ rfl rfl rfl rfl rfl underlying130 (Ag type133) ?_;rintro cB cC _ ⟨_,_,rfl,rfl,⟨_,_,rfl,rfl,⟨bS,bT,rfl,cD⟩⟩⟩ bU;refine JL.Bx bU (An underlying133) (Ag type133) rfl rfl ?_;refine JS.alloc rfl rfl rfl a6 (AN type133) fun cE bV=>?_;refine JS.st (v:= .agg #[iV ag.1,iV ag.2.1,.slice bS (ag.2.2).length bT]) (off:=0) 1 bV (Ag type133) rfl rfl rfl rfl fun bW=>?_;refine JS.Bo 1 bW rfl fun aK aL a7 a8=>?_;refine zg 3 rfl ?_;refine JL.fd underlying133 (Ag type97) rfl rfl rfl ?_;refine JL.fd underlying97 (Ag type3) rfl rfl rfl ?_;refine JL.ld 1 a7 (An underlying3) rfl rfl rfl ?_;obtain⟨aM,a9,bX⟩:=bs bR;refine zg 3 rfl ?_;refine JL.join (fun L s=>∃(al:LH) (am:Ar) (an:Nat) (ao:Seg),Jn aK H al [ao] [(2,iV p2),(9,.slice am (aM).length an),(23,.slice az (W).length aA),(24,iV ((W).length:Int)),(25,iV Z.2)] L s (OL 3 rI al am an ao (aM))) ?_ ?_
     ·rintro _ _ ⟨al,am,an,ao,rfl,rfl,bY,bZ,b0⟩;obtain⟨b1,b2,b3⟩:=bs bX;refine zg 2 rfl ?_;refine JL.Y rfl (fun ρ h=>Yl.A6 (h _ _ rfl) (h _ _ rfl) b2) ?_;refine zg 2 rfl ?_;obtain rfl:=oi b3;exact JL.kw (bO _ _ (aM,b1) ⟨al,am,an,ao,rfl,rfl,((aF.trans aL).trans bY),bZ,b0⟩ aH) rfl
     ·intro ba;refine JL.ifs (p:=ag.2.1≤p2) rfl (fun aN=>?_) (fun aN=>?_)
      ·have b4:=ip a9 aN;refine zg 2 rfl ?_;refine JL.fd underlying133 (Ag type3) rfl rfl rfl ?_;refine JL.ld 0 a7 (An underlying3) rfl rfl rfl ?_;obtain⟨cF,b5,b6⟩:=bs b4;refine JS.app (pp:=rI) (v:=iV ag.1) (a:=aa) (c:=ab) 0 b5 rfl rfl rfl rfl (fun _=>rfl) rfl (fun _=>rfl) rfl rfl rfl underlying28 underlying28 underlying28 (Ag type3) (CJ type3) (AN type3) rfl (by decide) (by decide) (by decide) (by decide) (aG.mono aL) rfl a8 rfl fun cG b7 b8 b9 ca cb=>?_;refine zg 2 rfl ?_;obtain rfl:=oi b6;exact JL.kw (ba _ _ ⟨aK,b7,b8,b9,rfl,rfl,(Le.refl _),cb,ca⟩) rfl
      ·have cc:=im a9 aN;refine JL.skip ?_;obtain rfl:=oi cc;exact JL.kw (ba _ _ ⟨aK,aa,ab,ae,rfl,rfl,(Le.refl _),a8,(aG.mono aL)⟩) rfl
    ·have cd:=im aI aJ;refine JL.exit rfl ?_;obtain rfl:=oi cd;obtain rfl:=bN _ aH;exact JL.kw (bM _ _ ⟨ak,aa,ab,ae,rfl,rfl,aF,a6,aG⟩) rfl
end Pal
namespace Pal
open Go Go.Conc Go.Proofs
open Go.Proofs.Tryz
variable {J:Judge Tryz.prog}{E:LH}
def HR(fuel:Nat)(p0:AT):Option ((AT)):=
 (CF ([]:AT) p0).bind fun K=>
 some K
theorem QI{ad:Addr}{c2:Nat}{p0:AT}(W:Ao Bl E (some ad) c2 p0){fuel:Nat}{r:(AT)}(K:HR fuel p0=some r):As J 123 [.slice (some ad) (p0).length c2] E [] (fun w E' B'=>∃(O:Ar) (U:Nat) (g0:Seg),w= .slice O (r).length U∧B'=g0∧OL 27 Bl E' O U g0 (r)):=by
 refine As.en func123 rfl rfl fun Q an cs H Z aa=>?_;unfold HR at K;refine zg 8 rfl ?_;refine JL.Y (v:= .bool false) rfl (fun ρ h=>Yl.I2 (a:=(some ad)) underlying25 (h _ _ rfl) (h _ _ rfl)) ?_;refine zg 5 rfl ?_;refine JS.H4 (pp:=Bl) rfl rfl rfl underlying25 (Ag type27) Z fun ao ap ab ae=>?_;obtain⟨aq,ag,ah⟩:=bs K;refine zg 1 rfl ?_;refine JS.Om (pp:=Bl) 1 ag rfl rfl rfl rfl rfl rfl rfl underlying25 underlying25 (Ag type27) (CJ type27) (AN type27) rfl (by decide) (by decide) ab W ae rfl fun ai aj ak al am=>?_;refine zg 2 rfl ?_;obtain rfl:=oi ah;refine JL.rt func123 rfl rfl ?_;exact aa _ _ _ _ (Le.refl _) rfl ⟨ai,aj,ak,rfl,(by first | rfl | simp | (simp [Value.cells])),al⟩ am
def N2(fuel:Nat)(p0:AT):Option ((AT)):=
 some ([])
theorem QS{c2:Nat}{p0:AT}(aa:Ao Bl E none c2 p0){fuel:Nat}{r:(AT)}(K:N2 fuel p0=some r):As J 123 [.slice none (p0).length c2] E [] (fun w E' B'=>∃(O:Ar) (U:Nat) (g0:Seg),w= .slice O (r).length U∧B'=g0∧OL 27 Bl E' O U g0 (r)):=by
 refine As.en func123 rfl rfl fun Q ab cs H W Z=>?_;unfold N2 at K;refine zg 8 rfl ?_;refine JL.Y (v:= .bool true) rfl (fun ρ h=>Yl.I2 (a:=none) underlying25 (h _ _ rfl) (h _ _ rfl)) ?_;refine zg 6 rfl ?_;obtain rfl:=oi K;refine JL.rt func123 rfl rfl ?_;exact Z _ _ _ _ (Le.refl _) rfl ⟨none,0,[],rfl,rfl,OL.nil⟩ W
def f123(fuel:Nat)(p0:AT):Option (AT):=HR fuel p0
theorem R5{O:Ar}{c2:Nat}{p0:AT}(U:Ao Bl E O c2 p0){fuel:Nat}{r:AT}(K:f123 fuel p0=some r):As J 123 [.slice O p0.length c2] E [] (fun w E' B'=>∃(W:Ar) (Z:Nat) (g0:Seg),w= .slice W r.length Z∧B'=g0∧OL 27 Bl E' W Z g0 r):=by
 cases O with
 | some ad=>exact QI U K
 | none=>
  have aa:p0= []:=by
   rcases U.2 with h | ⟨_,_,h,_⟩
   ·exact h.1
   ·cases h
  subst aa;have ab:r= []:=by
   have ae:HR fuel []=some []:=rfl;unfold f123 at K;rw [ae] at K;exact(Option.some.inj K).symm
  subst ab;exact QS (fuel:=fuel) U rfl
end Pal
namespace Pal
open Go Go.Conc Go.Proofs
open Go.Proofs.Tryz
variable {J:Judge Tryz.prog}{E:LH}
def f125(fuel:Nat)(p0:Int×Int)(p1:Int×Int):Option (Int):=
 (Ay (p0.1 - p1.1)).bind fun K=>
 some K
theorem Sd{p0:Int×Int}{p1:Int×Int}{fuel:Nat}{r:Int}(K:f125 fuel p0 p1=some r):As J 125 [.agg #[iV p0.1,iV p0.2],.agg #[iV p1.1,iV p1.2]] E [] (fun w E' B'=>w=iV r∧B'= []):=by
 refine As.en func125 rfl rfl fun Q al cs H U W=>?_;unfold f125 at K;refine zg 2 rfl ?_;refine JS.box (v:= .agg #[iV p0.1,iV p0.2]) rfl rfl rfl U rfl fun am Z=>?_;refine JS.Bo 1 Z rfl fun an aa ab ae=>?_;refine JS.box (v:= .agg #[iV p1.1,iV p1.2]) rfl rfl rfl ae rfl fun ao ag=>?_;refine JS.Bo 2 ag rfl fun ap O ah ai=>?_;refine zg 4 rfl ?_;refine JL.fd underlying27 (Ag type3) rfl rfl rfl ?_;refine JL.ld 0 (ab.mono O) (An underlying3) rfl rfl rfl ?_;refine JL.fd underlying27 (Ag type3) rfl rfl rfl ?_;refine JL.ld 0 ah (An underlying3) rfl rfl rfl ?_;obtain⟨aq,aj,ak⟩:=bs K;refine JL.Y rfl (fun ρ h=>Yl.Ba (h _ _ rfl) (h _ _ rfl) aj) ?_;refine zg 2 rfl ?_;obtain rfl:=oi ak;refine JL.rt func125 rfl rfl ?_;exact W _ _ _ _ (aa.trans O) rfl ⟨rfl,rfl⟩ ai
def GX(fuel:Nat)(p1:Int)(K:Int×(AT)):Option (A8 (Int×(AT)) ((AT))):=
 Option.bind (
  if p1<K.1 then(
   (ix K.2 (K.1)).bind fun W=>
   (Ay (K.1 - 1)).bind fun Z=>
   (ix K.2 (Z)).bind fun aa=>
   (f125 fuel W aa).bind fun ab=>
   some (decide (ab<0))
  ) else(
   some false
  )
 ) fun ae=>
 if ae=true then(
  (Ay (K.1 - 1)).bind fun O=>
  (Ay (K.1 - 1)).bind fun ag=>
  (ix K.2 (ag)).bind fun U=>
  (ix K.2 (K.1)).bind fun ah=>
  (ix (K.2.set (Int.toNat K.1) U) (O)).bind fun aj=>
  (Ay (K.1 - 1)).bind fun ai=>
  some (.more (ai,((K.2.set (Int.toNat K.1) U).set (Int.toNat O) ah)))
 ) else(
  some (.done K.2)
 )
def J5(fuel:Nat)(p1:Int)(p2:Int)(K:Int×(AT)):Option (A8 (Int×(AT)) ((AT))):=
 if K.1<p2 then(
  Option.bind (iter (GX fuel p1) fuel K) fun O=>
  (Ay (K.1+1)).bind fun U=>
  some (.more (U,O))
 ) else(
  some (.done K.2)
 )
def f168(fuel:Nat)(p0:AT)(p1:Int)(p2:Int):Option ((AT)):=
 (Ay (p1+1)).bind fun K=>
 Option.bind (iter (J5 fuel p1 p2) fuel (K,p0)) fun O=>
 some O
theorem Nk{K:Nat}{O:Nat}{U:Nat}{au:Array Value}{p0:AT}{p1:Int}{p2:Int}(hW:WL 27 Bl E K O U au p0){fuel:Nat}{r:(AT)}(aF:f168 fuel p0 p1 p2=some r):As J 168 [.slice (some ⟨K,0,none⟩) U O,iV p1,iV p2,(.func (.func 125) #[] #[])] E [(K,.cells au 27 (0,0))] (fun w E' B'=>∃(aG:Array Value),w= .tuple #[]∧B'= [(K,.cells aG 27 (0,0))]∧WL 27 Bl E' K O U aG (r)):=by
 refine As.en func168 rfl rfl fun Q bT cs H aV aW=>?_;unfold f168 at aF;obtain⟨aX,aY,aZ⟩:=bs aF;refine zg 3 rfl ?_;refine JL.Y rfl (fun ρ h=>Yl.A6 (h _ _ rfl) (h _ _ rfl) aY) ?_;obtain⟨a0,a1,a2⟩:=bs aZ;refine zg 2 rfl ?_;refine JL.join (fun L s=>∃(av:LH) (f17:Array Value),Jn E H av [[(K,.cells f17 27 (0,0))]] [] L s (WL 27 Bl av K O U f17 (a0))) ?_ ?_
 ·rintro _ _ ⟨av,f17,rfl,rfl,a3,a4,a5⟩;obtain rfl:=oi a2;refine JL.fin (v:= .tuple #[]) rfl rfl (Bv.list func168 rfl (vs:= []) trivial) ?_;exact aW _ _ _ _ a3 rfl ⟨f17,rfl,(by first | rfl | simp | (simp [Value.cells])),a5⟩ a4
 ·intro a6;refine JL.block ?_;refine JL.wk [(0,.slice (some ⟨K,0,none⟩) U O),(1,iV p1),(2,iV p2),(3,(.func (.func 125) #[] #[])),(8,iV aX)] rfl ?_;refine JL.Bq a1 (fun L s ab=>∃(ag:LH) (f25:Array Value),Jn E H ag [[(K,.cells f25 27 (0,0))]] [(0,.slice (some ⟨K,0,none⟩) U O),(1,iV p1),(2,iV p2),(3,(.func (.func 125) #[] #[])),(8,iV ab.1)] L s (WL 27 Bl ag K O U f25 (ab.2))) ⟨E,au,rfl,rfl,(Le.refl _),aV,hW⟩ ?_;rintro _ _ ab ⟨ag,f25,rfl,rfl,aH,aI,aJ⟩ a7 ⟨bU,aw⟩ a8;have ay:=aw;unfold J5 at ay;refine zg 7 rfl ?_;refine JL.ifs (p:=ab.1<p2) rfl (fun az=>?_) (fun az=>?_)
  ·have a9:=ip ay az;obtain⟨aK,ba,bb⟩:=bs a9;refine zg 8 rfl ?_;refine JL.join (fun L s=>∃(am:LH) (f48:Array Value),Jn ag H am [[(K,.cells f48 27 (0,0))]] [(0,.slice (some ⟨K,0,none⟩) U O),(1,iV p1),(2,iV p2),(3,(.func (.func 125) #[] #[])),(8,iV ab.1)] L s (WL 27 Bl am K O U f48 (aK))) ?_ ?_
   ·rintro _ _ ⟨am,f48,rfl,rfl,bc,bd,bf⟩;obtain⟨bg,bh,bi⟩:=bs bb;refine zg 3 rfl ?_;refine JL.Y rfl (fun ρ h=>Yl.A6 (h _ _ rfl) (h _ _ rfl) bh) ?_;refine zg 2 rfl ?_;obtain rfl:=oi bi;exact JL.kw (a8 _ _ (bg,aK) ⟨am,f48,rfl,rfl,(aH.trans bc),bd,bf⟩ aw) rfl
   ·intro bj;refine JL.block ?_;refine JL.wk [(0,.slice (some ⟨K,0,none⟩) U O),(1,iV p1),(2,iV p2),(3,(.func (.func 125) #[] #[])),(8,iV ab.1),(9,iV ab.1)] rfl ?_;refine JL.Bq ba (fun L s ae=>∃(aj:LH) (f58:Array Value),Jn ag H aj [[(K,.cells f58 27 (0,0))]] [(0,.slice (some ⟨K,0,none⟩) U O),(1,iV p1),(2,iV p2),(3,(.func (.func 125) #[] #[])),(8,iV ab.1),(9,iV ae.1)] L s (WL 27 Bl aj K O U f58 (ae.2))) ⟨ag,f25,rfl,rfl,(Le.refl _),aI,aJ⟩ ?_;rintro _ _ ae ⟨aj,f58,rfl,rfl,aL,ak,W⟩ bk ⟨bV,aA⟩ bl;have aM:=aA;unfold GX at aM;refine zg 2 rfl ?_;refine JG.Cn 17 [K] ⟨⟨0,_,rfl⟩,trivial⟩ ak mixed rfl (by decide+kernel) fun ht=>?_;refine JG.ms ht rfl [0,1,2,3] rfl ?_;obtain⟨aN,aO,aP⟩:=bs aM;refine Au.join 0 #[true,true,true,true,true,true,true,true,true,true,true,true,true,true,true,true,true] (fun L s=>∃(an:LH),Jm aj H an [[(K,.cells f58 27 (0,0))]] [(0,.slice (some ⟨K,0,none⟩) U O),(1,iV p1),(2,iV p2),(3,(.func (.func 125) #[] #[])),(8,iV ab.1),(9,iV ae.1),(34,.bool aN)] L s) ?_ ?_
    ·rintro _ _ ⟨an,rfl,rfl,ai,ao⟩;refine Au.fin (by decide+kernel) ?_;refine JL.split (t:=aN) rfl (fun aB=>?_) (fun aB=>?_)
     ·have bm:=ip aP aB;refine zg 3 rfl ?_;refine JB.draw [15,17] [K] mixed rfl ?_;refine JB.mv 0 rfl rfl ?_;refine JB.mv 1 rfl rfl ?_;refine JB.mv 2 rfl rfl ?_;refine JB.mv 3 rfl rfl ?_;obtain⟨aC,bn,bo⟩:=bs bm;refine JB.V 4 true rfl rfl (fun ρ h s' hs=>Yl.Ba (h _ _ rfl) (h _ _ rfl) bn) ?_;refine JB.mv 5 rfl rfl ?_;refine JB.mv 6 rfl rfl ?_;obtain⟨bW,bp,bq⟩:=bs bo;refine JB.V 7 true rfl rfl (fun ρ h s' hs=>Yl.Ba (h _ _ rfl) (h _ _ rfl) bp) ?_;obtain⟨Z,aQ,br⟩:=bs bq;obtain⟨_,⟨_,_,rfl,rfl,rfl⟩,bu⟩:=WL.at (W.mono ai) aQ;refine JB.V 8 true rfl rfl (fun ρ h s' hs=>Yl.Be W.2 aQ underlying25 (Ag type27) (h _ _ rfl) (h _ _ rfl)) ?_;refine JB.val (v:= .agg #[iV Z.1,iV Z.2]) 9 false rfl (by decide+kernel) rfl rfl rfl (fun ρ h s' hs=>have hs:=hs rfl;Yl.Bp (vs:= [iV Z.1,iV Z.2]) (An underlying27) (Ag type27) (h _ _ rfl) (fun q w ah=>by rw [Bd rfl];exact Bh 0 ao rfl (by simp [AA]) hs (bu q w ah))) ?_;refine JB.mv 10 rfl rfl ?_;refine JB.mv 11 rfl rfl ?_;obtain⟨aa,ap,bv⟩:=bs br;obtain⟨_,⟨_,_,rfl,rfl,rfl⟩,bw⟩:=WL.at (W.mono ai) ap;refine JB.V 12 true rfl rfl (fun ρ h s' hs=>Yl.Be W.2 ap underlying25 (Ag type27) (h _ _ rfl) (h _ _ rfl)) ?_;refine JB.val (v:= .agg #[iV aa.1,iV aa.2]) 13 false rfl (by decide+kernel) rfl rfl rfl (fun ρ h s' hs=>have hs:=hs rfl;Yl.Bp (vs:= [iV aa.1,iV aa.2]) (An underlying27) (Ag type27) (h _ _ rfl) (fun q w ah=>by rw [Bd rfl];exact Bh 0 ao rfl (by simp [AA]) hs (bw q w ah))) ?_;refine JB.V 14 true rfl rfl (fun ρ h s' hs=>Yl.Be W.2 ap underlying25 (Ag type27) (h _ _ rfl) (h _ _ rfl)) ?_;have al:=WL.put (x':=Z) (ws':= [iV Z.1,iV Z.2]) (W.mono ai) W.2 ap ⟨_,_,rfl,rfl,rfl⟩;refine JB.store (v:= .agg #[iV Z.1,iV Z.2]) (off:=Int.toNat (ae.1)*2) 15 0 (by decide+kernel) (by decide+kernel) rfl rfl rfl ao rfl rfl (Ag type27) (by simp [Value.cells,BJ]) rfl al.2 fun bx=>?_;obtain⟨bX,aD,bz⟩:=bs bv;obtain⟨_,⟨_,_,rfl,rfl,rfl⟩,bY⟩:=WL.at al.1 aD;refine JB.V 16 true rfl rfl (fun ρ h s' hs=>Yl.Be (al.1).2 aD underlying25 (Ag type27) (h _ _ rfl) (h _ _ rfl)) ?_;have aR:=WL.put (x':=aa) (ws':= [iV aa.1,iV aa.2]) al.1 (al.1).2 aD ⟨_,_,rfl,rfl,rfl⟩;refine JB.store (v:= .agg #[iV aa.1,iV aa.2]) (off:=Int.toNat (aC)*2) 17 0 (by decide+kernel) (by decide+kernel) rfl rfl rfl bx rfl rfl (Ag type27) (by simp [Value.cells,BJ]) rfl aR.2 fun bA=>?_;refine JB.fin (by decide+kernel) ?_;obtain⟨bB,bC,bD⟩:=bs bz;refine zg 3 rfl ?_;refine JL.Y rfl (fun ρ h=>Yl.Ba (h _ _ rfl) (h _ _ rfl) bC) ?_;refine zg 2 rfl ?_;obtain rfl:=oi bD;exact JL.kw (bl _ _ (bB,((ae.2.set (Int.toNat ae.1) Z).set (Int.toNat aC) aa)) ⟨an,(A0 (A0 f58 (Int.toNat (ae.1)*2) [iV Z.1,iV Z.2]) (Int.toNat (aC)*2) [iV aa.1,iV aa.2]),rfl,rfl,(aL.trans ai),bA,aR.1⟩ aA) rfl
     ·have bE:=ib aP aB;refine JL.exit rfl ?_;obtain rfl:=oi bE;obtain rfl:=bk _ aA;exact JL.kw (bj _ _ ⟨an,f58,rfl,rfl,(aL.trans ai),ao,(W.mono ai)⟩) rfl
    ·intro aS;refine Au.Cm (q:=p1<ae.1) (i:=21) rfl (fun aE=>?_) (fun aE=>?_)
     ·have bF:=ip aO aE;refine JG.ms ht rfl [4,5,6] rfl ?_;obtain⟨aq,aT,bG⟩:=bs bF;obtain⟨_,⟨_,_,rfl,rfl,rfl⟩,bH⟩:=WL.at W aT;refine JG.V 7 ht rfl rfl (fun ρ h s' hs=>Yl.Be (W).2 aT underlying25 (Ag type27) (h _ _ rfl) (h _ _ rfl)) ?_;refine JG.V 8 ht rfl rfl (fun ρ h s' hs=>Yl.Bp (vs:= [iV aq.1,iV aq.2]) (An underlying27) (Ag type27) (h _ _ rfl) (fun q w ah=>by rw [Bd rfl];exact Bh 0 ak rfl (by simp [AA]) hs (bH q w ah))) ?_;refine JG.ms ht rfl [9,10] rfl ?_;obtain⟨bZ,bI,bJ⟩:=bs bG;refine JG.V 11 ht rfl rfl (fun ρ h s' hs=>Yl.Ba (h _ _ rfl) (h _ _ rfl) bI) ?_;obtain⟨ar,aU,bK⟩:=bs bJ;obtain⟨_,⟨_,_,rfl,rfl,rfl⟩,bL⟩:=WL.at W aU;refine JG.V 12 ht rfl rfl (fun ρ h s' hs=>Yl.Be (W).2 aU underlying25 (Ag type27) (h _ _ rfl) (h _ _ rfl)) ?_;refine JG.V 13 ht rfl rfl (fun ρ h s' hs=>Yl.Bp (vs:= [iV ar.1,iV ar.2]) (An underlying27) (Ag type27) (h _ _ rfl) (fun q w ah=>by rw [Bd rfl];exact Bh 0 ak rfl (by simp [AA]) hs (bL q w ah))) ?_;obtain⟨b0,bM,bN⟩:=bs bK;refine JG.FC (i:=14) ⟨⟨0,_,rfl⟩,trivial⟩ (vs:= [.agg #[iV aq.1,iV aq.2],.agg #[iV ar.1,iV ar.2]]) (Sd bM) (by decide+kernel) rfl rfl rfl rfl (Aw func125 rfl) rfl ak ?_;rintro _ bO _ bP ⟨rfl,rfl⟩ bQ;refine JG.ms ht rfl [15,16] rfl ?_;obtain rfl:=oi bN;refine Au.Cc ?_ (aS _ _ ⟨bO,rfl,rfl,bP,bQ⟩);exact⟨rfl,rfl,rfl,rfl,rfl,rfl,rfl,trivial⟩
     ·have bR:=im aO aE;refine JG.ms ht rfl [4,5,6,7,8,9,10,11,12,13,14,15,16] rfl ?_;obtain rfl:=oi bR;refine Au.Cc ?_ (aS _ _ ⟨aj,rfl,rfl,(Le.refl _),ak⟩);exact⟨rfl,rfl,rfl,rfl,rfl,rfl,rfl,trivial⟩
  ·have bS:=im ay az;refine JL.exit rfl ?_;obtain rfl:=oi bS;obtain rfl:=a7 _ aw;exact JL.kw (a6 _ _ ⟨ag,f25,rfl,rfl,aH,aI,aJ⟩) rfl
def Ka(fuel:Nat)(p1:Int)(K:Int×Int×(AT)):Option (A8 (Int×Int×(AT)) (Int×(AT))):=
 if K.2.1≤p1 then(
  (f168 fuel K.2.2 K.1 K.2.1).bind fun O=>
  (Ay (K.2.1+20)).bind fun U=>
  some (.more (K.2.1,U,O))
 ) else(
  some (.done (K.1,K.2.2))
 )
def MZ(fuel:Nat)(p1:Int)(K:Int)(O:Int)(U:Unit):Option (A8 (Unit) (Unit)):=
 if O≤p1 then(
  (Ay (0+K)).bind fun W=>
  none
 ) else(
  some (.done ())
 )
def J7(fuel:Nat)(p1:Int)(K:Int):Option (A8 (Int) (Unit)):=
 if K<p1 then(
  (Ay (2*K)).bind fun O=>
  Option.bind (iter (MZ fuel p1 K O) fuel ()) fun Z=>
  (Ay (0+K)).bind fun U=>
  Option.bind (
   if U<p1 then(
    none
   ) else(
    some ()
   )
  ) fun aa=>
  (Ay (K*2)).bind fun W=>
  some (.more W)
 ) else(
  some (.done ())
 )
def f138(fuel:Nat)(p0:AT)(p1:Int):Option ((AT)):=
 Option.bind (iter (Ka fuel p1) fuel (0,20,p0)) fun K=>
 (f168 fuel K.2 K.1 p1).bind fun O=>
 Option.bind (iter (J7 fuel p1) fuel 20) fun U=>
 some O
theorem RL{K:Nat}{O:Nat}{U:Nat}{ag:Array Value}{p0:AT}{p1:Int}(hW:WL 27 Bl E K O U ag p0){fuel:Nat}{r:(AT)}(ay:f138 fuel p0 p1=some r):As J 138 [.slice (some ⟨K,0,none⟩) U O,iV p1,(.func (.func 125) #[] #[])] E [(K,.cells ag 27 (0,0))] (fun w E' B'=>∃(az:Array Value),w= .tuple #[]∧B'= [(K,.cells az 27 (0,0))]∧WL 27 Bl E' K O U az (r)):=by
 refine As.en func138 rfl rfl fun Q bO cs H aK aL=>?_;unfold f138 at ay;obtain⟨aA,aM,aN⟩:=bs ay;refine zg 11 rfl ?_;refine JL.join (fun L s=>∃(ah:LH) (f15:Array Value),Jn E H ah [[(K,.cells f15 27 (0,0))]] [(0,.slice (some ⟨K,0,none⟩) U O),(1,iV p1),(2,(.func (.func 125) #[] #[])),(6,iV 20),(7,iV aA.1)] L s (WL 27 Bl ah K O U f15 (aA.2))) ?_ ?_
 ·rintro _ _ ⟨ah,f15,rfl,rfl,aO,aP,aQ⟩;obtain⟨bP,aR,aS⟩:=bs aN;refine zg 6 rfl ?_;refine JS.Bu 0 (Nk aQ aR) rfl rfl (Aw func168 rfl) aP rfl ?_;rintro _ ai _ aT ⟨f23,rfl,rfl,aU⟩ aV;obtain⟨bQ,aW,aX⟩:=bs aS;refine JL.done ?_;refine JL.join (fun L s=>∃(aB:LH),Jm ai H aB [[(K,.cells f23 27 (0,0))]] [] L s) ?_ ?_
  ·rintro _ _ ⟨aB,rfl,rfl,aC,aY⟩;obtain rfl:=oi aX;refine JL.fin (v:= .tuple #[]) rfl rfl (Bv.list func138 rfl (vs:= []) trivial) ?_;exact aL _ _ _ _ ((aO.trans aT).trans aC) rfl ⟨f23,rfl,(by first | rfl | simp | (simp [Value.cells])),(aU.mono aC)⟩ aY
  ·intro aZ;refine JL.block ?_;refine JL.wk [(0,.slice (some ⟨K,0,none⟩) U O),(1,iV p1),(2,(.func (.func 125) #[] #[])),(6,iV 20)] rfl ?_;refine JL.Bq aW (fun L s W=>∃(Z:LH),Jm ai H Z [[(K,.cells f23 27 (0,0))]] [(0,.slice (some ⟨K,0,none⟩) U O),(1,iV p1),(2,(.func (.func 125) #[] #[])),(6,iV W)] L s) ⟨ai,rfl,rfl,(Le.refl _),aV⟩ ?_;rintro _ _ W ⟨Z,rfl,rfl,aD,aE⟩ a0 ⟨bR,aj⟩ a1;have ak:=aj;unfold J7 at ak;refine zg 7 rfl ?_;refine JL.ifs (p:=W<p1) rfl (fun al=>?_) (fun al=>?_)
   ·have a2:=ip ak al;obtain⟨am,a3,a4⟩:=bs a2;refine zg 5 rfl ?_;refine JL.Y rfl (fun ρ h=>Yl.mulC (h _ _ rfl) (h _ _ rfl) a3) ?_;obtain⟨bS,a5,a6⟩:=bs a4;refine zg 4 rfl ?_;refine JL.join (fun L s=>∃(ab:LH),Jm Z H ab [[(K,.cells f23 27 (0,0))]] [(0,.slice (some ⟨K,0,none⟩) U O),(1,iV p1),(2,(.func (.func 125) #[] #[])),(6,iV W),(7,iV 0)] L s) ?_ ?_
    ·rintro _ _ ⟨ab,rfl,rfl,a7,a8⟩;obtain⟨a9,ba,bb⟩:=bs a6;refine zg 5 rfl ?_;refine JL.Y rfl (fun ρ h=>Yl.A6 (h _ _ rfl) (h _ _ rfl) ba) ?_;obtain⟨bT,aF,bc⟩:=bs bb;refine zg 8 rfl ?_;refine JL.join (fun L s=>∃(an:LH),Jm ab H an [[(K,.cells f23 27 (0,0))]] [(0,.slice (some ⟨K,0,none⟩) U O),(1,iV p1),(2,(.func (.func 125) #[] #[])),(6,iV W)] L s) ?_ ?_
     ·rintro _ _ ⟨an,rfl,rfl,bd,bf⟩;obtain⟨bg,bh,bi⟩:=bs bc;refine zg 2 rfl ?_;refine JL.Y rfl (fun ρ h=>Yl.mulC (h _ _ rfl) (h _ _ rfl) bh) ?_;refine zg 3 rfl ?_;obtain rfl:=oi bi;exact JL.kw (a1 _ _ bg ⟨an,rfl,rfl,((aD.trans a7).trans bd),bf⟩ aj) rfl
     ·intro bj;refine JL.ifs (p:=a9<p1) rfl (fun ao=>?_) (fun ao=>?_)
      ·have bk:=ip aF ao;refine zg 6 rfl ?_;cases bk
      ·have bl:=im aF ao;refine JL.skip ?_;obtain rfl:=oi bl;exact JL.kw (bj _ _ ⟨ab,rfl,rfl,(Le.refl _),a8⟩) rfl
    ·intro bm;refine JL.block ?_;refine JL.wk [(0,.slice (some ⟨K,0,none⟩) U O),(1,iV p1),(2,(.func (.func 125) #[] #[])),(6,iV W),(7,iV 0),(8,iV am)] rfl ?_;refine JL.Bq a5 (fun L s bn=>∃(ap:LH),Jm Z H ap [[(K,.cells f23 27 (0,0))]] [(0,.slice (some ⟨K,0,none⟩) U O),(1,iV p1),(2,(.func (.func 125) #[] #[])),(6,iV W),(7,iV 0),(8,iV am)] L s) ⟨Z,rfl,rfl,(Le.refl _),aE⟩ ?_;rintro _ _ bn ⟨ap,rfl,rfl,bo,bp⟩ bq ⟨bU,aG⟩ bV;have aq:=aG;unfold MZ at aq;refine zg 7 rfl ?_;refine JL.ifs (p:=am≤p1) rfl (fun ar=>?_) (fun ar=>?_)
     ·have br:=ip aq ar;obtain⟨bW,bu,bv⟩:=bs br;refine zg 8 rfl ?_;refine JL.Y rfl (fun ρ h=>Yl.A6 (h _ _ rfl) (h _ _ rfl) bu) ?_;refine zg 2 rfl ?_;cases bv
     ·have bw:=im aq ar;refine JL.exit rfl ?_;obtain rfl:=oi bw;obtain rfl:=bq _ aG;exact JL.kw (bm _ _ ⟨ap,rfl,rfl,bo,bp⟩) rfl
   ·have bx:=im ak al;refine JL.exit rfl ?_;obtain rfl:=oi bx;obtain rfl:=a0 _ aj;exact JL.kw (aZ _ _ ⟨Z,rfl,rfl,aD,aE⟩) rfl
 ·intro bz;refine JL.block ?_;refine JL.wk [(0,.slice (some ⟨K,0,none⟩) U O),(1,iV p1),(2,(.func (.func 125) #[] #[])),(6,iV 20),(7,iV 0),(8,iV 20)] rfl ?_;refine JL.Bq aM (fun L s aa=>∃(ae:LH) (f104:Array Value),Jn E H ae [[(K,.cells f104 27 (0,0))]] [(0,.slice (some ⟨K,0,none⟩) U O),(1,iV p1),(2,(.func (.func 125) #[] #[])),(6,iV 20),(7,iV aa.1),(8,iV aa.2.1)] L s (WL 27 Bl ae K O U f104 (aa.2.2))) ⟨E,ag,rfl,rfl,(Le.refl _),aK,hW⟩ ?_;rintro _ _ aa ⟨ae,f104,rfl,rfl,aH,aI,aJ⟩ bA ⟨bX,au⟩ bB;have av:=au;unfold Ka at av;refine zg 7 rfl ?_;refine JL.ifs (p:=aa.2.1≤p1) rfl (fun aw=>?_) (fun aw=>?_)
  ·have bC:=ip av aw;obtain⟨bD,bE,bF⟩:=bs bC;refine zg 8 rfl ?_;refine JS.Bu 0 (Nk aJ bE) rfl rfl (Aw func168 rfl) aI rfl ?_;rintro _ bG _ bH ⟨f119,rfl,rfl,bI⟩ bJ;obtain⟨bK,bL,bM⟩:=bs bF;refine zg 9 rfl ?_;refine JL.Y rfl (fun ρ h=>Yl.A6 (h _ _ rfl) (h _ _ rfl) bL) ?_;refine zg 3 rfl ?_;obtain rfl:=oi bM;exact JL.kw (bB _ _ (aa.2.1,bK,bD) ⟨bG,f119,rfl,rfl,(aH.trans bH),bJ,bI⟩ au) rfl
  ·have bN:=im av aw;refine JL.exit rfl ?_;obtain rfl:=oi bN;obtain rfl:=bA _ au;exact JL.kw (bz _ _ ⟨ae,f104,rfl,rfl,aH,aI,aJ⟩) rfl
def f124(fuel:Nat)(p0:AT):Option ((AT)):=
 (f138 fuel p0 ((p0).length:Int)).bind fun K=>
 some K
theorem RR{K:Nat}{O:Nat}{U:Nat}{W:Array Value}{p0:AT}(hW:WL 27 Bl E K O U W p0){fuel:Nat}{r:(AT)}(Z:f124 fuel p0=some r):As J 124 [.slice (some ⟨K,0,none⟩) U O,(.func (.func 125) #[] #[])] E [(K,.cells W 27 (0,0))] (fun w E' B'=>∃(aa:Array Value),w= .tuple #[]∧B'= [(K,.cells aa 27 (0,0))]∧WL 27 Bl E' K O U aa (r)):=by
 refine As.en func124 rfl rfl fun Q al cs H ab ae=>?_;unfold f124 at Z;refine zg 3 rfl ?_;refine JL.Y (v:=iV ((p0).length:Int)) rfl (fun ρ h=>Yl.Of (hW).2 rfl underlying25 (h _ _ rfl)) ?_;obtain⟨am,ag,ah⟩:=bs Z;refine zg 1 rfl ?_;refine JS.Bu 0 (RL hW ag) rfl rfl (Aw func138 rfl) ab rfl ?_;rintro _ an _ ai ⟨f7,rfl,rfl,aj⟩ ak;refine JL.done ?_;obtain rfl:=oi ah;refine JL.fin (v:= .tuple #[]) rfl rfl (Bv.list func124 rfl (vs:= []) trivial) ?_;exact ae _ _ _ _ ai rfl ⟨f7,rfl,(by first | rfl | simp | (simp [Value.cells])),aj⟩ ak
def Mj(fuel:Nat)(p1:Int)(K:Int)(U:Unit):Option (A8 (Unit) (Unit)):=
 Option.bind (
  if p1<K then(
   none
  ) else(
   some false
  )
 ) fun O=>
 if O=true then(
  (Ay (K - 1)).bind fun W=>
  (Ay (K - 1)).bind fun Z=>
  none
 ) else(
  some (.done ())
 )
def Ms(fuel:Nat)(p1:Int)(p2:Int)(K:Int):Option (A8 (Int) (Unit)):=
 if K<p2 then(
  Option.bind (iter (Mj fuel p1 K) fuel ()) fun U=>
  (Ay (K+1)).bind fun O=>
  some (.more O)
 ) else(
  some (.done ())
 )
def Jk(fuel:Nat)(p1:Int)(p2:Int):Option (Unit):=
 (Ay (p1+1)).bind fun K=>
 Option.bind (iter (Ms fuel p1 p2) fuel K) fun O=>
 some ()
theorem MG{p1:Int}{p2:Int}{fuel:Nat}{r:Unit}(ai:Jk fuel p1 p2=some r):As J 168 [.slice none 0 0,iV p1,iV p2,(.func (.func 125) #[] #[])] E [] (fun w E' B'=>w= .tuple #[]∧B'= []):=by
 refine As.en func168 rfl rfl fun Q a5 cs H ar au=>?_;unfold Jk at ai;obtain⟨av,aw,ay⟩:=bs ai;refine zg 3 rfl ?_;refine JL.Y rfl (fun ρ h=>Yl.A6 (h _ _ rfl) (h _ _ rfl) aw) ?_;obtain⟨a6,az,aA⟩:=bs ay;refine zg 2 rfl ?_;refine JL.join (fun L s=>∃(aj:LH),Jm E H aj [] [] L s) ?_ ?_
 ·rintro _ _ ⟨aj,rfl,rfl,aB,aC⟩;obtain rfl:=oi aA;refine JL.fin (v:= .tuple #[]) rfl rfl (Bv.list func168 rfl (vs:= []) trivial) ?_;exact au _ _ _ _ aB rfl ⟨rfl,rfl⟩ aC
 ·intro aD;refine JL.block ?_;refine JL.wk [(0,.slice none 0 0),(1,iV p1),(2,iV p2),(3,(.func (.func 125) #[] #[])),(8,iV av)] rfl ?_;refine JL.Bq az (fun L s K=>∃(O:LH),Jm E H O [] [(0,.slice none 0 0),(1,iV p1),(2,iV p2),(3,(.func (.func 125) #[] #[])),(8,iV K)] L s) ⟨E,rfl,rfl,(Le.refl _),ar⟩ ?_;rintro _ _ K ⟨O,rfl,rfl,ak,al⟩ aE ⟨a7,W⟩ aF;have Z:=W;unfold Ms at Z;refine zg 7 rfl ?_;refine JL.ifs (p:=K<p2) rfl (fun aa=>?_) (fun aa=>?_)
  ·have aG:=ip Z aa;obtain⟨a8,aH,aI⟩:=bs aG;refine zg 8 rfl ?_;refine JL.join (fun L s=>∃(ab:LH),Jm O H ab [] [(0,.slice none 0 0),(1,iV p1),(2,iV p2),(3,(.func (.func 125) #[] #[])),(8,iV K)] L s) ?_ ?_
   ·rintro _ _ ⟨ab,rfl,rfl,aJ,aK⟩;obtain⟨aL,aM,aN⟩:=bs aI;refine zg 3 rfl ?_;refine JL.Y rfl (fun ρ h=>Yl.A6 (h _ _ rfl) (h _ _ rfl) aM) ?_;refine zg 2 rfl ?_;obtain rfl:=oi aN;exact JL.kw (aF _ _ aL ⟨ab,rfl,rfl,(ak.trans aJ),aK⟩ W) rfl
   ·intro aO;refine JL.block ?_;refine JL.wk [(0,.slice none 0 0),(1,iV p1),(2,iV p2),(3,(.func (.func 125) #[] #[])),(8,iV K),(9,iV K)] rfl ?_;refine JL.Bq aH (fun L s aP=>∃(U:LH),Jm O H U [] [(0,.slice none 0 0),(1,iV p1),(2,iV p2),(3,(.func (.func 125) #[] #[])),(8,iV K),(9,iV K)] L s) ⟨O,rfl,rfl,(Le.refl _),al⟩ ?_;rintro _ _ aP ⟨U,rfl,rfl,aQ,aR⟩ aS ⟨a9,am⟩ ba;have an:=am;unfold Mj at an;refine zg 2 rfl ?_;refine JG.Dm 17 mixed rfl (by decide+kernel) fun ht=>?_;refine JG.ms ht rfl [0,1,2,3] rfl ?_;obtain⟨ao,ap,aq⟩:=bs an;refine Au.join 0 #[true,true,true,true,true,true,true,true,true,true,true,true,true,true,true,true,true] (fun L s=>∃(ae:LH),Jm U H ae [] [(0,.slice none 0 0),(1,iV p1),(2,iV p2),(3,(.func (.func 125) #[] #[])),(8,iV K),(9,iV K),(34,.bool ao)] L s) ?_ ?_
    ·rintro _ _ ⟨ae,rfl,rfl,aT,aU⟩;refine Au.fin (by decide+kernel) ?_;refine JL.split (t:=ao) rfl (fun ag=>?_) (fun ag=>?_)
     ·have aV:=ip aq ag;refine zg 3 rfl ?_;refine JG.Dm 16 mixed rfl (by decide+kernel) fun ht=>?_;refine JG.ms ht rfl [0,1,2,3] rfl ?_;obtain⟨bb,aW,aX⟩:=bs aV;refine JG.V 4 ht rfl rfl (fun ρ h s' hs=>Yl.Ba (h _ _ rfl) (h _ _ rfl) aW) ?_;refine JG.ms ht rfl [5,6] rfl ?_;obtain⟨bc,aY,aZ⟩:=bs aX;refine JG.V 7 ht rfl rfl (fun ρ h s' hs=>Yl.Ba (h _ _ rfl) (h _ _ rfl) aY) ?_;cases aZ
     ·have a0:=ib aq ag;refine JL.exit rfl ?_;obtain rfl:=oi a0;obtain rfl:=aS _ am;exact JL.kw (aO _ _ ⟨ae,rfl,rfl,(aQ.trans aT),aU⟩) rfl
    ·intro a1;refine Au.Cm (q:=p1<K) (i:=21) rfl (fun ah=>?_) (fun ah=>?_)
     ·have a2:=ip ap ah;refine JG.ms ht rfl [4,5,6] rfl ?_;cases a2
     ·have a3:=im ap ah;refine JG.ms ht rfl [4,5,6,7,8,9,10,11,12,13,14,15,16] rfl ?_;obtain rfl:=oi a3;refine Au.Cc ?_ (a1 _ _ ⟨U,rfl,rfl,(Le.refl _),aR⟩);exact⟨rfl,rfl,rfl,rfl,rfl,rfl,rfl,trivial⟩
  ·have a4:=im Z aa;refine JL.exit rfl ?_;obtain rfl:=oi a4;obtain rfl:=aE _ W;exact JL.kw (aD _ _ ⟨O,rfl,rfl,ak,al⟩) rfl
def Mw(fuel:Nat)(p1:Int)(K:Int×Int):Option (A8 (Int×Int) (Int)):=
 if K.2≤p1 then(
  (Jk fuel K.1 K.2).bind fun U=>
  (Ay (K.2+20)).bind fun O=>
  some (.more (K.2,O))
 ) else(
  some (.done K.1)
 )
def Mq(fuel:Nat)(p1:Int)(K:Int)(O:Int)(U:Unit):Option (A8 (Unit) (Unit)):=
 if O≤p1 then(
  (Ay (0+K)).bind fun W=>
  none
 ) else(
  some (.done ())
 )
def Mh(fuel:Nat)(p1:Int)(K:Int):Option (A8 (Int) (Unit)):=
 if K<p1 then(
  (Ay (2*K)).bind fun O=>
  Option.bind (iter (Mq fuel p1 K O) fuel ()) fun Z=>
  (Ay (0+K)).bind fun U=>
  Option.bind (
   if U<p1 then(
    none
   ) else(
    some ()
   )
  ) fun aa=>
  (Ay (K*2)).bind fun W=>
  some (.more W)
 ) else(
  some (.done ())
 )
def KM(fuel:Nat)(p1:Int):Option (Unit):=
 Option.bind (iter (Mw fuel p1) fuel (0,20)) fun K=>
 (Jk fuel K p1).bind fun O=>
 Option.bind (iter (Mh fuel p1) fuel 20) fun U=>
 some ()
theorem QX{p1:Int}{fuel:Nat}{r:Unit}(aq:KM fuel p1=some r):As J 138 [.slice none 0 0,iV p1,(.func (.func 125) #[] #[])] E [] (fun w E' B'=>w= .tuple #[]∧B'= []):=by
 refine As.en func138 rfl rfl fun Q bE cs H aC aD=>?_;unfold KM at aq;obtain⟨aE,aF,aG⟩:=bs aq;refine zg 11 rfl ?_;refine JL.join (fun L s=>∃(ar:LH),Jm E H ar [] [(0,.slice none 0 0),(1,iV p1),(2,(.func (.func 125) #[] #[])),(6,iV 20),(7,iV aE)] L s) ?_ ?_
 ·rintro _ _ ⟨ar,rfl,rfl,aH,aI⟩;obtain⟨bF,aJ,aK⟩:=bs aG;refine zg 6 rfl ?_;refine JS.cl (MG aJ) rfl rfl (Aw func168 rfl) aI ?_;rintro _ Z _ aL ⟨rfl,rfl⟩ aM;obtain⟨bG,aN,aO⟩:=bs aK;refine JL.done ?_;refine JL.join (fun L s=>∃(au:LH),Jm Z H au [] [] L s) ?_ ?_
  ·rintro _ _ ⟨au,rfl,rfl,aP,aQ⟩;obtain rfl:=oi aO;refine JL.fin (v:= .tuple #[]) rfl rfl (Bv.list func138 rfl (vs:= []) trivial) ?_;exact aD _ _ _ _ ((aH.trans aL).trans aP) rfl ⟨rfl,rfl⟩ aQ
  ·intro aR;refine JL.block ?_;refine JL.wk [(0,.slice none 0 0),(1,iV p1),(2,(.func (.func 125) #[] #[])),(6,iV 20)] rfl ?_;refine JL.Bq aN (fun L s K=>∃(O:LH),Jm Z H O [] [(0,.slice none 0 0),(1,iV p1),(2,(.func (.func 125) #[] #[])),(6,iV K)] L s) ⟨Z,rfl,rfl,(Le.refl _),aM⟩ ?_;rintro _ _ K ⟨O,rfl,rfl,av,aw⟩ aS ⟨bH,aa⟩ aT;have ab:=aa;unfold Mh at ab;refine zg 7 rfl ?_;refine JL.ifs (p:=K<p1) rfl (fun ae=>?_) (fun ae=>?_)
   ·have aU:=ip ab ae;obtain⟨ag,aV,aW⟩:=bs aU;refine zg 5 rfl ?_;refine JL.Y rfl (fun ρ h=>Yl.mulC (h _ _ rfl) (h _ _ rfl) aV) ?_;obtain⟨bI,aX,aY⟩:=bs aW;refine zg 4 rfl ?_;refine JL.join (fun L s=>∃(W:LH),Jm O H W [] [(0,.slice none 0 0),(1,iV p1),(2,(.func (.func 125) #[] #[])),(6,iV K),(7,iV 0)] L s) ?_ ?_
    ·rintro _ _ ⟨W,rfl,rfl,aZ,a0⟩;obtain⟨a1,a2,a3⟩:=bs aY;refine zg 5 rfl ?_;refine JL.Y rfl (fun ρ h=>Yl.A6 (h _ _ rfl) (h _ _ rfl) a2) ?_;obtain⟨bJ,ay,a4⟩:=bs a3;refine zg 8 rfl ?_;refine JL.join (fun L s=>∃(ah:LH),Jm W H ah [] [(0,.slice none 0 0),(1,iV p1),(2,(.func (.func 125) #[] #[])),(6,iV K)] L s) ?_ ?_
     ·rintro _ _ ⟨ah,rfl,rfl,a5,a6⟩;obtain⟨a7,a8,a9⟩:=bs a4;refine zg 2 rfl ?_;refine JL.Y rfl (fun ρ h=>Yl.mulC (h _ _ rfl) (h _ _ rfl) a8) ?_;refine zg 3 rfl ?_;obtain rfl:=oi a9;exact JL.kw (aT _ _ a7 ⟨ah,rfl,rfl,((av.trans aZ).trans a5),a6⟩ aa) rfl
     ·intro ba;refine JL.ifs (p:=a1<p1) rfl (fun ai=>?_) (fun ai=>?_)
      ·have bb:=ip ay ai;refine zg 6 rfl ?_;cases bb
      ·have bc:=im ay ai;refine JL.skip ?_;obtain rfl:=oi bc;exact JL.kw (ba _ _ ⟨W,rfl,rfl,(Le.refl _),a0⟩) rfl
    ·intro bd;refine JL.block ?_;refine JL.wk [(0,.slice none 0 0),(1,iV p1),(2,(.func (.func 125) #[] #[])),(6,iV K),(7,iV 0),(8,iV ag)] rfl ?_;refine JL.Bq aX (fun L s bf=>∃(aj:LH),Jm O H aj [] [(0,.slice none 0 0),(1,iV p1),(2,(.func (.func 125) #[] #[])),(6,iV K),(7,iV 0),(8,iV ag)] L s) ⟨O,rfl,rfl,(Le.refl _),aw⟩ ?_;rintro _ _ bf ⟨aj,rfl,rfl,bg,bh⟩ bi ⟨bK,az⟩ bL;have ak:=az;unfold Mq at ak;refine zg 7 rfl ?_;refine JL.ifs (p:=ag≤p1) rfl (fun al=>?_) (fun al=>?_)
     ·have bj:=ip ak al;obtain⟨bM,bk,bl⟩:=bs bj;refine zg 8 rfl ?_;refine JL.Y rfl (fun ρ h=>Yl.A6 (h _ _ rfl) (h _ _ rfl) bk) ?_;refine zg 2 rfl ?_;cases bl
     ·have bm:=im ak al;refine JL.exit rfl ?_;obtain rfl:=oi bm;obtain rfl:=bi _ az;exact JL.kw (bd _ _ ⟨aj,rfl,rfl,bg,bh⟩) rfl
   ·have bn:=im ab ae;refine JL.exit rfl ?_;obtain rfl:=oi bn;obtain rfl:=aS _ aa;exact JL.kw (aR _ _ ⟨O,rfl,rfl,av,aw⟩) rfl
 ·intro bo;refine JL.block ?_;refine JL.wk [(0,.slice none 0 0),(1,iV p1),(2,(.func (.func 125) #[] #[])),(6,iV 20),(7,iV 0),(8,iV 20)] rfl ?_;refine JL.Bq aF (fun L s U=>∃(am:LH),Jm E H am [] [(0,.slice none 0 0),(1,iV p1),(2,(.func (.func 125) #[] #[])),(6,iV 20),(7,iV U.1),(8,iV U.2)] L s) ⟨E,rfl,rfl,(Le.refl _),aC⟩ ?_;rintro _ _ U ⟨am,rfl,rfl,aA,aB⟩ bp ⟨bN,an⟩ bq;have ao:=an;unfold Mw at ao;refine zg 7 rfl ?_;refine JL.ifs (p:=U.2≤p1) rfl (fun ap=>?_) (fun ap=>?_)
  ·have br:=ip ao ap;obtain⟨bO,bu,bv⟩:=bs br;refine zg 8 rfl ?_;refine JS.cl (MG bu) rfl rfl (Aw func168 rfl) aB ?_;rintro _ bw _ bx ⟨rfl,rfl⟩ bz;obtain⟨bA,bB,bC⟩:=bs bv;refine zg 9 rfl ?_;refine JL.Y rfl (fun ρ h=>Yl.A6 (h _ _ rfl) (h _ _ rfl) bB) ?_;refine zg 3 rfl ?_;obtain rfl:=oi bC;exact JL.kw (bq _ _ (U.2,bA) ⟨bw,rfl,rfl,(aA.trans bx),bz⟩ an) rfl
  ·have bD:=im ao ap;refine JL.exit rfl ?_;obtain rfl:=oi bD;obtain rfl:=bp _ an;exact JL.kw (bo _ _ ⟨am,rfl,rfl,aA,aB⟩) rfl
def Oc(fuel:Nat):Option (Unit):=
 (KM fuel ((0:Nat):Int)).bind fun K=>
 some ()
theorem Rf{fuel:Nat}{r:Unit}(K:Oc fuel=some r):As J 124 [.slice none 0 0,(.func (.func 125) #[] #[])] E [] (fun w E' B'=>w= .tuple #[]∧B'= []):=by
 refine As.en func124 rfl rfl fun Q ae cs H O U=>?_;unfold Oc at K;refine zg 3 rfl ?_;refine JL.Y rfl (fun ρ h=>Yl.len rfl underlying25 (h _ _ rfl)) ?_;obtain⟨ag,W,Z⟩:=bs K;refine zg 1 rfl ?_;refine JS.cl (QX W) rfl rfl (Aw func138 rfl) O ?_;rintro _ ah _ aa ⟨rfl,rfl⟩ ab;refine JL.done ?_;obtain rfl:=oi Z;refine JL.fin (v:= .tuple #[]) rfl rfl (Bv.list func124 rfl (vs:= []) trivial) ?_;exact U _ _ _ _ aa rfl ⟨rfl,rfl⟩ ab
theorem Q2{J:Judge Tryz.prog}{E:LH}{a:Ar}{c:Nat}{g:Seg}{p0:AT}(W:OL 27 Bl E a c g p0){fuel:Nat}{r:AT}(K:f124 fuel p0=some r):
  As J 124 [.slice a p0.length c,.func (.func 125) #[] #[]] E g (fun w E' B'=>w= .tuple #[]∧OL 27 Bl E' a c B' r∧r.length=p0.length):=by
 rcases W.cases with⟨rfl,rfl,rfl,rfl⟩ | ⟨aa,f,rfl,rfl,hW⟩
 ·have Z:r= []:=by
   cases fuel with
   | zero=>exact absurd K (by simp [f124,f138,iter])
   | succ fuel=>
    cases fuel with
    | zero=>exact(Option.some.inj (K.symm.trans (by rfl:f124 1 []=some []))).trans rfl
    | succ fuel=>exact(Option.some.inj (K.symm.trans (by rfl:f124 (fuel+2) []=some []))).trans rfl
  subst Z;refine(Rf (fuel:=10) (r:=()) rfl).mono ?_;rintro w E' B' hle ⟨O,rfl⟩;exact⟨O,OL.nil,rfl⟩
 ·refine(RR hW K).mono ?_;rintro w E' B' hle ⟨ab,O,rfl,U⟩;exact⟨O,U.1,U.2⟩
end Pal
namespace Pal
open Go Go.Conc Go.Proofs
open Go.Proofs.Tryz
def f94(fuel:Nat)(p0:AT)(p1:AT):Option ((AT)):=
 (CF p0 p1).bind fun K=>
 (f123 fuel K).bind fun O=>
 (f124 fuel O).bind fun U=>
 some U
theorem SK{E:LH}{K:Ar}{c2:Nat}{O:Ar}{U:Nat}{p0:AT}{p1:AT}(aa:Ao Bl E K c2 (p0))(am:Ao Bl E O U (p1)){fuel:Nat}{r:(AT)}(ag:f94 fuel p0 p1=some r):As (CC Tryz.prog) 94 [.slice K (p0).length c2,.slice O (p1).length U] E [] (fun w E' B'=>∃(ah:Ar) (ai:Nat),w= .slice ah (r).length ai∧B'= []∧Ao Bl E' ah ai (r)):=by
 refine As.en func94 rfl rfl fun Q aK cs H an ao=>?_;unfold f94 at ag;refine zg 8 rfl ?_;refine JL.Y rfl (fun ρ h=>Yl.len rfl underlying25 (h _ _ rfl)) ?_;refine zg 1 rfl ?_;refine JL.Y rfl (fun ρ h=>Yl.len rfl underlying25 (h _ _ rfl)) ?_;refine JL.Y (v:= .slice K (p0).length (p0).length) rfl (fun ρ h=>Yl.QU (Ao.spot aa) (And.left aa) underlying25 (Ag type27) (h _ _ rfl) (h _ _ rfl) (h _ _ rfl)) ?_;obtain⟨aj,ap,aq⟩:=bs ag;refine zg 1 rfl ?_;refine JS.Ra (pp:=Bl) ap rfl rfl rfl rfl rfl rfl rfl underlying25 underlying25 (Ag type27) (CJ type27) (AN type27) rfl (by decide) (by decide) aa am an fun aL ak al ar au av=>?_;obtain⟨aM,aw,ay⟩:=bs aq;refine zg 5 rfl ?_;refine JS.cl (R5 au aw) rfl rfl (Aw func123 rfl) av ?_;rintro _ aN _ az ⟨W,Z,aO,rfl,rfl,aA⟩ aB;obtain⟨ab,aC,aD⟩:=bs ay;refine zg 5 rfl ?_;refine JS.Bu 2 (Q2 aA aC) rfl rfl (Aw func124 rfl) aB rfl ?_;rintro _ aP aQ aE ⟨rfl,aF,ae⟩ aG;refine JL.Cc (L':= [(17,.tuple #[]),(0,.slice K (p0).length c2),(1,.slice O (p1).length U),(4,.slice none 0 0),(6,.slice K (p0).length c2),(7,.slice K (p0).length c2),(8,iV ((p0).length:Int)),(9,.slice K (p0).length c2),(10,iV ((p0).length:Int)),(11,.slice K (p0).length (p0).length),(12,.slice O (p1).length U),(13,.slice ak (aj).length al),(5,.slice W (ab).length Z),(14,.slice ak (aj).length al),(15,.slice W (ab).length Z),(16,.slice W (ab).length Z)]) ⟨rfl,rfl,rfl,rfl,rfl,rfl,rfl,rfl,rfl,rfl,rfl,rfl,by rw [ae];rfl,rfl,by rw [ae];rfl,by rw [ae];rfl,trivial⟩ ?_;refine zg 6 rfl ?_;refine JS.BO 2 aF aG rfl fun aR aH aI aJ=>?_;obtain rfl:=oi aD;refine JL.rt func94 rfl rfl ?_;exact ao _ _ _ _ (((ar.trans az).trans aE).trans aH) rfl ⟨W,Z,rfl,rfl,aI⟩ aJ
def f37(fuel:Nat)(p0:BD)(p1:AT)(p2:AT):Option (Bool×Int):=
 (f69 fuel p0 p1).bind fun O=>
 if O≠0 then(
  some (false,O)
 ) else(
  (f69 fuel p0 p2).bind fun U=>
  if U≠0 then(
   some (false,U)
  ) else(
   (f92 fuel p0).bind fun ab=>
   (ab).bind fun K=>
   (f93 fuel K p1).bind fun W=>
   (f93 fuel K p2).bind fun Z=>
   Option.bind (
    if((W.2).length:Int)=0 then(
     some true
    ) else(
     some (decide (((Z.2).length:Int)=0))
    )
   ) fun ae=>
   if ae=true then(
    some (false,0)
   ) else(
    (f94 fuel p1 p2).bind fun ag=>
    (f93 fuel K ag).bind fun aa=>
    Option.bind (
     if 0<((aa.2).length:Int) then(
      (Ay (W.1+Z.1)).bind fun ah=>
      some (decide (aa.1≤ah))
     ) else(
      some false
     )
    ) fun ai=>
    some (ai,0)
   )
  )
 )
theorem G8{E:LH}{aj:Ar}{c2:Nat}{ak:Ar}{al:Nat}{am:Ar}{an:Nat}{ao:Ar}{ap:Nat}{p0:BD}{p1:AT}{p2:AT}(aq:Ao (rL rI) E aj c2 (p0.1))(ar:Ao (rL rI) E ak al (p0.2))(au:Ao Bl E am an (p1))(av:Ao Bl E ao ap (p2)){fuel:Nat}{r:Bool×Int}(aN:f37 fuel p0 p1 p2=some r):As (CC Tryz.prog) 37 [.agg #[.slice aj (p0.1).length c2,.slice ak (p0.2).length al],.slice am (p1).length an,.slice ao (p2).length ap] E [] (fun w E' B'=>w= .tuple #[.bool r.1,iV r.2]∧B'= []):=by
 refine As.en func37 rfl rfl fun Q cd cs H a9 ai=>?_;unfold f37 at aN;refine zg 2 rfl ?_;refine JS.box (v:= .agg #[.slice aj (p0.1).length c2,.slice ak (p0.2).length al]) rfl rfl rfl a9 rfl fun ce ba=>?_;refine JS.Bo 1 ba rfl fun cf K aw bb=>?_;refine zg 6 rfl ?_;refine JL.Bx aw (An underlying24) (Ag type24) rfl rfl ?_;obtain⟨bc,bd,aO⟩:=bs aN;refine zg 1 rfl ?_;refine JS.cl (HS (aq.mono K) (ar.mono K) (au.mono K) bd) rfl rfl (Aw func69 rfl) bb ?_;rintro _ cg _ O ⟨rfl,rfl⟩ aP;refine zg 7 rfl ?_;refine JL.ifs (p:=bc≠0) rfl (fun ay=>?_) (fun ay=>?_)
 ·have bf:=ip aO ay;refine zg 6 rfl ?_;obtain rfl:=oi bf;refine JL.rt func37 rfl rfl ?_;exact ai _ _ _ _ (K.trans O) rfl ⟨rfl,rfl⟩ aP
 ·have bg:=im aO ay;refine zg 4 rfl ?_;refine JL.Bx (aw.mono O) (An underlying24) (Ag type24) rfl rfl ?_;obtain⟨bh,bi,aQ⟩:=bs bg;refine zg 1 rfl ?_;refine JS.cl (HS (aq.mono (K.trans O)) (ar.mono (K.trans O)) (av.mono (K.trans O)) bi) rfl rfl (Aw func69 rfl) aP ?_;rintro _ ci _ W ⟨rfl,rfl⟩ bj;refine JS.norm (S':= [[],[],[],[]]) rfl bj fun aR=>?_;refine zg 7 rfl ?_;refine JL.ifs (p:=bh≠0) rfl (fun az=>?_) (fun az=>?_)
  ·have bk:=ip aQ az;refine zg 6 rfl ?_;obtain rfl:=oi bk;refine JL.rt func37 rfl rfl ?_;exact ai _ _ _ _ ((K.trans O).trans W) rfl ⟨rfl,rfl⟩ aR
  ·have bl:=im aQ az;refine zg 3 rfl ?_;refine JL.Bx (aw.mono (O.trans W)) (An underlying24) (Ag type24) rfl rfl ?_;obtain⟨ck,bm,bn⟩:=bs bl;refine JS.cl (Jd (aq.mono ((K.trans O).trans W)) (ar.mono ((K.trans O).trans W)) bm) rfl rfl (Aw func92 rfl) aR ?_;rintro cm cn _ ah ⟨_,rfl,rfl,bo⟩ bp;obtain⟨co,bq,br⟩:=bs bn;have aS:=bo;refine zg 6 rfl ?_;rw [bq] at aS;obtain⟨bu,bv,_,rfl,aA,⟨_,_,rfl,⟨cp,cq,rfl,aB⟩,⟨_,cr,rfl,⟨ct,cu,rfl,aC⟩,aD⟩⟩⟩:=aS;obtain⟨aE,bw,bx⟩:=bs br;refine JS.cl (Ji aA aB aC aD (au.mono (((K.trans O).trans W).trans ah)) bw) rfl rfl (Aw func93 rfl) bp ?_;rintro _ cv _ U ⟨bz,bA,rfl,rfl,cw⟩ bB;obtain⟨aT,bC,bD⟩:=bs bx;refine zg 2 rfl ?_;refine JS.cl (Ji (aA.mono U) (aB.mono U) (aC.mono U) (Rp.mono _ U aD) (av.mono ((((K.trans O).trans W).trans ah).trans U)) bC) rfl rfl (Aw func93 rfl) bB ?_;rintro _ cy _ ab ⟨bE,bF,rfl,rfl,cz⟩ bG;refine JS.norm (S':= [[],[],[],[],[],[],[]]) rfl bG fun bH=>?_;refine JS.alloc rfl rfl rfl bH (AN type97) fun bI bJ=>?_;refine JS.alloc rfl rfl rfl bJ (AN type97) fun aU bK=>?_;refine JS.st (v:= .agg #[iV aE.1,.slice bz (aE.2).length bA]) (off:=0) 7 bK (Ag type97) rfl rfl rfl rfl fun bL=>?_;refine JS.Bo 7 bL rfl fun cA ae aV bM=>?_;refine JS.norm (S':= [[],[],[],[],[],[],[],[],[(aU,.cells #[iV 0,.slice none 0 0] 97 (0,0))]]) rfl bM fun bN=>?_;refine JS.st (v:= .agg #[iV aT.1,.slice bE (aT.2).length bF]) (off:=0) 8 bN (Ag type97) rfl rfl rfl rfl fun bO=>?_;refine JS.Bo 8 bO rfl fun aF Z aW aX=>?_;refine zg 4 rfl ?_;refine JL.fd underlying97 (Ag type95) rfl rfl rfl ?_;refine JL.ld 1 (aV.mono Z) (An underlying95) rfl rfl rfl ?_;refine JL.Y rfl (fun ρ h=>Yl.len rfl underlying95 (h _ _ rfl)) ?_;obtain⟨aY,aZ,a0⟩:=bs bD;refine zg 2 rfl ?_;refine JL.BM [] (fun L s=>∃(a1:LH),Jm aF H a1 [] [(1,.slice am (p1).length an),(2,.slice ao (p2).length ap),(10,.pointer (some ⟨bu,bv,none⟩)),(11,.pointer (some ⟨bI,0,none⟩)),(12,.pointer (some ⟨aU,0,none⟩)),(43,.bool aY)] L s) ?_ ?_
   ·rintro _ _ ⟨a1,rfl,rfl,aa,a2⟩;refine JL.done ?_;refine JL.split (t:=aY) rfl (fun aG=>?_) (fun aG=>?_)
    ·have bP:=ip a0 aG;refine zg 5 rfl ?_;obtain rfl:=oi bP;refine JL.rt func37 rfl rfl ?_;exact ai _ _ _ _ ((((((((K.trans O).trans W).trans ah).trans U).trans ab).trans ae).trans Z).trans aa) rfl ⟨rfl,rfl⟩ a2
    ·have bQ:=ib a0 aG;obtain⟨cB,bR,bS⟩:=bs bQ;refine zg 6 rfl ?_;refine JS.cl (SK (au.mono ((((((((K.trans O).trans W).trans ah).trans U).trans ab).trans ae).trans Z).trans aa)) (av.mono ((((((((K.trans O).trans W).trans ah).trans U).trans ab).trans ae).trans Z).trans aa)) bR) rfl rfl (Aw func94 rfl) a2 ?_;rintro _ cC _ ag ⟨cD,cE,rfl,rfl,bT⟩ bU;obtain⟨aH,bV,bW⟩:=bs bS;refine JS.cl (Ji (aA.mono (((((U.trans ab).trans ae).trans Z).trans aa).trans ag)) (aB.mono (((((U.trans ab).trans ae).trans Z).trans aa).trans ag)) (aC.mono (((((U.trans ab).trans ae).trans Z).trans aa).trans ag)) (Rp.mono _ (((((U.trans ab).trans ae).trans Z).trans aa).trans ag) aD) bT bV) rfl rfl (Aw func93 rfl) bU ?_;rintro _ cF _ aI ⟨bX,bY,rfl,rfl,cG⟩ bZ;refine JS.norm (S':= [[],[]]) rfl bZ fun b0=>?_;refine JS.alloc rfl rfl rfl b0 (AN type97) fun cH b1=>?_;refine JS.st (v:= .agg #[iV aH.1,.slice bX (aH.2).length bY]) (off:=0) 2 b1 (Ag type97) rfl rfl rfl rfl fun b2=>?_;refine JS.Bo 2 b2 rfl fun aJ aK a3 a4=>?_;refine zg 3 rfl ?_;refine JL.fd underlying97 (Ag type95) rfl rfl rfl ?_;refine JL.ld 1 a3 (An underlying95) rfl rfl rfl ?_;refine JL.Y rfl (fun ρ h=>Yl.len rfl underlying95 (h _ _ rfl)) ?_;obtain⟨b3,a5,b4⟩:=bs bW;refine zg 2 rfl ?_;refine JL.BM [14,15] (fun L s=>∃(a6:LH),Jm aJ H a6 [] [(62,.bool b3)] L s) ?_ ?_
     ·rintro _ _ ⟨a6,rfl,rfl,b5,b6⟩;refine zg 3 rfl ?_;obtain rfl:=oi b4;refine JL.rt func37 rfl rfl ?_;exact ai _ _ _ _ ((((((((((((K.trans O).trans W).trans ah).trans U).trans ab).trans ae).trans Z).trans aa).trans ag).trans aI).trans aK).trans b5) rfl ⟨rfl,rfl⟩ b6
     ·intro a7;refine JL.Cm (q:=0<((aH.2).length:Int)) (i:=53) rfl (fun aL=>?_) (fun aL=>?_)
      ·have b7:=ip a5 aL;refine JL.fd underlying97 (Ag type3) rfl rfl rfl ?_;refine JL.ld 0 a3 (An underlying3) rfl rfl rfl ?_;refine JL.fd underlying97 (Ag type3) rfl rfl rfl ?_;refine JL.ld 0 (aV.mono ((((Z.trans aa).trans ag).trans aI).trans aK)) (An underlying3) rfl rfl rfl ?_;refine JL.fd underlying97 (Ag type3) rfl rfl rfl ?_;refine JL.ld 0 (aW.mono (((aa.trans ag).trans aI).trans aK)) (An underlying3) rfl rfl rfl ?_;obtain⟨cI,b8,b9⟩:=bs b7;refine JL.Y rfl (fun ρ h=>Yl.A6 (h _ _ rfl) (h _ _ rfl) b8) ?_;refine zg 2 rfl ?_;obtain rfl:=oi b9;exact JL.kw (a7 _ _ ⟨aJ,rfl,rfl,(Le.refl _),a4⟩) rfl
      ·have ca:=im a5 aL;refine zg 9 rfl ?_;obtain rfl:=oi ca;exact JL.kw (a7 _ _ ⟨aJ,rfl,rfl,(Le.refl _),a4⟩) rfl
   ·intro a8;refine JL.Cm (q:=((aE.2).length:Int)=0) (i:=38) rfl (fun aM=>?_) (fun aM=>?_)
    ·have cb:=ip aZ aM;refine zg 5 rfl ?_;obtain rfl:=oi cb;exact JL.kw (a8 _ _ ⟨aF,rfl,rfl,(Le.refl _),aX⟩) rfl
    ·have cc:=im aZ aM;refine JL.fd underlying97 (Ag type95) rfl rfl rfl ?_;refine JL.ld 1 aW (An underlying95) rfl rfl rfl ?_;refine JL.Y rfl (fun ρ h=>Yl.len rfl underlying95 (h _ _ rfl)) ?_;refine zg 2 rfl ?_;obtain rfl:=oi cc;exact JL.kw (a8 _ _ ⟨aF,rfl,rfl,(Le.refl _),aX⟩) rfl
end Pal
namespace Pal
open Go Go.Conc Go.Proofs
open Go.Proofs.Tryz
def Jb:List Nat:= [0,1,1,2,1,2,2,3,1,2,2,3,2,3,3,4,1,2,2,3,2,3,3,4,2,3,3,4,3,4,4,5,1,2,2,3,2,3,3,4,2,3,3,4,3,4,4,5,2,3,3,4,3,4,4,5,3,4,4,5,4,5,5,6,1,2,2,3,2,3,3,4,2,3,3,4,3,4,4,5,2,3,3,4,3,4,4,5,3,4,4,5,4,5,5,6,2,3,3,4,3,4,4,5,3,4,4,5,4,5,5,6,3,4,4,5,4,5,5,6,4,5,5,6,5,6,6,7,1,2,2,3,2,3,3,4,2,3,3,4,3,4,4,5,2,3,3,4,3,4,4,5,3,4,4,5,4,5,5,6,2,3,3,4,3,4,4,5,3,4,4,5,4,5,5,6,3,4,4,5,4,5,5,6,4,5,5,6,5,6,6,7,2,3,3,4,3,4,4,5,3,4,4,5,4,5,5,6,3,4,4,5,4,5,5,6,4,5,5,6,5,6,6,7,3,4,4,5,4,5,5,6,4,5,5,6,5,6,6,7,4,5,5,6,5,6,6,7,5,6,6,7,6,7,7,8]
def f86(fuel:Nat)(p0:Nat):Option (Int):=
 (HZ Jb ((((p0>>>8):Nat):Int))).bind fun K=>
 (Hh (p0) (255)).bind fun O=>
 (HZ Jb ((((O):Nat):Int))).bind fun U=>
 (Ay ((((K+U) % 256):Nat):Int)).bind fun W=>
 some W
theorem SW{E:LH}{p0:Nat}{fuel:Nat}{r:Int}(K:f86 fuel p0=some r):As (CC Tryz.prog) 86 [.int .u16 ((p0:Nat):Int)] E [] (fun w E' B'=>w=iV r∧B'= []):=by
 refine As.en func86 rfl rfl fun Q an cs H W Z=>?_;unfold f86 at K;refine zg 5 rfl ?_;refine JG.Dm 6 mixed rfl (by decide+kernel) fun ht=>?_;refine JG.mv 0 ht rfl rfl ?_;refine JG.V (v:= .int .u16 ((p0>>>8:Nat):Int)) 1 ht rfl rfl (fun ρ h s' hs=>Yl.Ss 8 (h _ _ rfl) (h _ _ rfl) (by decide)) ?_;obtain⟨O,aa,ab⟩:=bs K;refine JG.V (v:= .int .u8 ((O:Nat):Int)) 2 ht rfl rfl (fun ρ h s' hs=>Yl.Kq (l:=Jb) (by decide+kernel) underlying9 (h _ _ rfl) (h _ _ rfl) aa) ?_;refine JG.mv 3 ht rfl rfl ?_;obtain⟨ae,ag,ah⟩:=bs ab;refine JG.V (v:= .int .u16 ((ae:Nat):Int)) 4 ht rfl rfl (fun ρ h s' hs=>Yl.Ki (h _ _ rfl) (h _ _ rfl) ag) ?_;obtain⟨U,ai,aj⟩:=bs ah;refine JG.V (v:= .int .u8 ((U:Nat):Int)) 5 ht rfl rfl (fun ρ h s' hs=>Yl.Kq (l:=Jb) (by decide+kernel) underlying9 (h _ _ rfl) (h _ _ rfl) ai) ?_;refine Au.leaf (tail:= [6,7,8]) (by decide+kernel) (fun t=>A7 (by decide+kernel) (A7 (by decide+kernel) (A7 (by decide+kernel) BU)) t) ?_;refine JL.Y (v:= .int .u8 (((O+U) % 256:Nat):Int)) rfl (fun ρ h=>Yl.SY (h _ _ rfl) (h _ _ rfl)) ?_;obtain⟨ak,al,am⟩:=bs aj;refine JL.Y (v:=iV ak) rfl (fun ρ h=>Yl.Ol underlying5 underlying3 (h _ _ rfl) al) ?_;refine zg 2 rfl ?_;obtain rfl:=oi am;refine JL.rt func86 rfl rfl ?_;exact Z _ _ _ _ (Le.refl _) rfl ⟨rfl,rfl⟩ W
end Pal
namespace Pal
open Go Go.Conc Go.Proofs
open Go.Proofs.Tryz
def f85(fuel:Nat)(p0:Nat):Option (Int):=
 (f86 fuel p0).bind fun K=>
 some K
theorem N1{E:LH}{p0:Nat}{fuel:Nat}{r:Int}(K:f85 fuel p0=some r):As (CC Tryz.prog) 85 [.int .u16 ((p0:Nat):Int)] E [] (fun w E' B'=>w=iV r∧B'= []):=by
 refine As.en func85 rfl rfl fun Q ae cs H O U=>?_;unfold f85 at K;obtain⟨ag,W,Z⟩:=bs K;refine zg 7 rfl ?_;refine JS.cl (SW W) rfl rfl (Aw func86 rfl) O ?_;rintro _ ah _ aa ⟨rfl,rfl⟩ ab;refine zg 2 rfl ?_;obtain rfl:=oi Z;refine JL.rt func85 rfl rfl ?_;exact U _ _ _ _ aa rfl ⟨rfl,rfl⟩ ab
end Pal
namespace Pal
open Go Go.Conc Go.Proofs
open Go.Proofs.Tryz
def NI(fuel:Nat)(W:Bz)(U:(List Int))(K:(List Nat)×Int):Option (A8 ((List Nat)×Int) ((List Nat))):=
 if K.2<((U).length:Int) then(
  (ix U (K.2)).bind fun O=>
  (ix K.1 (O)).bind fun Z=>
  (f90 fuel Z W.1).bind fun aa=>
  (ix K.1 (O)).bind fun ae=>
  (Ay (K.2+1)).bind fun ab=>
  some (.more ((K.1.set (Int.toNat O) aa),ab))
 ) else(
  some (.done K.1)
 )
def Nb(fuel:Nat)(O:(Option (Br))×(Int×(List (Bz)))×Int)(W:Br)(Z:Int×Int×Int)(K:(List Nat)×Int):Option (A8 ((List Nat)×Int) ((List Nat))):=
 if K.2<((O.2.1.2).length:Int) then(
  (ix O.2.1.2 (K.2)).bind fun U=>
  (f88 fuel W U Z.2.2).bind fun aa=>
  (f89 fuel aa).bind fun ab=>
  Option.bind (iter (NI fuel U ab) fuel (K.1,0)) fun ae=>
  (Ay (K.2+1)).bind fun ag=>
  some (.more (ae,ag))
 ) else(
  some (.done K.1)
 )
def Na(fuel:Nat)(O:(List Nat))(K:Int×Int):Option (A8 (Int×Int) (Int)):=
 if K.2<8 then(
  (ix O (K.2)).bind fun U=>
  (f85 fuel U).bind fun W=>
  (Ay (K.2+1)).bind fun Z=>
  some (.more (max (K.1) (W),Z))
 ) else(
  some (.done K.1)
 )
def Nz(fuel:Nat)(W:(Option (Br))×(Int×(List (Bz)))×Int)(Z:Br)(K:Int×Int×Int):Option (A8 (Int×Int×Int) (Int×Int)):=
 if K.2.2<7 then(
  Option.bind (iter (Nb fuel W Z K) fuel ((List.replicate 8 (0:Nat)),0)) fun aa=>
  Option.bind (iter (Na fuel aa) fuel (0,0)) fun O=>
  Option.bind (
   if O<K.2.1 then(
    some (K.2.2,O)
   ) else(
    some (K.1,K.2.1)
   )
  ) fun U=>
  (Ay (K.2.2+1)).bind fun ab=>
  some (.more (U.1,U.2,ab))
 ) else(
  some (.done (K.1,K.2.1))
 )
def f35(fuel:Nat)(p0:BD)(p1:AT):Option (Int×Int×Int):=
 (f78 fuel p0 p1 (-1) false).bind fun K=>
 if K.2.2≠0 then(
  some (0,0,K.2.2)
 ) else(
  (f87 fuel K.2.1.2).bind fun U=>
  (f85 fuel U).bind fun W=>
  (K.1).bind fun Z=>
  Option.bind (iter (Nz fuel K Z) fuel ((-1),W,0)) fun O=>
  if O.1<0 then(
   some (0,0,11)
  ) else(
   some (O.1,O.2,0)
  )
 )
theorem S5{E:LH}{aN:Ar}{c2:Nat}{aO:Ar}{aP:Nat}{bh:Ar}{bi:Nat}{p0:BD}{p1:AT}(bR:Ao (rL rI) E aN c2 (p0.1))(bS:Ao (rL rI) E aO aP (p0.2))(bT:Ao Bl E bh bi (p1)){fuel:Nat}{r:Int×Int×Int}(bj:f35 fuel p0 p1=some r):As (CC Tryz.prog) 35 [.agg #[.slice aN (p0.1).length c2,.slice aO (p0.2).length aP],.slice bh (p1).length bi] E [] (fun w E' B'=>w= .tuple #[iV r.1,iV r.2.1,iV r.2.2]∧B'= []):=by
 refine As.en func35 rfl rfl fun Q dV cs H bU aQ=>?_;unfold f35 at bj;refine zg 2 rfl ?_;refine JS.box (v:= .agg #[.slice aN (p0.1).length c2,.slice aO (p0.2).length aP]) rfl rfl rfl bU rfl fun dW bV=>?_;refine JS.Bo 1 bV rfl fun dX ak bW bX=>?_;refine zg 6 rfl ?_;refine JL.Bx bW (An underlying24) (Ag type24) rfl rfl ?_;obtain⟨O,bY,bk⟩:=bs bj;refine zg 1 rfl ?_;refine JS.cl (Jj (bR.mono ak) (bS.mono ak) (bT.mono ak) bY) rfl rfl (Aw func78 rfl) bX ?_;rintro _ dY _ aR ⟨dZ,al,am,rfl,rfl,bZ,bl⟩ b0;refine zg 4 rfl ?_;refine JS.alloc rfl rfl rfl b0 (AN type97) fun W b1=>?_;refine zg 1 rfl ?_;refine JS.st (v:= .agg #[iV O.2.1.1,.slice al (O.2.1.2).length am]) (off:=0) 3 b1 (Ag type97) rfl rfl rfl rfl fun b2=>?_;refine JS.Bo 3 b2 rfl fun ea an bm bn=>?_;refine zg 8 rfl ?_;refine JL.ifs (p:=O.2.2≠0) rfl (fun aS=>?_) (fun aS=>?_)
 ·have b3:=ip bk aS;refine zg 7 rfl ?_;obtain rfl:=oi b3;refine JL.rt func35 rfl rfl ?_;exact aQ _ _ _ _ ((ak.trans aR).trans an) rfl ⟨rfl,rfl⟩ bn
 ·have b4:=im bk aS;refine zg 8 rfl ?_;refine JL.fd underlying97 (Ag type95) rfl rfl rfl ?_;refine JL.ld 1 bm (An underlying95) rfl rfl rfl ?_;obtain⟨b5,b6,b7⟩:=bs b4;refine JS.cl (Sy (bl.mono an) b6) rfl rfl (Aw func87 rfl) bn ?_;rintro _ eb _ ay ⟨rfl,rfl⟩ b8;obtain⟨b9,ca,cb⟩:=bs b7;refine JS.Gs (vs:= [.int .u16 ((b5:Nat):Int)]) (N1 ca) rfl rfl rfl rfl (Aw func85 rfl) rfl b8 ?_;rintro _ aT _ az ⟨rfl,rfl⟩ cc;obtain⟨ec,cd,ce⟩:=bs cb;have bo:=(bZ.mono ((an.trans ay).trans az));refine zg 11 rfl ?_;rw [cd] at bo;obtain⟨Z,aa,_,rfl,cf,⟨_,_,rfl,⟨ed,ee,rfl,cg⟩,⟨_,ef,rfl,⟨eg,eh,rfl,ci⟩,ck⟩⟩⟩:=bo;obtain⟨aU,cm,bp⟩:=bs ce;refine JL.join (fun L s=>∃(bq:LH),Jm aT H bq [] [(4,iV aU.1),(10,iV aU.2)] L s) ?_ ?_
  ·rintro _ _ ⟨bq,rfl,rfl,br,bu⟩;refine zg 6 rfl ?_;refine JL.ifs (p:=aU.1<0) rfl (fun aV=>?_) (fun aV=>?_)
   ·have cn:=ip bp aV;refine zg 6 rfl ?_;obtain rfl:=oi cn;refine JL.rt func35 rfl rfl ?_;exact aQ _ _ _ _ (((((ak.trans aR).trans an).trans ay).trans az).trans br) rfl ⟨rfl,rfl⟩ bu
   ·have co:=im bp aV;refine zg 9 rfl ?_;obtain rfl:=oi co;refine JL.rt func35 rfl rfl ?_;exact aQ _ _ _ _ (((((ak.trans aR).trans an).trans ay).trans az).trans br) rfl ⟨rfl,rfl⟩ bu
  ·intro cp;refine JL.block ?_;refine JL.wk [(4,iV (-1)),(7,.pointer (some ⟨Z,aa,none⟩)),(8,.pointer (some ⟨W,0,none⟩)),(9,(.func (.func 85) #[] #[])),(10,iV b9),(35,iV 0)] rfl ?_;refine JL.Bq cm (fun L s K=>∃(ae:LH),Jm aT H ae [] [(4,iV K.1),(7,.pointer (some ⟨Z,aa,none⟩)),(8,.pointer (some ⟨W,0,none⟩)),(9,(.func (.func 85) #[] #[])),(10,iV K.2.1),(35,iV K.2.2)] L s) ⟨aT,rfl,rfl,(Le.refl _),cc⟩ ?_;rintro _ _ K ⟨ae,rfl,rfl,ab,bv⟩ cq ⟨ei,aW⟩ cr;have aX:=aW;unfold Nz at aX;refine zg 5 rfl ?_;refine JL.ifs (p:=K.2.2<7) rfl (fun aY=>?_) (fun aY=>?_)
   ·have ct:=ip aX aY;refine zg 10 rfl ?_;refine JS.alloc rfl rfl rfl bv (AN type114) fun U cu=>?_;refine zg 4 rfl ?_;refine JL.fd underlying97 (Ag type95) rfl rfl rfl ?_;refine JL.ld 1 (bm.mono ((ay.trans az).trans ab)) (An underlying95) rfl rfl rfl ?_;refine JL.Y rfl (fun ρ h=>Yl.len rfl underlying95 (h _ _ rfl)) ?_;obtain⟨cv,cw,cy⟩:=bs ct;refine zg 2 rfl ?_;refine JL.join (fun L s=>∃(ao:LH) (ap:List Value),Jn ae H ao [[(U,.cells (([]:List Value)++ap).toArray 114 (0,0))]] [(4,iV K.1),(7,.pointer (some ⟨Z,aa,none⟩)),(8,.pointer (some ⟨W,0,none⟩)),(9,(.func (.func 85) #[] #[])),(10,iV K.2.1),(11,iV K.2.2),(12,.pointer (some ⟨U,0,none⟩)),(35,iV K.2.2)] L s ((rA 8 (rN .u16)).r ao ap (cv))) ?_ ?_
    ·rintro _ _ ⟨ao,ap,rfl,rfl,cz,bw,bx⟩;refine zg 7 rfl ?_;refine JL.Y (v:= .agg ap.toArray) rfl (fun ρ h=>Yl.HU (kk:=8) (pp:=(rN .u16)) bx (An underlying114) (Ag type114) (h _ _ rfl) (IB (l:= []) 0 bw rfl)) ?_;obtain⟨bz,cA,cB⟩:=bs cy;refine zg 2 rfl ?_;refine JL.join (fun L s=>∃(aA:LH),Jm ao H aA [] [(4,iV K.1),(7,.pointer (some ⟨Z,aa,none⟩)),(8,.pointer (some ⟨W,0,none⟩)),(9,(.func (.func 85) #[] #[])),(10,iV K.2.1),(11,iV K.2.2),(17,iV bz),(35,iV K.2.2)] L s) ?_ ?_
     ·rintro _ _ ⟨aA,rfl,rfl,cC,bA⟩;obtain⟨aF,bB,cD⟩:=bs cB;refine zg 6 rfl ?_;refine JL.join (fun L s=>∃(aZ:LH),Jm aA H aZ [] [(4,iV aF.1),(7,.pointer (some ⟨Z,aa,none⟩)),(8,.pointer (some ⟨W,0,none⟩)),(9,(.func (.func 85) #[] #[])),(10,iV aF.2),(35,iV K.2.2)] L s) ?_ ?_
      ·rintro _ _ ⟨aZ,rfl,rfl,cE,cF⟩;obtain⟨cG,cH,cI⟩:=bs cD;refine zg 2 rfl ?_;refine JL.Y rfl (fun ρ h=>Yl.A6 (h _ _ rfl) (h _ _ rfl) cH) ?_;refine zg 2 rfl ?_;obtain rfl:=oi cI;exact JL.kw (cr _ _ (aF.1,aF.2,cG) ⟨aZ,rfl,rfl,(((ab.trans cz).trans cC).trans cE),cF⟩ aW) rfl
      ·intro bC;refine JL.ifs (p:=bz<K.2.1) rfl (fun a0=>?_) (fun a0=>?_)
       ·have cJ:=ip bB a0;refine zg 6 rfl ?_;obtain rfl:=oi cJ;exact JL.kw (bC _ _ ⟨aA,rfl,rfl,(Le.refl _),bA⟩) rfl
       ·have cK:=im bB a0;refine JL.skip ?_;obtain rfl:=oi cK;exact JL.kw (bC _ _ ⟨aA,rfl,rfl,(Le.refl _),bA⟩) rfl
     ·intro cM;refine JL.block ?_;refine JS.drop 0 bw rfl fun cN=>?_;refine JL.wk [(4,iV K.1),(7,.pointer (some ⟨Z,aa,none⟩)),(8,.pointer (some ⟨W,0,none⟩)),(9,(.func (.func 85) #[] #[])),(10,iV K.2.1),(11,iV K.2.2),(17,iV 0),(35,iV K.2.2),(65,.agg ap.toArray),(66,iV 0)] rfl ?_;refine JL.Bq cA (fun L s aq=>∃(a1:LH),Jm ao H a1 [] [(4,iV K.1),(7,.pointer (some ⟨Z,aa,none⟩)),(8,.pointer (some ⟨W,0,none⟩)),(9,(.func (.func 85) #[] #[])),(10,iV K.2.1),(11,iV K.2.2),(17,iV aq.1),(35,iV K.2.2),(65,.agg ap.toArray),(66,iV aq.2)] L s) ⟨ao,rfl,rfl,(Le.refl _),cN⟩ ?_;rintro _ _ aq ⟨a1,rfl,rfl,a2,bD⟩ cO ⟨ej,a3⟩ cP;have a4:=a3;unfold Na at a4;refine zg 5 rfl ?_;refine JL.ifs (p:=aq.2<8) rfl (fun a5=>?_) (fun a5=>?_)
      ·have cQ:=ip a4 a5;obtain⟨cR,cT,cV⟩:=bs cQ;refine zg 5 rfl ?_;refine JS.Tp (Rp.mono _ a2 bx) cT rfl rfl rfl rfl rfl underlying114 (Ag type102) (An underlying102) ?_ (fun _=>rfl);rintro _ rfl;obtain⟨bE,cW,cX⟩:=bs cV;refine zg 6 rfl ?_;refine JS.Gs (vs:= [.int .u16 ((cR:Nat):Int)]) (N1 cW) rfl rfl rfl rfl (Aw func85 rfl) rfl bD ?_;rintro _ cY _ cZ ⟨rfl,rfl⟩ c0;refine JL.Y (v:=iV (max (aq.1) (bE))) rfl (fun ρ h=>Yl.max2 (h _ _ rfl) (h _ _ rfl)) ?_;obtain⟨c1,c3,c4⟩:=bs cX;refine zg 4 rfl ?_;refine JL.Y rfl (fun ρ h=>Yl.A6 (h _ _ rfl) (h _ _ rfl) c3) ?_;refine zg 2 rfl ?_;obtain rfl:=oi c4;exact JL.kw (cP _ _ (max (aq.1) (bE),c1) ⟨cY,rfl,rfl,(a2.trans cZ),c0⟩ a3) rfl
      ·have c5:=im a4 a5;refine JL.exit rfl ?_;obtain rfl:=oi c5;obtain rfl:=cO _ a3;exact JL.kw (cM _ _ ⟨a1,rfl,rfl,a2,bD⟩) rfl
    ·intro c6;refine JL.block ?_;refine JL.wk [(4,iV K.1),(7,.pointer (some ⟨Z,aa,none⟩)),(8,.pointer (some ⟨W,0,none⟩)),(9,(.func (.func 85) #[] #[])),(10,iV K.2.1),(11,iV K.2.2),(12,.pointer (some ⟨U,0,none⟩)),(35,iV K.2.2),(39,.slice al (O.2.1.2).length am),(40,iV ((O.2.1.2).length:Int)),(41,iV 0)] rfl ?_;refine JL.Bq cw (fun L s ag=>∃(aG:LH) (aB:List Value),Jn ae H aG [[(U,.cells (([]:List Value)++aB).toArray 114 (0,0))]] [(4,iV K.1),(7,.pointer (some ⟨Z,aa,none⟩)),(8,.pointer (some ⟨W,0,none⟩)),(9,(.func (.func 85) #[] #[])),(10,iV K.2.1),(11,iV K.2.2),(12,.pointer (some ⟨U,0,none⟩)),(35,iV K.2.2),(39,.slice al (O.2.1.2).length am),(40,iV ((O.2.1.2).length:Int)),(41,iV ag.2)] L s ((rA 8 (rN .u16)).r aG aB (ag.1))) ⟨ae,(List.replicate 8 (.int .u16 ((0:Nat):Int)):List Value),rfl,rfl,(Le.refl _),cu,(G3 (E:=ae) (pp:=(rN .u16)) rfl)⟩ ?_;rintro _ _ ag ⟨aG,aB,rfl,rfl,ah,bF,bG⟩ c7 ⟨ek,a6⟩ c8;have a7:=a6;unfold Nb at a7;refine zg 5 rfl ?_;refine JL.ifs (p:=ag.2<((O.2.1.2).length:Int)) rfl (fun a8=>?_) (fun a8=>?_)
     ·have c9:=ip a7 a8;obtain⟨aC,da,db⟩:=bs c9;refine zg 5 rfl ?_;refine JS.BV (bl.mono ((((an.trans ay).trans az).trans ab).trans ah)) da rfl rfl rfl rfl rfl underlying95 (Ag type104) ?_;rintro el em _ ⟨_,_,rfl,rfl,⟨_,_,rfl,⟨dc,dd,rfl,de⟩,rfl⟩⟩ df;refine JL.Bx df (An underlying104) (Ag type104) rfl rfl ?_;refine JS.alloc rfl rfl rfl bF (AN type104) fun bH dg=>?_;refine JS.st (v:= .agg #[iV aC.1,.slice dc (aC.2.1).length dd,.int .u16 ((aC.2.2:Nat):Int)]) (off:=0) 1 dg (Ag type104) rfl rfl rfl rfl fun dh=>?_;refine JS.Bo 1 dh rfl fun eo ai bI di=>?_;refine zg 4 rfl ?_;refine JL.Bx bI (An underlying104) (Ag type104) rfl rfl ?_;obtain⟨ep,dj,dk⟩:=bs db;refine zg 1 rfl ?_;refine JS.cl (SL (cf.mono ((ab.trans ah).trans ai)) (cg.mono ((ab.trans ah).trans ai)) (ci.mono ((ab.trans ah).trans ai)) (Rp.mono _ ((ab.trans ah).trans ai) ck) (de.mono ai) dj) rfl rfl (Aw func88 rfl) di ?_;rintro _ eq _ a9 ⟨rfl,rfl⟩ dl;obtain⟨aD,dm,dn⟩:=bs dk;refine JS.cl (Gr dm) rfl rfl (Aw func89 rfl) dl ?_;rintro _ ba _ bb ⟨bJ,bK,rfl,rfl,dp⟩ dq;refine JL.Y rfl (fun ρ h=>Yl.len rfl underlying28 (h _ _ rfl)) ?_;obtain⟨bL,dr,dt⟩:=bs dn;refine zg 2 rfl ?_;refine JL.join (fun L s=>∃(aH:LH) (aI:List Value),Jn ba H aH [[(U,.cells (([]:List Value)++aI).toArray 114 (0,0))]] [(4,iV K.1),(7,.pointer (some ⟨Z,aa,none⟩)),(8,.pointer (some ⟨W,0,none⟩)),(9,(.func (.func 85) #[] #[])),(10,iV K.2.1),(11,iV K.2.2),(12,.pointer (some ⟨U,0,none⟩)),(35,iV K.2.2),(39,.slice al (O.2.1.2).length am),(40,iV ((O.2.1.2).length:Int)),(41,iV ag.2)] L s ((rA 8 (rN .u16)).r aH aI (bL))) ?_ ?_
      ·rintro _ _ ⟨aH,aI,rfl,rfl,du,dv,dw⟩;obtain⟨dx,dy,dz⟩:=bs dt;refine zg 2 rfl ?_;refine JL.Y rfl (fun ρ h=>Yl.A6 (h _ _ rfl) (h _ _ rfl) dy) ?_;refine zg 2 rfl ?_;obtain rfl:=oi dz;exact JL.kw (c8 _ _ (bL,dx) ⟨aH,aI,rfl,rfl,((((ah.trans ai).trans a9).trans bb).trans du),dv,dw⟩ a6) rfl
      ·intro dA;refine JL.block ?_;refine JL.wk [(4,iV K.1),(7,.pointer (some ⟨Z,aa,none⟩)),(8,.pointer (some ⟨W,0,none⟩)),(9,(.func (.func 85) #[] #[])),(10,iV K.2.1),(11,iV K.2.2),(12,.pointer (some ⟨U,0,none⟩)),(14,.pointer (some ⟨bH,0,none⟩)),(35,iV K.2.2),(39,.slice al (O.2.1.2).length am),(40,iV ((O.2.1.2).length:Int)),(41,iV ag.2),(49,.slice bJ (aD).length bK),(50,iV ((aD).length:Int)),(51,iV 0)] rfl ?_;refine JL.Bq dr (fun L s ar=>∃(aJ:LH) (au:List Value),Jn ba H aJ [[(U,.cells (([]:List Value)++au).toArray 114 (0,0))]] [(4,iV K.1),(7,.pointer (some ⟨Z,aa,none⟩)),(8,.pointer (some ⟨W,0,none⟩)),(9,(.func (.func 85) #[] #[])),(10,iV K.2.1),(11,iV K.2.2),(12,.pointer (some ⟨U,0,none⟩)),(14,.pointer (some ⟨bH,0,none⟩)),(35,iV K.2.2),(39,.slice al (O.2.1.2).length am),(40,iV ((O.2.1.2).length:Int)),(41,iV ag.2),(49,.slice bJ (aD).length bK),(50,iV ((aD).length:Int)),(51,iV ar.2)] L s ((rA 8 (rN .u16)).r aJ au (ar.1))) ⟨ba,aB,rfl,rfl,(Le.refl _),dq,(Rp.mono _ ((ai.trans a9).trans bb) bG)⟩ ?_;rintro _ _ ar ⟨aJ,au,rfl,rfl,aK,aE,av⟩ dB ⟨er,bc⟩ dC;have bd:=bc;unfold NI at bd;refine zg 5 rfl ?_;refine JL.ifs (p:=ar.2<((aD).length:Int)) rfl (fun bf=>?_) (fun bf=>?_)
       ·have dD:=ip bd bf;obtain⟨aw,dE,dF⟩:=bs dD;refine zg 5 rfl ?_;refine JS.BV (dp.mono aK) dE rfl rfl rfl rfl rfl underlying28 (Ag type3) ?_;rintro et eu _ rfl dG;refine JL.ld 0 dG (An underlying3) rfl rfl rfl ?_;refine zg 2 rfl ?_;refine JG.Cn 7 [U] ⟨⟨0,_,rfl⟩,trivial⟩ aE mixed rfl (by decide+kernel) fun ht=>?_;refine JG.ms ht rfl [0,1] rfl ?_;obtain⟨bM,bN,dH⟩:=bs dF;obtain⟨_,rfl,_,_,dI⟩:=FU (kk:=8) (pp:=(rN .u16)) av bN;refine JG.V (v:= .pointer (some ⟨U,0+Int.toNat (aw)*1,none⟩)) 2 ht rfl rfl (fun ρ h s' hs=>Yl.G7 (kk:=8) (pp:=(rN .u16)) av bN underlying114 (Ag type102) (h _ _ rfl) (h _ _ rfl)) ?_;refine JG.V (v:= .int .u16 ((bM:Nat):Int)) 3 ht rfl rfl (fun ρ h s' hs=>Yl.load (An underlying102) (h _ _ rfl) (PG (l:= []) 0 aE rfl (by simp [AA]) hs (dI 0 _ rfl))) ?_;refine JG.fd 4 ht underlying104 (Ag type3) rfl rfl rfl rfl ?_;refine JG.V (v:=iV aC.1) 5 ht rfl rfl (fun ρ h s' hs=>Yl.load (An underlying3) (h _ _ rfl) (At.CU (j:=0) (bI.mono ((a9.trans bb).trans aK)) (CS aE hs ⟨⟨0,_,rfl⟩,trivial⟩) rfl)) ?_;obtain⟨aj,dJ,dK⟩:=bs dH;refine JG.Ja (i:=6) ⟨⟨0,_,rfl⟩,trivial⟩ (vs:= [.int .u16 ((bM:Nat):Int),iV aC.1]) (Jf dJ) (by decide+kernel) rfl rfl rfl (Aw func90 rfl) rfl aE ?_;rintro _ bO _ aL ⟨rfl,rfl⟩ dL;refine Au.leaf (tail:= [7,8]) (by decide+kernel) (fun t=>A7 (by decide+kernel) (A7 (by decide+kernel) BU) t) ?_;obtain⟨ew,bg,dM⟩:=bs dK;obtain⟨_,rfl,_,_,ex⟩:=FU (kk:=8) (pp:=(rN .u16)) (Rp.mono _ aL av) bg;refine JL.Y (v:= .pointer (some ⟨U,0+Int.toNat (aw)*1,none⟩)) rfl (fun ρ h=>Yl.G7 (kk:=8) (pp:=(rN .u16)) (Rp.mono _ aL av) bg underlying114 (Ag type102) (h _ _ rfl) (h _ _ rfl)) ?_;have aM:=Ko (us:= [.int .u16 ((aj:Nat):Int)]) (y:=aj) (Rp.mono _ aL av) bg rfl;refine JS.HF (v:= .int .u16 ((aj:Nat):Int)) (l:= []) (ws:=au) (us:= [.int .u16 ((aj:Nat):Int)]) (o:=Int.toNat (aw)*1) 0 rfl rfl rfl dL rfl rfl rfl (Ag type102) (by simp [Value.cells,BJ]) rfl aM.2 fun bP=>?_;replace aM:=aM.1;generalize dN:Fs au (Int.toNat (aw)*1) [.int .u16 ((aj:Nat):Int)]=bQ at bP ⊢;have dO:(rA 8 (rN .u16)).r bO bQ (ar.1.set (Int.toNat aw) aj):=by rw [← dN];exact aM
        obtain⟨dP,dQ,dR⟩:=bs dM;refine zg 3 rfl ?_;refine JL.Y rfl (fun ρ h=>Yl.A6 (h _ _ rfl) (h _ _ rfl) dQ) ?_;refine zg 2 rfl ?_;obtain rfl:=oi dR;exact JL.kw (dC _ _ ((ar.1.set (Int.toNat aw) aj),dP) ⟨bO,bQ,rfl,rfl,(aK.trans aL),bP,dO⟩ bc) rfl
       ·have dS:=im bd bf;refine JL.exit rfl ?_;obtain rfl:=oi dS;obtain rfl:=dB _ bc;exact JL.kw (dA _ _ ⟨aJ,au,rfl,rfl,aK,aE,av⟩) rfl
     ·have dT:=im a7 a8;refine JL.exit rfl ?_;obtain rfl:=oi dT;obtain rfl:=c7 _ a6;exact JL.kw (c6 _ _ ⟨aG,aB,rfl,rfl,ah,bF,bG⟩) rfl
   ·have dU:=im aX aY;refine JL.exit rfl ?_;obtain rfl:=oi dU;obtain rfl:=cq _ aW;exact JL.kw (cp _ _ ⟨ae,rfl,rfl,ab,bv⟩) rfl
end Pal
namespace Pal
open Go Go.Conc Go.Proofs
open Go.Proofs.Tryz
def Ny(fuel:Nat)(p2:Int)(O:(Option (Br))×(Int×(List (Bz)))×Int)(K:Int×Int):Option (A8 (Int×Int) (Int)):=
 if K.2<((O.2.1.2).length:Int) then(
  (ix O.2.1.2 (K.2)).bind fun U=>
  (f103 fuel U.2.2 p2).bind fun W=>
  Option.bind (
   if W=true then(
    (Ay (K.1+1)).bind fun Z=>
    some Z
   ) else(
    some K.1
   )
  ) fun aa=>
  (Ay (K.2+1)).bind fun ab=>
  some (.more (aa,ab))
 ) else(
  some (.done K.1)
 )
def f49(fuel:Nat)(p0:BD)(p1:AT)(p2:Int):Option (Int×Int):=
 (f69 fuel p0 p1).bind fun U=>
 if U≠0 then(
  some (0,U)
 ) else(
  (Ay (((p1).length:Int) - 1)).bind fun W=>
  (f101 fuel p2 0 W).bind fun Z=>
  if Z=true then(
   some (0,3)
  ) else(
   (f78 fuel p0 p1 p2 false).bind fun K=>
   if K.2.2≠0 then(
    some (0,K.2.2)
   ) else(
    Option.bind (iter (Ny fuel p2 K) fuel (0,0)) fun O=>
    Option.bind (
     Option.bind (
      Option.bind (
       if 0<O then(
        some (decide (O<((K.2.1.2).length:Int)))
       ) else(
        some false
       )
      ) fun aa=>
      if aa=true then(
       (Ay (0+1)).bind fun ab=>
       (Ay (ab+1)).bind fun ae=>
       some ae
      ) else(
       if O=0 then(
        (Ay (0+1)).bind fun ag=>
        some ag
       ) else(
        some 0
       )
      )
     ) fun ah=>
     (Ay (ah+1)).bind fun ai=>
     some ai
    ) fun aj=>
    some (aj,0)
   )
  )
 )
theorem SC{E:LH}{ak:Ar}{c2:Nat}{al:Ar}{am:Nat}{aL:Ar}{aM:Nat}{p0:BD}{p1:AT}{p2:Int}(aN:Ao (rL rI) E ak c2 (p0.1))(aO:Ao (rL rI) E al am (p0.2))(aP:Ao Bl E aL aM (p1)){fuel:Nat}{r:Int×Int}(aQ:f49 fuel p0 p1 p2=some r):As (CC Tryz.prog) 49 [.agg #[.slice ak (p0.1).length c2,.slice al (p0.2).length am],.slice aL (p1).length aM,iV p2] E [] (fun w E' B'=>w= .tuple #[iV r.1,iV r.2]∧B'= []):=by
 refine As.en func49 rfl rfl fun Q cz cs H bd ae=>?_;unfold f49 at aQ;refine zg 2 rfl ?_;refine JS.box (v:= .agg #[.slice ak (p0.1).length c2,.slice al (p0.2).length am]) rfl rfl rfl bd rfl fun cA bf=>?_;refine JS.Bo 1 bf rfl fun cB K aR bg=>?_;refine zg 6 rfl ?_;refine JL.Bx aR (An underlying24) (Ag type24) rfl rfl ?_;obtain⟨bh,bi,aS⟩:=bs aQ;refine zg 1 rfl ?_;refine JS.cl (HS (aN.mono K) (aO.mono K) (aP.mono K) bi) rfl rfl (Aw func69 rfl) bg ?_;rintro _ cC _ U ⟨rfl,rfl⟩ aT;refine zg 7 rfl ?_;refine JL.ifs (p:=bh≠0) rfl (fun an=>?_) (fun an=>?_)
 ·have bj:=ip aS an;refine zg 6 rfl ?_;obtain rfl:=oi bj;refine JL.rt func49 rfl rfl ?_;exact ae _ _ _ _ (K.trans U) rfl ⟨rfl,rfl⟩ aT
 ·have bk:=im aS an;refine zg 6 rfl ?_;refine JL.Y rfl (fun ρ h=>Yl.len rfl underlying25 (h _ _ rfl)) ?_;obtain⟨cD,bl,bm⟩:=bs bk;refine JL.Y rfl (fun ρ h=>Yl.Ba (h _ _ rfl) (h _ _ rfl) bl) ?_;obtain⟨bn,bo,aU⟩:=bs bm;refine JS.cl (Gn bo) rfl rfl (Aw func101 rfl) aT ?_;rintro _ cE _ W ⟨rfl,rfl⟩ aV;refine JL.done ?_;refine JL.split (t:=bn) rfl (fun ao=>?_) (fun ao=>?_)
  ·have bp:=ip aU ao;refine zg 5 rfl ?_;obtain rfl:=oi bp;refine JL.rt func49 rfl rfl ?_;exact ae _ _ _ _ ((K.trans U).trans W) rfl ⟨rfl,rfl⟩ aV
  ·have bq:=ib aU ao;refine zg 3 rfl ?_;refine JL.Bx (aR.mono (U.trans W)) (An underlying24) (Ag type24) rfl rfl ?_;obtain⟨O,br,aW⟩:=bs bq;refine zg 2 rfl ?_;refine JS.cl (Jj (aN.mono ((K.trans U).trans W)) (aO.mono ((K.trans U).trans W)) (aP.mono ((K.trans U).trans W)) br) rfl rfl (Aw func78 rfl) aV ?_;rintro _ cF _ aX ⟨cG,ag,ah,rfl,rfl,cH,bu⟩ bv;refine zg 4 rfl ?_;refine JS.alloc rfl rfl rfl bv (AN type97) fun ai bw=>?_;refine zg 1 rfl ?_;refine JS.st (v:= .agg #[iV O.2.1.1,.slice ag (O.2.1.2).length ah]) (off:=0) 5 bw (Ag type97) rfl rfl rfl rfl fun bx=>?_;refine JS.Bo 5 bx rfl fun ap aq aY aZ=>?_;refine zg 8 rfl ?_;refine JL.ifs (p:=O.2.2≠0) rfl (fun ar=>?_) (fun ar=>?_)
   ·have bz:=ip aW ar;refine zg 6 rfl ?_;obtain rfl:=oi bz;refine JL.rt func49 rfl rfl ?_;exact ae _ _ _ _ ((((K.trans U).trans W).trans aX).trans aq) rfl ⟨rfl,rfl⟩ aZ
   ·have bA:=im aW ar;refine zg 8 rfl ?_;refine JL.fd underlying97 (Ag type95) rfl rfl rfl ?_;refine JL.ld 1 aY (An underlying95) rfl rfl rfl ?_;refine JL.Y rfl (fun ρ h=>Yl.len rfl underlying95 (h _ _ rfl)) ?_;obtain⟨aj,bB,bC⟩:=bs bA;refine zg 2 rfl ?_;refine JL.join (fun L s=>∃(Z:LH),Jm ap H Z [] [(10,.pointer (some ⟨ai,0,none⟩)),(12,iV aj)] L s) ?_ ?_
    ·rintro _ _ ⟨Z,rfl,rfl,a0,a1⟩;obtain⟨bD,bE,bF⟩:=bs bC;refine zg 5 rfl ?_;refine JL.join (fun L s=>∃(a2:LH),Jm Z H a2 [] [(15,iV bD)] L s) ?_ ?_
     ·rintro _ _ ⟨a2,rfl,rfl,bG,bH⟩;refine zg 6 rfl ?_;obtain rfl:=oi bF;refine JL.rt func49 rfl rfl ?_;exact ae _ _ _ _ ((((((K.trans U).trans W).trans aX).trans aq).trans a0).trans bG) rfl ⟨rfl,rfl⟩ bH
     ·intro bI;obtain⟨bJ,bK,bL⟩:=bs bE;refine zg 2 rfl ?_;refine JL.join (fun L s=>∃(au:LH),Jm Z H au [] [(15,iV bJ)] L s) ?_ ?_
      ·rintro _ _ ⟨au,rfl,rfl,bM,bN⟩;obtain⟨cI,bO,bP⟩:=bs bL;refine zg 3 rfl ?_;refine JL.Y rfl (fun ρ h=>Yl.A6 (h _ _ rfl) (h _ _ rfl) bO) ?_;refine zg 3 rfl ?_;obtain rfl:=oi bP;exact JL.kw (bI _ _ ⟨au,rfl,rfl,bM,bN⟩) rfl
      ·intro av;obtain⟨a3,a4,a5⟩:=bs bK;refine zg 12 rfl ?_;refine JL.BM [9] (fun L s=>∃(aa:LH),Jm Z H aa [] [(12,iV aj),(15,iV 0),(61,.bool a3)] L s) ?_ ?_
       ·rintro _ _ ⟨aa,rfl,rfl,aw,ay⟩;refine zg 2 rfl ?_;refine JL.split (t:=a3) rfl (fun az=>?_) (fun az=>?_)
        ·have bQ:=ip a5 az;obtain⟨cJ,bR,bS⟩:=bs bQ;refine zg 3 rfl ?_;refine JL.Y rfl (fun ρ h=>Yl.A6 (h _ _ rfl) (h _ _ rfl) bR) ?_;obtain⟨cK,bT,bU⟩:=bs bS;refine zg 5 rfl ?_;refine JL.Y rfl (fun ρ h=>Yl.A6 (h _ _ rfl) (h _ _ rfl) bT) ?_;refine zg 3 rfl ?_;obtain rfl:=oi bU;exact JL.kw (av _ _ ⟨aa,rfl,rfl,aw,ay⟩) rfl
        ·have a6:=ib a5 az;refine zg 7 rfl ?_;refine JL.ifs (p:=aj=0) rfl (fun aA=>?_) (fun aA=>?_)
         ·have bV:=ip a6 aA;obtain⟨cM,bW,bX⟩:=bs bV;refine zg 3 rfl ?_;refine JL.Y rfl (fun ρ h=>Yl.A6 (h _ _ rfl) (h _ _ rfl) bW) ?_;refine zg 3 rfl ?_;obtain rfl:=oi bX;exact JL.kw (av _ _ ⟨aa,rfl,rfl,aw,ay⟩) rfl
         ·have bY:=im a6 aA;refine zg 2 rfl ?_;obtain rfl:=oi bY;exact JL.kw (av _ _ ⟨aa,rfl,rfl,aw,ay⟩) rfl
       ·intro a7;refine JL.Cm (q:=0<aj) (i:=55) rfl (fun aB=>?_) (fun aB=>?_)
        ·have bZ:=ip a4 aB;refine zg 1 rfl ?_;refine JL.fd underlying97 (Ag type95) rfl rfl rfl ?_;refine JL.ld 1 (aY.mono a0) (An underlying95) rfl rfl rfl ?_;refine JL.Y rfl (fun ρ h=>Yl.len rfl underlying95 (h _ _ rfl)) ?_;refine zg 2 rfl ?_;obtain rfl:=oi bZ;exact JL.kw (a7 _ _ ⟨Z,rfl,rfl,(Le.refl _),a1⟩) rfl
        ·have b0:=im a4 aB;refine zg 6 rfl ?_;obtain rfl:=oi b0;exact JL.kw (a7 _ _ ⟨Z,rfl,rfl,(Le.refl _),a1⟩) rfl
    ·intro b1;refine JL.block ?_;refine JL.wk [(2,iV p2),(10,.pointer (some ⟨ai,0,none⟩)),(12,iV 0),(39,.slice ag (O.2.1.2).length ah),(40,iV ((O.2.1.2).length:Int)),(41,iV 0)] rfl ?_;refine JL.Bq bB (fun L s ab=>∃(aC:LH),Jm ap H aC [] [(2,iV p2),(10,.pointer (some ⟨ai,0,none⟩)),(12,iV ab.1),(39,.slice ag (O.2.1.2).length ah),(40,iV ((O.2.1.2).length:Int)),(41,iV ab.2)] L s) ⟨ap,rfl,rfl,(Le.refl _),aZ⟩ ?_;rintro _ _ ab ⟨aC,rfl,rfl,aD,a8⟩ b2 ⟨cN,aE⟩ b3;have aF:=aE;unfold Ny at aF;refine zg 5 rfl ?_;refine JL.ifs (p:=ab.2<((O.2.1.2).length:Int)) rfl (fun aG=>?_) (fun aG=>?_)
     ·have b4:=ip aF aG;obtain⟨aH,b5,b6⟩:=bs b4;refine zg 5 rfl ?_;refine JS.BV (bu.mono (aq.trans aD)) b5 rfl rfl rfl rfl rfl underlying95 (Ag type104) ?_;rintro cO cP _ ⟨_,_,rfl,rfl,⟨_,_,rfl,⟨b7,b8,rfl,cQ⟩,rfl⟩⟩ b9;refine JL.Bx b9 (An underlying104) (Ag type104) rfl rfl ?_;refine JS.alloc rfl rfl rfl a8 (AN type104) fun cR ca=>?_;refine JS.st (v:= .agg #[iV aH.1,.slice b7 (aH.2.1).length b8,.int .u16 ((aH.2.2:Nat):Int)]) (off:=0) 0 ca (Ag type104) rfl rfl rfl rfl fun cb=>?_;refine JS.Bo 0 cb rfl fun cT cc cd ce=>?_;refine zg 3 rfl ?_;refine JL.fd underlying104 (Ag type102) rfl rfl rfl ?_;refine JL.ld 2 cd (An underlying102) rfl rfl rfl ?_;obtain⟨cf,cg,ci⟩:=bs b6;refine zg 1 rfl ?_;refine JS.cl (Kh cg) rfl rfl (Aw func103 rfl) ce ?_;rintro _ aI _ ck ⟨rfl,rfl⟩ a9;obtain⟨ba,bb,cm⟩:=bs ci;refine JL.done ?_;refine JL.join (fun L s=>∃(aJ:LH),Jm aI H aJ [] [(2,iV p2),(10,.pointer (some ⟨ai,0,none⟩)),(12,iV ba),(39,.slice ag (O.2.1.2).length ah),(40,iV ((O.2.1.2).length:Int)),(41,iV ab.2)] L s) ?_ ?_
      ·rintro _ _ ⟨aJ,rfl,rfl,cn,co⟩;obtain⟨cp,cq,cr⟩:=bs cm;refine zg 2 rfl ?_;refine JL.Y rfl (fun ρ h=>Yl.A6 (h _ _ rfl) (h _ _ rfl) cq) ?_;refine zg 2 rfl ?_;obtain rfl:=oi cr;exact JL.kw (b3 _ _ (ba,cp) ⟨aJ,rfl,rfl,(((aD.trans cc).trans ck).trans cn),co⟩ aE) rfl
      ·intro bc;refine JL.split (t:=cf) rfl (fun aK=>?_) (fun aK=>?_)
       ·have ct:=ip bb aK;obtain⟨cV,cu,cv⟩:=bs ct;refine zg 2 rfl ?_;refine JL.Y rfl (fun ρ h=>Yl.A6 (h _ _ rfl) (h _ _ rfl) cu) ?_;refine zg 2 rfl ?_;obtain rfl:=oi cv;exact JL.kw (bc _ _ ⟨aI,rfl,rfl,(Le.refl _),a9⟩) rfl
       ·have cw:=ib bb aK;refine JL.skip ?_;obtain rfl:=oi cw;exact JL.kw (bc _ _ ⟨aI,rfl,rfl,(Le.refl _),a9⟩) rfl
     ·have cy:=im aF aG;refine JL.exit rfl ?_;obtain rfl:=oi cy;obtain rfl:=b2 _ aE;exact JL.kw (b1 _ _ ⟨aC,rfl,rfl,aD,a8⟩) rfl
end Pal
