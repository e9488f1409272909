/- ToothHonest answers true for every list of numbers, on every schedule; without a condition beyond those of the given row and card. Part 5 of 8. -/
import Derived.Test.YtboibffcmhheiaaGreatDoorHoc
import Derived.Test.YtboibffcmhheiaaGreatDoorHod
set_option linter.all false
set_option maxRecDepth 100000
namespace Pal
open Go Go.Conc Go.Proofs
open Go.Proofs.Tryz
variable {J:Judge Tryz.prog}{E:LH}
def f125(fuel:Nat)(p0:Int×Int)(p1:Int×Int):Option (Int):=
 (Av (p0.1 - p1.1)).bind fun K=>
 some K
theorem Rs{p0:Int×Int}{p1:Int×Int}{fuel:Nat}{r:Int}(U:f125 fuel p0 p1=some r):Au J 125 [.agg #[iV p0.1,iV p0.2],.agg #[iV p1.1,iV p1.2]] E [] (fun w E' B'=>w=iV r∧B'= []):=by
 refine Au.en func125 rfl rfl fun Q ap cs H Z aa=>?_;unfold f125 at U;refine JL.go 2 rfl ?_;refine JS.box (v:= .agg #[iV p0.1,iV p0.2]) rfl rfl rfl Z rfl fun ab ae=>?_;refine JS.Bf 1 ae rfl fun ag ah K ai=>?_;replace K:At ag ab 0 [iV p0.1,iV p0.2]:=K;refine JS.box (v:= .agg #[iV p1.1,iV p1.2]) rfl rfl rfl ai rfl fun aj ak=>?_;refine JS.Bf 2 ak rfl fun al W O am=>?_;replace O:At al aj 0 [iV p1.1,iV p1.2]:=O;refine JL.go 4 rfl ?_;refine JL.fd underlying27 (Ah type3) rfl rfl rfl ?_;refine JL.ld 0 (K.mono W) (Ao underlying3) rfl rfl rfl ?_;refine JL.fd underlying27 (Ah type3) rfl rfl rfl ?_;refine JL.ld 0 O (Ao underlying3) rfl rfl rfl ?_;obtain⟨aq,an,ao⟩:=bs U;refine JL.Y rfl (fun ρ h=>Yl.A4 (h _ _ rfl) (h _ _ rfl) an) ?_;refine JL.go 2 rfl ?_;obtain rfl:=oi ao;refine JL.rt func125 rfl rfl ?_;exact aa _ _ _ _ (ah.trans W) rfl ⟨rfl,rfl⟩ am
def Mm(fuel:Nat)(p1:Int)(K:Int×(List (Int×Int))):Option (AV (Int×(List (Int×Int))) ((List (Int×Int)))):=
 Option.bind (
  if p1<K.1 then(
   (ix K.2 (K.1)).bind fun W=>
   (Av (K.1 - 1)).bind fun Z=>
   (ix K.2 (Z)).bind fun aa=>
   (f125 fuel W aa).bind fun ab=>
   some (decide (ab<0))
  ) else(
   some false
  )
 ) fun ae=>
 if ae=true then(
  (Av (K.1 - 1)).bind fun O=>
  (Av (K.1 - 1)).bind fun ag=>
  (ix K.2 (ag)).bind fun U=>
  (ix K.2 (K.1)).bind fun ah=>
  (ix (K.2.set (Int.toNat K.1) U) (O)).bind fun aj=>
  (Av (K.1 - 1)).bind fun ai=>
  some (.more (ai,((K.2.set (Int.toNat K.1) U).set (Int.toNat O) ah)))
 ) else(
  some (.done K.2)
 )
def Mo(fuel:Nat)(p1:Int)(p2:Int)(K:Int×(List (Int×Int))):Option (AV (Int×(List (Int×Int))) ((List (Int×Int)))):=
 if K.1<p2 then(
  Option.bind (iter (Mm fuel p1) fuel K) fun O=>
  (Av (K.1+1)).bind fun U=>
  some (.more (U,O))
 ) else(
  some (.done K.2)
 )
def f168(fuel:Nat)(p0:List (Int×Int))(p1:Int)(p2:Int):Option ((List (Int×Int))):=
 (Av (p1+1)).bind fun K=>
 Option.bind (iter (Mo fuel p1 p2) fuel (K,p0)) fun O=>
 some O
theorem Nh{K:Nat}{W:Nat}{Z:Nat}{av:Array Value}{p0:List (Int×Int)}{p1:Int}{p2:Int}(hW:WL 27 (rP rI rI) E K W Z av p0){fuel:Nat}{r:(List (Int×Int))}(aJ:f168 fuel p0 p1 p2=some r):Au J 168 [.slice (some ⟨K,0,none⟩) Z W,iV p1,iV p2,(.func (.func 125) #[] #[])] E [(K,.cells av 27 (0,0))] (fun w E' B'=>∃(aK:Array Value),w= .tuple #[]∧B'= [(K,.cells aK 27 (0,0))]∧WL 27 (rP rI rI) E' K W Z aK (r)):=by
 refine Au.en func168 rfl rfl fun Q bY cs H a7 a8=>?_;unfold f168 at aJ;obtain⟨a9,ba,bb⟩:=bs aJ;refine JL.go 3 rfl ?_;refine JL.Y rfl (fun ρ h=>Yl.A0 (h _ _ rfl) (h _ _ rfl) ba) ?_;obtain⟨bc,bd,bf⟩:=bs bb;refine JL.go 2 rfl ?_;refine JL.join (fun L s=>∃(aw:LH) (f17:Array Value),Jn E H aw [[(K,.cells f17 27 (0,0))]] [] L s (WL 27 (rP rI rI) aw K W Z f17 (bc))) ?_ ?_
 ·rintro _ _ ⟨aw,f17,rfl,rfl,bg,bh,bi⟩;obtain rfl:=oi bf;refine JL.fin (v:= .tuple #[]) rfl rfl (Bm.list func168 rfl (vs:= []) trivial) ?_;exact a8 _ _ _ _ bg rfl ⟨f17,rfl,(by first | rfl | simp | (simp [Value.cells])),bi⟩ bh
 ·intro bj;refine JL.block ?_;refine JL.wk [(0,.slice (some ⟨K,0,none⟩) Z W),(1,iV p1),(2,iV p2),(3,(.func (.func 125) #[] #[])),(8,iV a9)] rfl ?_;refine JL.Bi bd (fun L s ae=>∃(ag:LH) (f25:Array Value),Jn E H ag [[(K,.cells f25 27 (0,0))]] [(0,.slice (some ⟨K,0,none⟩) Z W),(1,iV p1),(2,iV p2),(3,(.func (.func 125) #[] #[])),(8,iV ae.1)] L s (WL 27 (rP rI rI) ag K W Z f25 (ae.2))) ⟨E,av,rfl,rfl,(Le.refl _),a7,hW⟩ ?_;rintro _ _ ae ⟨ag,f25,rfl,rfl,aL,aM,aN⟩ bk ⟨bZ,ay⟩ bl;have az:=ay;unfold Mo at az;refine JL.go 7 rfl ?_;refine JL.ifs (p:=ae.1<p2) rfl (fun aA=>?_) (fun aA=>?_)
  ·have aO:=az;rw [if_pos aA] at aO;obtain⟨aP,bm,bn⟩:=bs aO;refine JL.go 8 rfl ?_;refine JL.join (fun L s=>∃(ap:LH) (f48:Array Value),Jn ag H ap [[(K,.cells f48 27 (0,0))]] [(0,.slice (some ⟨K,0,none⟩) Z W),(1,iV p1),(2,iV p2),(3,(.func (.func 125) #[] #[])),(8,iV ae.1)] L s (WL 27 (rP rI rI) ap K W Z f48 (aP))) ?_ ?_
   ·rintro _ _ ⟨ap,f48,rfl,rfl,bo,bp,bq⟩;obtain⟨br,bu,bv⟩:=bs bn;refine JL.go 3 rfl ?_;refine JL.Y rfl (fun ρ h=>Yl.A0 (h _ _ rfl) (h _ _ rfl) bu) ?_;refine JL.go 2 rfl ?_;obtain rfl:=oi bv;exact JL.kw (bl _ _ (br,aP) ⟨ap,f48,rfl,rfl,(aL.trans bo),bp,bq⟩ ay) rfl
   ·intro bw;refine JL.block ?_;refine JL.wk [(0,.slice (some ⟨K,0,none⟩) Z W),(1,iV p1),(2,iV p2),(3,(.func (.func 125) #[] #[])),(8,iV ae.1),(9,iV ae.1)] rfl ?_;refine JL.Bi bm (fun L s aa=>∃(al:LH) (f58:Array Value),Jn ag H al [[(K,.cells f58 27 (0,0))]] [(0,.slice (some ⟨K,0,none⟩) Z W),(1,iV p1),(2,iV p2),(3,(.func (.func 125) #[] #[])),(8,iV ae.1),(9,iV aa.1)] L s (WL 27 (rP rI rI) al K W Z f58 (aa.2))) ⟨ag,f25,rfl,rfl,(Le.refl _),aM,aN⟩ ?_;rintro _ _ aa ⟨al,f58,rfl,rfl,aQ,am,ab⟩ bx ⟨b0,aB⟩ bz;have aR:=aB;unfold Mm at aR;refine JL.go 2 rfl ?_;refine JG.B8 17 [K] ⟨⟨0,_,rfl⟩,trivial⟩ am mixed rfl (by decide+kernel) fun ht=>?_;refine JG.mv 0 ht rfl rfl ?_;refine JG.mv 1 ht rfl rfl ?_;refine JG.mv 2 ht rfl rfl ?_;refine JG.mv 3 ht rfl rfl ?_;obtain⟨aS,aT,aU⟩:=bs aR;refine Aw.join 0 #[true,true,true,true,true,true,true,true,true,true,true,true,true,true,true,true,true] (fun L s=>∃(aq:LH),Jm al H aq [[(K,.cells f58 27 (0,0))]] [(0,.slice (some ⟨K,0,none⟩) Z W),(1,iV p1),(2,iV p2),(3,(.func (.func 125) #[] #[])),(8,iV ae.1),(9,iV aa.1),(34,.bool aS)] L s) ?_ ?_
    ·rintro _ _ ⟨aq,rfl,rfl,ai,ar⟩;refine Aw.fin (by decide+kernel) ?_;refine JL.split (t:=aS) rfl (fun aC=>?_) (fun aC=>?_)
     ·have aV:=aU;rw [if_pos aC] at aV;refine JL.go 3 rfl ?_;refine JB.draw [15,17] [K] mixed rfl ?_;refine JB.mv 0 rfl rfl ?_;refine JB.mv 1 rfl rfl ?_;refine JB.mv 2 rfl rfl ?_;refine JB.mv 3 rfl rfl ?_;obtain⟨an,bA,bB⟩:=bs aV;refine JB.V 4 true rfl rfl (fun ρ h s' hs=>Yl.A4 (h _ _ rfl) (h _ _ rfl) bA) ?_;refine JB.mv 5 rfl rfl ?_;refine JB.mv 6 rfl rfl ?_;obtain⟨bC,bD,bE⟩:=bs bB;refine JB.V 7 true rfl rfl (fun ρ h s' hs=>Yl.A4 (h _ _ rfl) (h _ _ rfl) bD) ?_;obtain⟨O,aW,bF⟩:=bs bE;obtain⟨_,⟨_,_,rfl,rfl,rfl⟩,aD⟩:=WL.at (ab.mono ai) aW;replace aD:∀(j:Nat) w,[iV O.1,iV O.2][j]? =some w→f58[Int.toNat (bC)*2+j]? =some w:=aD;refine JB.V 8 true rfl rfl (fun ρ h s' hs=>Yl.A8 ab.2 aW underlying25 (Ah type27) (h _ _ rfl) (h _ _ rfl)) ?_;refine JB.val (v:= .agg #[iV O.1,iV O.2]) 9 false rfl (by decide+kernel) rfl rfl rfl (fun ρ h s' hs=>have hs:=hs rfl;Yl.Bj (vs:= [iV O.1,iV O.2]) (Ao underlying27) (Ah type27) (h _ _ rfl) (fun q w ah=>by rw [Bb rfl];exact Bd 0 ar rfl (by simp [AD]) hs (aD q w ah))) ?_;refine JB.mv 10 rfl rfl ?_;refine JB.mv 11 rfl rfl ?_;obtain⟨U,au,bG⟩:=bs bF;obtain⟨_,⟨_,_,rfl,rfl,rfl⟩,aE⟩:=WL.at (ab.mono ai) au;replace aE:∀(j:Nat) w,[iV U.1,iV U.2][j]? =some w→f58[Int.toNat (aa.1)*2+j]? =some w:=aE;refine JB.V 12 true rfl rfl (fun ρ h s' hs=>Yl.A8 ab.2 au underlying25 (Ah type27) (h _ _ rfl) (h _ _ rfl)) ?_;refine JB.val (v:= .agg #[iV U.1,iV U.2]) 13 false rfl (by decide+kernel) rfl rfl rfl (fun ρ h s' hs=>have hs:=hs rfl;Yl.Bj (vs:= [iV U.1,iV U.2]) (Ao underlying27) (Ah type27) (h _ _ rfl) (fun q w ah=>by rw [Bb rfl];exact Bd 0 ar rfl (by simp [AD]) hs (aE q w ah))) ?_;refine JB.V 14 true rfl rfl (fun ρ h s' hs=>Yl.A8 ab.2 au underlying25 (Ah type27) (h _ _ rfl) (h _ _ rfl)) ?_;have ao:=WL.put (x':=O) (ws':= [iV O.1,iV O.2]) (ab.mono ai) ab.2 au ⟨_,_,rfl,rfl,rfl⟩;refine JB.store (v:= .agg #[iV O.1,iV O.2]) (off:=Int.toNat (aa.1)*2) 15 0 (by decide+kernel) (by decide+kernel) rfl rfl rfl ar rfl rfl (Ah type27) (by simp [Value.cells,Bx]) rfl ao.2 fun bH=>?_;obtain⟨aX,aF,bI⟩:=bs bG;obtain⟨_,⟨_,_,rfl,rfl,rfl⟩,aY⟩:=WL.at ao.1 aF;replace aY:∀(j:Nat) w,[iV aX.1,iV aX.2][j]? =some w→(AN f58 (Int.toNat (aa.1)*2) [iV O.1,iV O.2])[Int.toNat (an)*2+j]? =some w:=aY;refine JB.V 16 true rfl rfl (fun ρ h s' hs=>Yl.A8 (ao.1).2 aF underlying25 (Ah type27) (h _ _ rfl) (h _ _ rfl)) ?_;have aZ:=WL.put (x':=U) (ws':= [iV U.1,iV U.2]) ao.1 (ao.1).2 aF ⟨_,_,rfl,rfl,rfl⟩;refine JB.store (v:= .agg #[iV U.1,iV U.2]) (off:=Int.toNat (an)*2) 17 0 (by decide+kernel) (by decide+kernel) rfl rfl rfl bH rfl rfl (Ah type27) (by simp [Value.cells,Bx]) rfl aZ.2 fun bJ=>?_;refine JB.fin (by decide+kernel) ?_;refine JS.norm (S':= [[(K,.cells (AN (AN f58 (Int.toNat (aa.1)*2) [iV O.1,iV O.2]) (Int.toNat (an)*2) [iV U.1,iV U.2]) 27 (0,0))]]) rfl bJ fun bK=>?_;obtain⟨bL,bM,bN⟩:=bs bI;refine JL.go 3 rfl ?_;refine JL.Y rfl (fun ρ h=>Yl.A4 (h _ _ rfl) (h _ _ rfl) bM) ?_;refine JL.go 2 rfl ?_;obtain rfl:=oi bN;exact JL.kw (bz _ _ (bL,((aa.2.set (Int.toNat aa.1) O).set (Int.toNat an) U)) ⟨aq,(AN (AN f58 (Int.toNat (aa.1)*2) [iV O.1,iV O.2]) (Int.toNat (an)*2) [iV U.1,iV U.2]),rfl,rfl,(aQ.trans ai),bK,aZ.1⟩ aB) rfl
     ·have a0:=aU;rw [if_neg (by rw [aC];exact Bool.false_ne_true)] at a0;refine JL.exit rfl ?_;obtain rfl:=oi a0;obtain rfl:=bx _ aB;exact JL.kw (bw _ _ ⟨aq,f58,rfl,rfl,(aQ.trans ai),ar,(ab.mono ai)⟩) rfl
    ·intro a1;refine Aw.B5 (q:=p1<aa.1) (i:=21) rfl (fun aG=>?_) (fun aG=>?_)
     ·have a2:=aT;rw [if_pos aG] at a2;refine JG.mv 4 ht rfl rfl ?_;refine JG.mv 5 ht rfl rfl ?_;refine JG.mv 6 ht rfl rfl ?_;obtain⟨aj,a3,bO⟩:=bs a2;obtain⟨_,⟨_,_,rfl,rfl,rfl⟩,aH⟩:=WL.at ab a3;replace aH:∀(j:Nat) w,[iV aj.1,iV aj.2][j]? =some w→f58[Int.toNat (aa.1)*2+j]? =some w:=aH;refine JG.V 7 ht rfl rfl (fun ρ h s' hs=>Yl.A8 (ab).2 a3 underlying25 (Ah type27) (h _ _ rfl) (h _ _ rfl)) ?_;refine JG.V 8 ht rfl rfl (fun ρ h s' hs=>Yl.Bj (vs:= [iV aj.1,iV aj.2]) (Ao underlying27) (Ah type27) (h _ _ rfl) (fun q w ah=>by rw [Bb rfl];exact Bd 0 am rfl (by simp [AD]) hs (aH q w ah))) ?_;refine JG.mv 9 ht rfl rfl ?_;refine JG.mv 10 ht rfl rfl ?_;obtain⟨bP,bQ,bR⟩:=bs bO;refine JG.V 11 ht rfl rfl (fun ρ h s' hs=>Yl.A4 (h _ _ rfl) (h _ _ rfl) bQ) ?_;obtain⟨ak,a4,bS⟩:=bs bR;obtain⟨_,⟨_,_,rfl,rfl,rfl⟩,aI⟩:=WL.at ab a4;replace aI:∀(j:Nat) w,[iV ak.1,iV ak.2][j]? =some w→f58[Int.toNat (bP)*2+j]? =some w:=aI;refine JG.V 12 ht rfl rfl (fun ρ h s' hs=>Yl.A8 (ab).2 a4 underlying25 (Ah type27) (h _ _ rfl) (h _ _ rfl)) ?_;refine JG.V 13 ht rfl rfl (fun ρ h s' hs=>Yl.Bj (vs:= [iV ak.1,iV ak.2]) (Ao underlying27) (Ah type27) (h _ _ rfl) (fun q w ah=>by rw [Bb rfl];exact Bd 0 am rfl (by simp [AD]) hs (aI q w ah))) ?_;obtain⟨b1,bT,bU⟩:=bs bS;refine JG.Fq (i:=14) ⟨⟨0,_,rfl⟩,trivial⟩ (vs:= [.agg #[iV aj.1,iV aj.2],.agg #[iV ak.1,iV ak.2]]) (Rs bT) (by decide+kernel) rfl rfl rfl rfl (Ay func125 rfl) rfl am ?_;rintro _ bV _ bW ⟨rfl,rfl⟩ bX;refine JG.mv 15 ht rfl rfl ?_;refine JG.mv 16 ht rfl rfl ?_;obtain rfl:=oi bU;refine Aw.B6 ?_ (a1 _ _ ⟨bV,rfl,rfl,bW,bX⟩);exact⟨rfl,rfl,rfl,rfl,rfl,rfl,rfl,trivial⟩
     ·have a5:=aT;rw [if_neg aG] at a5;refine JG.mv 4 ht rfl rfl ?_;refine JG.mv 5 ht rfl rfl ?_;refine JG.mv 6 ht rfl rfl ?_;refine JG.mv 7 ht rfl rfl ?_;refine JG.mv 8 ht rfl rfl ?_;refine JG.mv 9 ht rfl rfl ?_;refine JG.mv 10 ht rfl rfl ?_;refine JG.mv 11 ht rfl rfl ?_;refine JG.mv 12 ht rfl rfl ?_;refine JG.mv 13 ht rfl rfl ?_;refine JG.mv 14 ht rfl rfl ?_;refine JG.mv 15 ht rfl rfl ?_;refine JG.mv 16 ht rfl rfl ?_;obtain rfl:=oi a5;refine Aw.B6 ?_ (a1 _ _ ⟨al,rfl,rfl,(Le.refl _),am⟩);exact⟨rfl,rfl,rfl,rfl,rfl,rfl,rfl,trivial⟩
  ·have a6:=az;rw [if_neg aA] at a6;refine JL.exit rfl ?_;obtain rfl:=oi a6;obtain rfl:=bk _ ay;exact JL.kw (bj _ _ ⟨ag,f25,rfl,rfl,aL,aM,aN⟩) rfl
def Mw(fuel:Nat)(p1:Int)(K:Int×Int×(List (Int×Int))):Option (AV (Int×Int×(List (Int×Int))) (Int×(List (Int×Int)))):=
 if K.2.1≤p1 then(
  (f168 fuel K.2.2 K.1 K.2.1).bind fun O=>
  (Av (K.2.1+20)).bind fun U=>
  some (.more (K.2.1,U,O))
 ) else(
  some (.done (K.1,K.2.2))
 )
def MB(fuel:Nat)(p1:Int)(K:Int)(O:Int)(U:Unit):Option (AV (Unit) (Unit)):=
 if O≤p1 then(
  (Av (0+K)).bind fun W=>
  none
 ) else(
  some (.done ())
 )
def Mz(fuel:Nat)(p1:Int)(K:Int):Option (AV (Int) (Unit)):=
 if K<p1 then(
  (Av (2*K)).bind fun O=>
  Option.bind (iter (MB fuel p1 K O) fuel ()) fun Z=>
  (Av (0+K)).bind fun U=>
  Option.bind (
   if U<p1 then(
    none
   ) else(
    some ()
   )
  ) fun aa=>
  (Av (K*2)).bind fun W=>
  some (.more W)
 ) else(
  some (.done ())
 )
def f138(fuel:Nat)(p0:List (Int×Int))(p1:Int):Option ((List (Int×Int))):=
 Option.bind (iter (Mw fuel p1) fuel (0,20,p0)) fun K=>
 (f168 fuel K.2 K.1 p1).bind fun O=>
 Option.bind (iter (Mz fuel p1) fuel 20) fun U=>
 some O
theorem Sg{K:Nat}{O:Nat}{U:Nat}{ag:Array Value}{p0:List (Int×Int)}{p1:Int}(hW:WL 27 (rP rI rI) E K O U ag p0){fuel:Nat}{r:(List (Int×Int))}(ay:f138 fuel p0 p1=some r):Au J 138 [.slice (some ⟨K,0,none⟩) U O,iV p1,(.func (.func 125) #[] #[])] E [(K,.cells ag 27 (0,0))] (fun w E' B'=>∃(az:Array Value),w= .tuple #[]∧B'= [(K,.cells az 27 (0,0))]∧WL 27 (rP rI rI) E' K O U az (r)):=by
 refine Au.en func138 rfl rfl fun Q bQ cs H aS aT=>?_;unfold f138 at ay;obtain⟨aA,aU,aV⟩:=bs ay;refine JL.go 11 rfl ?_;refine JL.join (fun L s=>∃(ah:LH) (f15:Array Value),Jn E H ah [[(K,.cells f15 27 (0,0))]] [(0,.slice (some ⟨K,0,none⟩) U O),(1,iV p1),(2,(.func (.func 125) #[] #[])),(6,iV 20),(7,iV aA.1)] L s (WL 27 (rP rI rI) ah K O U f15 (aA.2))) ?_ ?_
 ·rintro _ _ ⟨ah,f15,rfl,rfl,aW,aX,aY⟩;obtain⟨bR,aZ,a0⟩:=bs aV;refine JL.go 6 rfl ?_;refine JS.Bv 0 (Nh aY aZ) rfl rfl (Ay func168 rfl) aX rfl ?_;rintro _ ai _ a1 ⟨f23,rfl,rfl,a2⟩ a3;refine JS.norm (S':= [[(K,.cells f23 27 (0,0))]]) rfl a3 fun a4=>?_;obtain⟨bS,a5,a6⟩:=bs a0;refine JL.done ?_;refine JL.join (fun L s=>∃(aB:LH),Jm ai H aB [[(K,.cells f23 27 (0,0))]] [] L s) ?_ ?_
  ·rintro _ _ ⟨aB,rfl,rfl,aC,a7⟩;obtain rfl:=oi a6;refine JL.fin (v:= .tuple #[]) rfl rfl (Bm.list func138 rfl (vs:= []) trivial) ?_;exact aT _ _ _ _ ((aW.trans a1).trans aC) rfl ⟨f23,rfl,(by first | rfl | simp | (simp [Value.cells])),(a2.mono aC)⟩ a7
  ·intro a8;refine JL.block ?_;refine JL.wk [(0,.slice (some ⟨K,0,none⟩) U O),(1,iV p1),(2,(.func (.func 125) #[] #[])),(6,iV 20)] rfl ?_;refine JL.Bi a5 (fun L s W=>∃(Z:LH),Jm ai H Z [[(K,.cells f23 27 (0,0))]] [(0,.slice (some ⟨K,0,none⟩) U O),(1,iV p1),(2,(.func (.func 125) #[] #[])),(6,iV W)] L s) ⟨ai,rfl,rfl,(Le.refl _),a4⟩ ?_;rintro _ _ W ⟨Z,rfl,rfl,aD,aE⟩ a9 ⟨bT,aj⟩ ba;have ak:=aj;unfold Mz at ak;refine JL.go 7 rfl ?_;refine JL.ifs (p:=W<p1) rfl (fun al=>?_) (fun al=>?_)
   ·have aF:=ak;rw [if_pos al] at aF;obtain⟨am,bb,bc⟩:=bs aF;refine JL.go 5 rfl ?_;refine JL.Y rfl (fun ρ h=>Yl.mulC (h _ _ rfl) (h _ _ rfl) bb) ?_;obtain⟨bU,bd,bf⟩:=bs bc;refine JL.go 4 rfl ?_;refine JL.join (fun L s=>∃(ab:LH),Jm Z H ab [[(K,.cells f23 27 (0,0))]] [(0,.slice (some ⟨K,0,none⟩) U O),(1,iV p1),(2,(.func (.func 125) #[] #[])),(6,iV W),(7,iV 0)] L s) ?_ ?_
    ·rintro _ _ ⟨ab,rfl,rfl,bg,bh⟩;obtain⟨bi,bj,bk⟩:=bs bf;refine JL.go 5 rfl ?_;refine JL.Y rfl (fun ρ h=>Yl.A0 (h _ _ rfl) (h _ _ rfl) bj) ?_;obtain⟨bV,aG,bl⟩:=bs bk;refine JL.go 8 rfl ?_;refine JL.join (fun L s=>∃(an:LH),Jm ab H an [[(K,.cells f23 27 (0,0))]] [(0,.slice (some ⟨K,0,none⟩) U O),(1,iV p1),(2,(.func (.func 125) #[] #[])),(6,iV W)] L s) ?_ ?_
     ·rintro _ _ ⟨an,rfl,rfl,bm,bn⟩;obtain⟨bo,bp,bq⟩:=bs bl;refine JL.go 2 rfl ?_;refine JL.Y rfl (fun ρ h=>Yl.mulC (h _ _ rfl) (h _ _ rfl) bp) ?_;refine JL.go 3 rfl ?_;obtain rfl:=oi bq;exact JL.kw (ba _ _ bo ⟨an,rfl,rfl,((aD.trans bg).trans bm),bn⟩ aj) rfl
     ·intro br;refine JL.ifs (p:=bi<p1) rfl (fun ao=>?_) (fun ao=>?_)
      ·have aH:=aG;rw [if_pos ao] at aH;refine JL.go 6 rfl ?_;cases aH
      ·have aI:=aG;rw [if_neg ao] at aI;refine JL.skip ?_;obtain rfl:=oi aI;exact JL.kw (br _ _ ⟨ab,rfl,rfl,(Le.refl _),bh⟩) rfl
    ·intro bu;refine JL.block ?_;refine JL.wk [(0,.slice (some ⟨K,0,none⟩) U O),(1,iV p1),(2,(.func (.func 125) #[] #[])),(6,iV W),(7,iV 0),(8,iV am)] rfl ?_;refine JL.Bi bd (fun L s bv=>∃(ap:LH),Jm Z H ap [[(K,.cells f23 27 (0,0))]] [(0,.slice (some ⟨K,0,none⟩) U O),(1,iV p1),(2,(.func (.func 125) #[] #[])),(6,iV W),(7,iV 0),(8,iV am)] L s) ⟨Z,rfl,rfl,(Le.refl _),aE⟩ ?_;rintro _ _ bv ⟨ap,rfl,rfl,bw,bx⟩ bz ⟨bW,aJ⟩ bX;have aq:=aJ;unfold MB at aq;refine JL.go 7 rfl ?_;refine JL.ifs (p:=am≤p1) rfl (fun ar=>?_) (fun ar=>?_)
     ·have aK:=aq;rw [if_pos ar] at aK;obtain⟨bY,bA,bB⟩:=bs aK;refine JL.go 8 rfl ?_;refine JL.Y rfl (fun ρ h=>Yl.A0 (h _ _ rfl) (h _ _ rfl) bA) ?_;refine JL.go 2 rfl ?_;cases bB
     ·have aL:=aq;rw [if_neg ar] at aL;refine JL.exit rfl ?_;obtain rfl:=oi aL;obtain rfl:=bz _ aJ;exact JL.kw (bu _ _ ⟨ap,rfl,rfl,bw,bx⟩) rfl
   ·have aM:=ak;rw [if_neg al] at aM;refine JL.exit rfl ?_;obtain rfl:=oi aM;obtain rfl:=a9 _ aj;exact JL.kw (a8 _ _ ⟨Z,rfl,rfl,aD,aE⟩) rfl
 ·intro bC;refine JL.block ?_;refine JL.wk [(0,.slice (some ⟨K,0,none⟩) U O),(1,iV p1),(2,(.func (.func 125) #[] #[])),(6,iV 20),(7,iV 0),(8,iV 20)] rfl ?_;refine JL.Bi aU (fun L s aa=>∃(ae:LH) (f104:Array Value),Jn E H ae [[(K,.cells f104 27 (0,0))]] [(0,.slice (some ⟨K,0,none⟩) U O),(1,iV p1),(2,(.func (.func 125) #[] #[])),(6,iV 20),(7,iV aa.1),(8,iV aa.2.1)] L s (WL 27 (rP rI rI) ae K O U f104 (aa.2.2))) ⟨E,ag,rfl,rfl,(Le.refl _),aS,hW⟩ ?_;rintro _ _ aa ⟨ae,f104,rfl,rfl,aN,aO,aP⟩ bD ⟨bZ,au⟩ bE;have av:=au;unfold Mw at av;refine JL.go 7 rfl ?_;refine JL.ifs (p:=aa.2.1≤p1) rfl (fun aw=>?_) (fun aw=>?_)
  ·have aQ:=av;rw [if_pos aw] at aQ;obtain⟨bF,bG,bH⟩:=bs aQ;refine JL.go 8 rfl ?_;refine JS.Bv 0 (Nh aP bG) rfl rfl (Ay func168 rfl) aO rfl ?_;rintro _ bI _ bJ ⟨f119,rfl,rfl,bK⟩ bL;refine JS.norm (S':= [[(K,.cells f119 27 (0,0))]]) rfl bL fun bM=>?_;obtain⟨bN,bO,bP⟩:=bs bH;refine JL.go 9 rfl ?_;refine JL.Y rfl (fun ρ h=>Yl.A0 (h _ _ rfl) (h _ _ rfl) bO) ?_;refine JL.go 3 rfl ?_;obtain rfl:=oi bP;exact JL.kw (bE _ _ (aa.2.1,bN,bF) ⟨bI,f119,rfl,rfl,(aN.trans bJ),bM,bK⟩ au) rfl
  ·have aR:=av;rw [if_neg aw] at aR;refine JL.exit rfl ?_;obtain rfl:=oi aR;obtain rfl:=bD _ au;exact JL.kw (bC _ _ ⟨ae,f104,rfl,rfl,aN,aO,aP⟩) rfl
def f124(fuel:Nat)(p0:List (Int×Int)):Option ((List (Int×Int))):=
 (f138 fuel p0 ((p0).length:Int)).bind fun K=>
 some K
theorem R6{K:Nat}{O:Nat}{U:Nat}{W:Array Value}{p0:List (Int×Int)}(hW:WL 27 (rP rI rI) E K O U W p0){fuel:Nat}{r:(List (Int×Int))}(Z:f124 fuel p0=some r):Au J 124 [.slice (some ⟨K,0,none⟩) U O,(.func (.func 125) #[] #[])] E [(K,.cells W 27 (0,0))] (fun w E' B'=>∃(aa:Array Value),w= .tuple #[]∧B'= [(K,.cells aa 27 (0,0))]∧WL 27 (rP rI rI) E' K O U aa (r)):=by
 refine Au.en func124 rfl rfl fun Q am cs H ab ae=>?_;unfold f124 at Z;refine JL.go 3 rfl ?_;refine JL.Y (v:=iV ((p0).length:Int)) rfl (fun ρ h=>Yl.N4 (hW).2 rfl underlying25 (h _ _ rfl)) ?_;obtain⟨an,ag,ah⟩:=bs Z;refine JL.go 1 rfl ?_;refine JS.Bv 0 (Sg hW ag) rfl rfl (Ay func138 rfl) ab rfl ?_;rintro _ ao _ ai ⟨f7,rfl,rfl,aj⟩ ak;refine JS.norm (S':= [[(K,.cells f7 27 (0,0))]]) rfl ak fun al=>?_;refine JL.done ?_;obtain rfl:=oi ah;refine JL.fin (v:= .tuple #[]) rfl rfl (Bm.list func124 rfl (vs:= []) trivial) ?_;exact ae _ _ _ _ ai rfl ⟨f7,rfl,(by first | rfl | simp | (simp [Value.cells])),aj⟩ al
def Ma(fuel:Nat)(p1:Int)(K:Int)(U:Unit):Option (AV (Unit) (Unit)):=
 Option.bind (
  if p1<K then(
   none
  ) else(
   some false
  )
 ) fun O=>
 if O=true then(
  (Av (K - 1)).bind fun W=>
  (Av (K - 1)).bind fun Z=>
  none
 ) else(
  some (.done ())
 )
def L6(fuel:Nat)(p1:Int)(p2:Int)(K:Int):Option (AV (Int) (Unit)):=
 if K<p2 then(
  Option.bind (iter (Ma fuel p1 K) fuel ()) fun U=>
  (Av (K+1)).bind fun O=>
  some (.more O)
 ) else(
  some (.done ())
 )
def Ja(fuel:Nat)(p1:Int)(p2:Int):Option (Unit):=
 (Av (p1+1)).bind fun K=>
 Option.bind (iter (L6 fuel p1 p2) fuel K) fun O=>
 some ()
theorem Mr{p1:Int}{p2:Int}{fuel:Nat}{r:Unit}(ai:Ja fuel p1 p2=some r):Au J 168 [.slice none 0 0,iV p1,iV p2,(.func (.func 125) #[] #[])] E [] (fun w E' B'=>w= .tuple #[]∧B'= []):=by
 refine Au.en func168 rfl rfl fun Q a5 cs H aA aB=>?_;unfold Ja at ai;obtain⟨aC,aD,aE⟩:=bs ai;refine JL.go 3 rfl ?_;refine JL.Y rfl (fun ρ h=>Yl.A0 (h _ _ rfl) (h _ _ rfl) aD) ?_;obtain⟨a6,aF,aG⟩:=bs aE;refine JL.go 2 rfl ?_;refine JL.join (fun L s=>∃(aj:LH),Jm E H aj [] [] L s) ?_ ?_
 ·rintro _ _ ⟨aj,rfl,rfl,aH,aI⟩;obtain rfl:=oi aG;refine JL.fin (v:= .tuple #[]) rfl rfl (Bm.list func168 rfl (vs:= []) trivial) ?_;exact aB _ _ _ _ aH rfl ⟨rfl,rfl⟩ aI
 ·intro aJ;refine JL.block ?_;refine JL.wk [(0,.slice none 0 0),(1,iV p1),(2,iV p2),(3,(.func (.func 125) #[] #[])),(8,iV aC)] rfl ?_;refine JL.Bi aF (fun L s K=>∃(O:LH),Jm E H O [] [(0,.slice none 0 0),(1,iV p1),(2,iV p2),(3,(.func (.func 125) #[] #[])),(8,iV K)] L s) ⟨E,rfl,rfl,(Le.refl _),aA⟩ ?_;rintro _ _ K ⟨O,rfl,rfl,ak,al⟩ aK ⟨a7,W⟩ aL;have Z:=W;unfold L6 at Z;refine JL.go 7 rfl ?_;refine JL.ifs (p:=K<p2) rfl (fun aa=>?_) (fun aa=>?_)
  ·have am:=Z;rw [if_pos aa] at am;obtain⟨a8,aM,aN⟩:=bs am;refine JL.go 8 rfl ?_;refine JL.join (fun L s=>∃(ab:LH),Jm O H ab [] [(0,.slice none 0 0),(1,iV p1),(2,iV p2),(3,(.func (.func 125) #[] #[])),(8,iV K)] L s) ?_ ?_
   ·rintro _ _ ⟨ab,rfl,rfl,aO,aP⟩;obtain⟨aQ,aR,aS⟩:=bs aN;refine JL.go 3 rfl ?_;refine JL.Y rfl (fun ρ h=>Yl.A0 (h _ _ rfl) (h _ _ rfl) aR) ?_;refine JL.go 2 rfl ?_;obtain rfl:=oi aS;exact JL.kw (aL _ _ aQ ⟨ab,rfl,rfl,(ak.trans aO),aP⟩ W) rfl
   ·intro aT;refine JL.block ?_;refine JL.wk [(0,.slice none 0 0),(1,iV p1),(2,iV p2),(3,(.func (.func 125) #[] #[])),(8,iV K),(9,iV K)] rfl ?_;refine JL.Bi aM (fun L s aU=>∃(U:LH),Jm O H U [] [(0,.slice none 0 0),(1,iV p1),(2,iV p2),(3,(.func (.func 125) #[] #[])),(8,iV K),(9,iV K)] L s) ⟨O,rfl,rfl,(Le.refl _),al⟩ ?_;rintro _ _ aU ⟨U,rfl,rfl,aV,aW⟩ aX ⟨a9,an⟩ ba;have ao:=an;unfold Ma at ao;refine JL.go 2 rfl ?_;refine JG.Di 17 mixed rfl (by decide+kernel) fun ht=>?_;refine JG.mv 0 ht rfl rfl ?_;refine JG.mv 1 ht rfl rfl ?_;refine JG.mv 2 ht rfl rfl ?_;refine JG.mv 3 ht rfl rfl ?_;obtain⟨ap,aq,ar⟩:=bs ao;refine Aw.join 0 #[true,true,true,true,true,true,true,true,true,true,true,true,true,true,true,true,true] (fun L s=>∃(ae:LH),Jm U H ae [] [(0,.slice none 0 0),(1,iV p1),(2,iV p2),(3,(.func (.func 125) #[] #[])),(8,iV K),(9,iV K),(34,.bool ap)] L s) ?_ ?_
    ·rintro _ _ ⟨ae,rfl,rfl,aY,aZ⟩;refine Aw.fin (by decide+kernel) ?_;refine JL.split (t:=ap) rfl (fun ag=>?_) (fun ag=>?_)
     ·have au:=ar;rw [if_pos ag] at au;refine JL.go 3 rfl ?_;refine JG.Di 16 mixed rfl (by decide+kernel) fun ht=>?_;refine JG.mv 0 ht rfl rfl ?_;refine JG.mv 1 ht rfl rfl ?_;refine JG.mv 2 ht rfl rfl ?_;refine JG.mv 3 ht rfl rfl ?_;obtain⟨bb,a0,a1⟩:=bs au;refine JG.V 4 ht rfl rfl (fun ρ h s' hs=>Yl.A4 (h _ _ rfl) (h _ _ rfl) a0) ?_;refine JG.mv 5 ht rfl rfl ?_;refine JG.mv 6 ht rfl rfl ?_;obtain⟨bc,a2,a3⟩:=bs a1;refine JG.V 7 ht rfl rfl (fun ρ h s' hs=>Yl.A4 (h _ _ rfl) (h _ _ rfl) a2) ?_;cases a3
     ·have av:=ar;rw [if_neg (by rw [ag];exact Bool.false_ne_true)] at av;refine JL.exit rfl ?_;obtain rfl:=oi av;obtain rfl:=aX _ an;exact JL.kw (aT _ _ ⟨ae,rfl,rfl,(aV.trans aY),aZ⟩) rfl
    ·intro a4;refine Aw.B5 (q:=p1<K) (i:=21) rfl (fun ah=>?_) (fun ah=>?_)
     ·have aw:=aq;rw [if_pos ah] at aw;refine JG.mv 4 ht rfl rfl ?_;refine JG.mv 5 ht rfl rfl ?_;refine JG.mv 6 ht rfl rfl ?_;cases aw
     ·have ay:=aq;rw [if_neg ah] at ay;refine JG.mv 4 ht rfl rfl ?_;refine JG.mv 5 ht rfl rfl ?_;refine JG.mv 6 ht rfl rfl ?_;refine JG.mv 7 ht rfl rfl ?_;refine JG.mv 8 ht rfl rfl ?_;refine JG.mv 9 ht rfl rfl ?_;refine JG.mv 10 ht rfl rfl ?_;refine JG.mv 11 ht rfl rfl ?_;refine JG.mv 12 ht rfl rfl ?_;refine JG.mv 13 ht rfl rfl ?_;refine JG.mv 14 ht rfl rfl ?_;refine JG.mv 15 ht rfl rfl ?_;refine JG.mv 16 ht rfl rfl ?_;obtain rfl:=oi ay;refine Aw.B6 ?_ (a4 _ _ ⟨U,rfl,rfl,(Le.refl _),aW⟩);exact⟨rfl,rfl,rfl,rfl,rfl,rfl,rfl,trivial⟩
  ·have az:=Z;rw [if_neg aa] at az;refine JL.exit rfl ?_;obtain rfl:=oi az;obtain rfl:=aK _ W;exact JL.kw (aJ _ _ ⟨O,rfl,rfl,ak,al⟩) rfl
def L2(fuel:Nat)(p1:Int)(K:Int×Int):Option (AV (Int×Int) (Int)):=
 if K.2≤p1 then(
  (Ja fuel K.1 K.2).bind fun U=>
  (Av (K.2+20)).bind fun O=>
  some (.more (K.2,O))
 ) else(
  some (.done K.1)
 )
def Mh(fuel:Nat)(p1:Int)(K:Int)(O:Int)(U:Unit):Option (AV (Unit) (Unit)):=
 if O≤p1 then(
  (Av (0+K)).bind fun W=>
  none
 ) else(
  some (.done ())
 )
def L5(fuel:Nat)(p1:Int)(K:Int):Option (AV (Int) (Unit)):=
 if K<p1 then(
  (Av (2*K)).bind fun O=>
  Option.bind (iter (Mh fuel p1 K O) fuel ()) fun Z=>
  (Av (0+K)).bind fun U=>
  Option.bind (
   if U<p1 then(
    none
   ) else(
    some ()
   )
  ) fun aa=>
  (Av (K*2)).bind fun W=>
  some (.more W)
 ) else(
  some (.done ())
 )
def Kn(fuel:Nat)(p1:Int):Option (Unit):=
 Option.bind (iter (L2 fuel p1) fuel (0,20)) fun K=>
 (Ja fuel K p1).bind fun O=>
 Option.bind (iter (L5 fuel p1) fuel 20) fun U=>
 some ()
theorem QU{p1:Int}{fuel:Nat}{r:Unit}(aq:Kn fuel p1=some r):Au J 138 [.slice none 0 0,iV p1,(.func (.func 125) #[] #[])] E [] (fun w E' B'=>w= .tuple #[]∧B'= []):=by
 refine Au.en func138 rfl rfl fun Q bE cs H aK aL=>?_;unfold Kn at aq;obtain⟨aM,aN,aO⟩:=bs aq;refine JL.go 11 rfl ?_;refine JL.join (fun L s=>∃(ar:LH),Jm E H ar [] [(0,.slice none 0 0),(1,iV p1),(2,(.func (.func 125) #[] #[])),(6,iV 20),(7,iV aM)] L s) ?_ ?_
 ·rintro _ _ ⟨ar,rfl,rfl,aP,aQ⟩;obtain⟨bF,aR,aS⟩:=bs aO;refine JL.go 6 rfl ?_;refine JS.cl (Mr aR) rfl rfl (Ay func168 rfl) aQ ?_;rintro _ Z _ aT ⟨rfl,rfl⟩ aU;obtain⟨bG,aV,aW⟩:=bs aS;refine JL.done ?_;refine JL.join (fun L s=>∃(au:LH),Jm Z H au [] [] L s) ?_ ?_
  ·rintro _ _ ⟨au,rfl,rfl,aX,aY⟩;obtain rfl:=oi aW;refine JL.fin (v:= .tuple #[]) rfl rfl (Bm.list func138 rfl (vs:= []) trivial) ?_;exact aL _ _ _ _ ((aP.trans aT).trans aX) rfl ⟨rfl,rfl⟩ aY
  ·intro aZ;refine JL.block ?_;refine JL.wk [(0,.slice none 0 0),(1,iV p1),(2,(.func (.func 125) #[] #[])),(6,iV 20)] rfl ?_;refine JL.Bi aV (fun L s K=>∃(O:LH),Jm Z H O [] [(0,.slice none 0 0),(1,iV p1),(2,(.func (.func 125) #[] #[])),(6,iV K)] L s) ⟨Z,rfl,rfl,(Le.refl _),aU⟩ ?_;rintro _ _ K ⟨O,rfl,rfl,av,aw⟩ a0 ⟨bH,aa⟩ a1;have ab:=aa;unfold L5 at ab;refine JL.go 7 rfl ?_;refine JL.ifs (p:=K<p1) rfl (fun ae=>?_) (fun ae=>?_)
   ·have ay:=ab;rw [if_pos ae] at ay;obtain⟨ag,a2,a3⟩:=bs ay;refine JL.go 5 rfl ?_;refine JL.Y rfl (fun ρ h=>Yl.mulC (h _ _ rfl) (h _ _ rfl) a2) ?_;obtain⟨bI,a4,a5⟩:=bs a3;refine JL.go 4 rfl ?_;refine JL.join (fun L s=>∃(W:LH),Jm O H W [] [(0,.slice none 0 0),(1,iV p1),(2,(.func (.func 125) #[] #[])),(6,iV K),(7,iV 0)] L s) ?_ ?_
    ·rintro _ _ ⟨W,rfl,rfl,a6,a7⟩;obtain⟨a8,a9,ba⟩:=bs a5;refine JL.go 5 rfl ?_;refine JL.Y rfl (fun ρ h=>Yl.A0 (h _ _ rfl) (h _ _ rfl) a9) ?_;obtain⟨bJ,az,bb⟩:=bs ba;refine JL.go 8 rfl ?_;refine JL.join (fun L s=>∃(ah:LH),Jm W H ah [] [(0,.slice none 0 0),(1,iV p1),(2,(.func (.func 125) #[] #[])),(6,iV K)] L s) ?_ ?_
     ·rintro _ _ ⟨ah,rfl,rfl,bc,bd⟩;obtain⟨bf,bg,bh⟩:=bs bb;refine JL.go 2 rfl ?_;refine JL.Y rfl (fun ρ h=>Yl.mulC (h _ _ rfl) (h _ _ rfl) bg) ?_;refine JL.go 3 rfl ?_;obtain rfl:=oi bh;exact JL.kw (a1 _ _ bf ⟨ah,rfl,rfl,((av.trans a6).trans bc),bd⟩ aa) rfl
     ·intro bi;refine JL.ifs (p:=a8<p1) rfl (fun ai=>?_) (fun ai=>?_)
      ·have aA:=az;rw [if_pos ai] at aA;refine JL.go 6 rfl ?_;cases aA
      ·have aB:=az;rw [if_neg ai] at aB;refine JL.skip ?_;obtain rfl:=oi aB;exact JL.kw (bi _ _ ⟨W,rfl,rfl,(Le.refl _),a7⟩) rfl
    ·intro bj;refine JL.block ?_;refine JL.wk [(0,.slice none 0 0),(1,iV p1),(2,(.func (.func 125) #[] #[])),(6,iV K),(7,iV 0),(8,iV ag)] rfl ?_;refine JL.Bi a4 (fun L s bk=>∃(aj:LH),Jm O H aj [] [(0,.slice none 0 0),(1,iV p1),(2,(.func (.func 125) #[] #[])),(6,iV K),(7,iV 0),(8,iV ag)] L s) ⟨O,rfl,rfl,(Le.refl _),aw⟩ ?_;rintro _ _ bk ⟨aj,rfl,rfl,bl,bm⟩ bn ⟨bK,aC⟩ bL;have ak:=aC;unfold Mh at ak;refine JL.go 7 rfl ?_;refine JL.ifs (p:=ag≤p1) rfl (fun al=>?_) (fun al=>?_)
     ·have aD:=ak;rw [if_pos al] at aD;obtain⟨bM,bo,bp⟩:=bs aD;refine JL.go 8 rfl ?_;refine JL.Y rfl (fun ρ h=>Yl.A0 (h _ _ rfl) (h _ _ rfl) bo) ?_;refine JL.go 2 rfl ?_;cases bp
     ·have aE:=ak;rw [if_neg al] at aE;refine JL.exit rfl ?_;obtain rfl:=oi aE;obtain rfl:=bn _ aC;exact JL.kw (bj _ _ ⟨aj,rfl,rfl,bl,bm⟩) rfl
   ·have aF:=ab;rw [if_neg ae] at aF;refine JL.exit rfl ?_;obtain rfl:=oi aF;obtain rfl:=a0 _ aa;exact JL.kw (aZ _ _ ⟨O,rfl,rfl,av,aw⟩) rfl
 ·intro bq;refine JL.block ?_;refine JL.wk [(0,.slice none 0 0),(1,iV p1),(2,(.func (.func 125) #[] #[])),(6,iV 20),(7,iV 0),(8,iV 20)] rfl ?_;refine JL.Bi aN (fun L s U=>∃(am:LH),Jm E H am [] [(0,.slice none 0 0),(1,iV p1),(2,(.func (.func 125) #[] #[])),(6,iV 20),(7,iV U.1),(8,iV U.2)] L s) ⟨E,rfl,rfl,(Le.refl _),aK⟩ ?_;rintro _ _ U ⟨am,rfl,rfl,aG,aH⟩ br ⟨bN,an⟩ bu;have ao:=an;unfold L2 at ao;refine JL.go 7 rfl ?_;refine JL.ifs (p:=U.2≤p1) rfl (fun ap=>?_) (fun ap=>?_)
  ·have aI:=ao;rw [if_pos ap] at aI;obtain⟨bO,bv,bw⟩:=bs aI;refine JL.go 8 rfl ?_;refine JS.cl (Mr bv) rfl rfl (Ay func168 rfl) aH ?_;rintro _ bx _ bz ⟨rfl,rfl⟩ bA;obtain⟨bB,bC,bD⟩:=bs bw;refine JL.go 9 rfl ?_;refine JL.Y rfl (fun ρ h=>Yl.A0 (h _ _ rfl) (h _ _ rfl) bC) ?_;refine JL.go 3 rfl ?_;obtain rfl:=oi bD;exact JL.kw (bu _ _ (U.2,bB) ⟨bx,rfl,rfl,(aG.trans bz),bA⟩ an) rfl
  ·have aJ:=ao;rw [if_neg ap] at aJ;refine JL.exit rfl ?_;obtain rfl:=oi aJ;obtain rfl:=br _ an;exact JL.kw (bq _ _ ⟨am,rfl,rfl,aG,aH⟩) rfl
def NJ(fuel:Nat):Option (Unit):=
 (Kn fuel ((0:Nat):Int)).bind fun K=>
 some ()
theorem Rb{fuel:Nat}{r:Unit}(K:NJ fuel=some r):Au J 124 [.slice none 0 0,(.func (.func 125) #[] #[])] E [] (fun w E' B'=>w= .tuple #[]∧B'= []):=by
 refine Au.en func124 rfl rfl fun Q ae cs H O U=>?_;unfold NJ at K;refine JL.go 3 rfl ?_;refine JL.Y rfl (fun ρ h=>Yl.len rfl underlying25 (h _ _ rfl)) ?_;obtain⟨ag,W,Z⟩:=bs K;refine JL.go 1 rfl ?_;refine JS.cl (QU W) rfl rfl (Ay func138 rfl) O ?_;rintro _ ah _ aa ⟨rfl,rfl⟩ ab;refine JL.done ?_;obtain rfl:=oi Z;refine JL.fin (v:= .tuple #[]) rfl rfl (Bm.list func124 rfl (vs:= []) trivial) ?_;exact U _ _ _ _ aa rfl ⟨rfl,rfl⟩ ab
theorem Q0{J:Judge Tryz.prog}{E:LH}{a:Option Addr}{c:Nat}{g:Seg}{p0:List (Int×Int)}(W:OL 27 (rP rI rI) E a c g p0){fuel:Nat}{r:List (Int×Int)}(K:f124 fuel p0=some r):
  Au J 124 [.slice a p0.length c,.func (.func 125) #[] #[]] E g (fun w E' B'=>w= .tuple #[]∧OL 27 (rP rI rI) E' a c B' r∧r.length=p0.length):=by
 rcases W.cases with⟨rfl,rfl,rfl,rfl⟩ | ⟨aa,f,rfl,rfl,hW⟩
 ·have Z:r= []:=by
   cases fuel with
   | zero=>exact absurd K (by simp [f124,f138,iter])
   | succ fuel=>
    cases fuel with
    | zero=>exact(Option.some.inj (K.symm.trans (by rfl:f124 1 []=some []))).trans rfl
    | succ fuel=>exact(Option.some.inj (K.symm.trans (by rfl:f124 (fuel+2) []=some []))).trans rfl
  subst Z;refine(Rb (fuel:=10) (r:=()) rfl).mono ?_;rintro w E' B' hle ⟨O,rfl⟩;exact⟨O,OL.nil,rfl⟩
 ·refine(R6 hW K).mono ?_;rintro w E' B' hle ⟨ab,O,rfl,U⟩;exact⟨O,U.1,U.2⟩
end Pal
namespace Pal
open Go Go.Conc Go.Proofs
open Go.Proofs.Tryz
def f94(fuel:Nat)(p0:List (Int×Int))(p1:List (Int×Int)):Option ((List (Int×Int))):=
 (Cv p0 p1).bind fun K=>
 (f123 fuel K).bind fun O=>
 (f124 fuel O).bind fun U=>
 some U
theorem SU{E:LH}{K:Option Addr}{c2:Nat}{O:Option Addr}{U:Nat}{p0:List (Int×Int)}{p1:List (Int×Int)}(aa:Aq (rP rI rI) E K c2 (p0))(am:Aq (rP rI rI) E O U (p1)){fuel:Nat}{r:(List (Int×Int))}(ag:f94 fuel p0 p1=some r):Au (Cd Tryz.prog) 94 [.slice K (p0).length c2,.slice O (p1).length U] E [] (fun w E' B'=>∃(ah:Option Addr) (ai:Nat),w= .slice ah (r).length ai∧B'= []∧Aq (rP rI rI) E' ah ai (r)):=by
 refine Au.en func94 rfl rfl fun Q aM cs H an ao=>?_;unfold f94 at ag;refine JL.go 8 rfl ?_;refine JL.Y rfl (fun ρ h=>Yl.len rfl underlying25 (h _ _ rfl)) ?_;refine JL.go 1 rfl ?_;refine JL.Y rfl (fun ρ h=>Yl.len rfl underlying25 (h _ _ rfl)) ?_;refine JL.Y (v:= .slice K (p0).length (p0).length) rfl (fun ρ h=>Yl.QX (Aq.spot aa) (And.left aa) underlying25 (Ah type27) (h _ _ rfl) (h _ _ rfl) (h _ _ rfl)) ?_;obtain⟨aj,ap,aq⟩:=bs ag;refine JL.go 1 rfl ?_;refine JS.Re (pp:=(rP rI rI)) ap rfl rfl rfl rfl rfl rfl rfl underlying25 underlying25 (Ah type27) (Ct type27) (AM type27) rfl (by decide) (by decide) aa am an fun aN ak al ar au av=>?_;obtain⟨aO,aw,ay⟩:=bs aq;refine JL.go 5 rfl ?_;refine JS.cl (R8 au aw) rfl rfl (Ay func123 rfl) av ?_;rintro _ aP _ az ⟨W,Z,aQ,rfl,rfl,aA⟩ aB;obtain⟨ab,aC,aD⟩:=bs ay;refine JL.go 5 rfl ?_;refine JS.Bv 2 (Q0 aA aC) rfl rfl (Ay func124 rfl) aB rfl ?_;rintro _ aR aE aF ⟨rfl,aG,ae⟩ aH;refine JS.norm (S':= [[],[],aE]) rfl aH fun aI=>?_;refine JL.B6 (L':= [(17,.tuple #[]),(0,.slice K (p0).length c2),(1,.slice O (p1).length U),(4,.slice none 0 0),(6,.slice K (p0).length c2),(7,.slice K (p0).length c2),(8,iV ((p0).length:Int)),(9,.slice K (p0).length c2),(10,iV ((p0).length:Int)),(11,.slice K (p0).length (p0).length),(12,.slice O (p1).length U),(13,.slice ak (aj).length al),(5,.slice W (ab).length Z),(14,.slice ak (aj).length al),(15,.slice W (ab).length Z),(16,.slice W (ab).length Z)]) ⟨rfl,rfl,rfl,rfl,rfl,rfl,rfl,rfl,rfl,rfl,rfl,rfl,by rw [ae];rfl,rfl,by rw [ae];rfl,by rw [ae];rfl,trivial⟩ ?_;refine JL.go 6 rfl ?_;refine JS.BC 2 aG aI rfl fun aS aJ aK aL=>?_;obtain rfl:=oi aD;refine JL.rt func94 rfl rfl ?_;exact ao _ _ _ _ (((ar.trans az).trans aF).trans aJ) rfl ⟨W,Z,rfl,rfl,aK⟩ aL
def f37(fuel:Nat)(p0:(List (List Int))×(List (List Int)))(p1:List (Int×Int))(p2:List (Int×Int)):Option (Bool×Int):=
 (f69 fuel p0 p1).bind fun O=>
 if O≠0 then(
  some (false,O)
 ) else(
  (f69 fuel p0 p2).bind fun U=>
  if U≠0 then(
   some (false,U)
  ) else(
   (f92 fuel p0).bind fun ab=>
   (ab).bind fun K=>
   (f93 fuel K p1).bind fun W=>
   (f93 fuel K p2).bind fun Z=>
   Option.bind (
    if((W.2).length:Int)=0 then(
     some true
    ) else(
     some (decide (((Z.2).length:Int)=0))
    )
   ) fun ae=>
   if ae=true then(
    some (false,0)
   ) else(
    (f94 fuel p1 p2).bind fun ag=>
    (f93 fuel K ag).bind fun aa=>
    Option.bind (
     if 0<((aa.2).length:Int) then(
      (Av (W.1+Z.1)).bind fun ah=>
      some (decide (aa.1≤ah))
     ) else(
      some false
     )
    ) fun ai=>
    some (ai,0)
   )
  )
 )
theorem Sy{E:LH}{am:Option Addr}{c2:Nat}{an:Option Addr}{ao:Nat}{az:Option Addr}{aA:Nat}{aB:Option Addr}{aC:Nat}{p0:(List (List Int))×(List (List Int))}{p1:List (Int×Int)}{p2:List (Int×Int)}(aD:Aq (rL rI) E am c2 (p0.1))(aE:Aq (rL rI) E an ao (p0.2))(aF:Aq (rP rI rI) E az aA (p1))(aG:Aq (rP rI rI) E aB aC (p2)){fuel:Nat}{r:Bool×Int}(aS:f37 fuel p0 p1 p2=some r):Au (Cd Tryz.prog) 37 [.agg #[.slice am (p0.1).length c2,.slice an (p0.2).length ao],.slice az (p1).length aA,.slice aB (p2).length aC] E [] (fun w E' B'=>w= .tuple #[.bool r.1,iV r.2]∧B'= []):=by
 refine Au.en func37 rfl rfl fun Q cr cs H bw ap=>?_;unfold f37 at aS;refine JL.go 2 rfl ?_;refine JS.box (v:= .agg #[.slice am (p0.1).length c2,.slice an (p0.2).length ao]) rfl rfl rfl bw rfl fun bx bz=>?_;refine JS.Bf 1 bz rfl fun bA K ai bB=>?_;replace ai:At bA bx 0 [.slice am (p0.1).length c2,.slice an (p0.2).length ao]:=ai;refine JL.go 6 rfl ?_;refine JL.Bw ai (Ao underlying24) (Ah type24) rfl rfl ?_;obtain⟨bC,bD,aT⟩:=bs aS;refine JL.go 1 rfl ?_;refine JS.cl (Hy (aD.mono K) (aE.mono K) (aF.mono K) bD) rfl rfl (Ay func69 rfl) bB ?_;rintro _ ct _ O ⟨rfl,rfl⟩ aU;refine JL.go 7 rfl ?_;refine JL.ifs (p:=bC≠0) rfl (fun aH=>?_) (fun aH=>?_)
 ·have aV:=aT;rw [if_pos aH] at aV;refine JL.go 6 rfl ?_;obtain rfl:=oi aV;refine JL.rt func37 rfl rfl ?_;exact ap _ _ _ _ (K.trans O) rfl ⟨rfl,rfl⟩ aU
 ·have aW:=aT;rw [if_neg aH] at aW;refine JL.go 4 rfl ?_;refine JL.Bw (ai.mono O) (Ao underlying24) (Ah type24) rfl rfl ?_;obtain⟨bE,bF,aX⟩:=bs aW;refine JL.go 1 rfl ?_;refine JS.cl (Hy (aD.mono (K.trans O)) (aE.mono (K.trans O)) (aG.mono (K.trans O)) bF) rfl rfl (Ay func69 rfl) aU ?_;rintro _ cu _ W ⟨rfl,rfl⟩ bG;refine JS.norm (S':= [[],[],[],[]]) rfl bG fun aY=>?_;refine JL.go 7 rfl ?_;refine JL.ifs (p:=bE≠0) rfl (fun aI=>?_) (fun aI=>?_)
  ·have aZ:=aX;rw [if_pos aI] at aZ;refine JL.go 6 rfl ?_;obtain rfl:=oi aZ;refine JL.rt func37 rfl rfl ?_;exact ap _ _ _ _ ((K.trans O).trans W) rfl ⟨rfl,rfl⟩ aY
  ·have a0:=aX;rw [if_neg aI] at a0;refine JL.go 3 rfl ?_;refine JL.Bw (ai.mono (O.trans W)) (Ao underlying24) (Ah type24) rfl rfl ?_;obtain⟨cv,bH,bI⟩:=bs a0;refine JS.cl (I0 (aD.mono ((K.trans O).trans W)) (aE.mono ((K.trans O).trans W)) bH) rfl rfl (Ay func92 rfl) aY ?_;rintro cw bJ _ ah ⟨_,rfl,rfl,bK⟩ bL;obtain⟨a1,bM,bN⟩:=bs bI;have a2:=bK;refine JL.go 6 rfl ?_;rw [bM] at a2;obtain⟨a3,a4,_,rfl,aj,⟨_,_,rfl,⟨bO,bP,rfl,aJ⟩,⟨_,bQ,rfl,⟨bR,bS,rfl,aK⟩,aL⟩⟩⟩:=a2;replace aj:At bJ a3 a4 (([.slice bO (a1.1).length bP,.slice bR (a1.2.1).length bS]:List Value)++bQ):=aj;obtain⟨ak,bT,bU⟩:=bs bN;refine JS.cl (Jb aj aJ aK aL (aF.mono (((K.trans O).trans W).trans ah)) bT) rfl rfl (Ay func93 rfl) bL ?_;rintro _ cy _ U ⟨a5,a6,rfl,rfl,cz⟩ bV;obtain⟨aq,bW,bX⟩:=bs bU;refine JL.go 2 rfl ?_;refine JS.cl (Jb (aj.mono U) (aJ.mono U) (aK.mono U) (Rp.mono _ U aL) (aG.mono ((((K.trans O).trans W).trans ah).trans U)) bW) rfl rfl (Ay func93 rfl) bV ?_;rintro _ cA _ ab ⟨a7,a8,rfl,rfl,cB⟩ bY;refine JS.norm (S':= [[],[],[],[],[],[],[]]) rfl bY fun bZ=>?_;refine JS.alloc rfl rfl rfl bZ (AM type97) fun a9 b0=>?_;refine JS.alloc rfl rfl rfl b0 (AM type97) fun aM b1=>?_;refine JS.st (v:= .agg #[iV ak.1,.slice a5 (ak.2).length a6]) (off:=0) 7 b1 (Ah type97) rfl rfl rfl rfl fun b2=>?_;refine JS.Bf 7 b2 rfl fun b3 ae ar b4=>?_;replace ar:At b3 a9 0 [iV ak.1,.slice a5 (ak.2).length a6]:=ar;refine JS.norm (S':= [[],[],[],[],[],[],[],[],[(aM,.cells #[iV 0,.slice none 0 0] 97 (0,0))]]) rfl b4 fun b5=>?_;refine JS.st (v:= .agg #[iV aq.1,.slice a7 (aq.2).length a8]) (off:=0) 8 b5 (Ah type97) rfl rfl rfl rfl fun b6=>?_;refine JS.Bf 8 b6 rfl fun au Z av ba=>?_;replace av:At au aM 0 [iV aq.1,.slice a7 (aq.2).length a8]:=av;refine JL.go 4 rfl ?_;refine JL.fd underlying97 (Ah type95) rfl rfl rfl ?_;refine JL.ld 1 (ar.mono Z) (Ao underlying95) rfl rfl rfl ?_;refine JL.Y rfl (fun ρ h=>Yl.len rfl underlying95 (h _ _ rfl)) ?_;obtain⟨bb,bc,bd⟩:=bs bX;refine JL.go 2 rfl ?_;refine JL.BA [] (fun L s=>∃(bf:LH),Jm au H bf [] [(1,.slice az (p1).length aA),(2,.slice aB (p2).length aC),(10,.pointer (some ⟨a3,a4,none⟩)),(11,.pointer (some ⟨a9,0,none⟩)),(12,.pointer (some ⟨aM,0,none⟩)),(43,.bool bb)] L s) ?_ ?_
   ·rintro _ _ ⟨bf,rfl,rfl,aa,bg⟩;refine JL.done ?_;refine JL.split (t:=bb) rfl (fun aN=>?_) (fun aN=>?_)
    ·have bh:=bd;rw [if_pos aN] at bh;refine JL.go 5 rfl ?_;obtain rfl:=oi bh;refine JL.rt func37 rfl rfl ?_;exact ap _ _ _ _ ((((((((K.trans O).trans W).trans ah).trans U).trans ab).trans ae).trans Z).trans aa) rfl ⟨rfl,rfl⟩ bg
    ·have bi:=bd;rw [if_neg (by rw [aN];exact Bool.false_ne_true)] at bi;obtain⟨cC,b7,b8⟩:=bs bi;refine JL.go 6 rfl ?_;refine JS.cl (SU (aF.mono ((((((((K.trans O).trans W).trans ah).trans U).trans ab).trans ae).trans Z).trans aa)) (aG.mono ((((((((K.trans O).trans W).trans ah).trans U).trans ab).trans ae).trans Z).trans aa)) b7) rfl rfl (Ay func94 rfl) bg ?_;rintro _ cD _ ag ⟨cE,cF,rfl,rfl,b9⟩ ca;obtain⟨al,cb,cc⟩:=bs b8;refine JS.cl (Jb (aj.mono (((((U.trans ab).trans ae).trans Z).trans aa).trans ag)) (aJ.mono (((((U.trans ab).trans ae).trans Z).trans aa).trans ag)) (aK.mono (((((U.trans ab).trans ae).trans Z).trans aa).trans ag)) (Rp.mono _ (((((U.trans ab).trans ae).trans Z).trans aa).trans ag) aL) b9 cb) rfl rfl (Ay func93 rfl) ca ?_;rintro _ cG _ aO ⟨bj,bk,rfl,rfl,cH⟩ cd;refine JS.norm (S':= [[],[]]) rfl cd fun ce=>?_;refine JS.alloc rfl rfl rfl ce (AM type97) fun cf cg=>?_;refine JS.st (v:= .agg #[iV al.1,.slice bj (al.2).length bk]) (off:=0) 2 cg (Ah type97) rfl rfl rfl rfl fun ci=>?_;refine JS.Bf 2 ci rfl fun aw aP ay bl=>?_;replace ay:At aw cf 0 [iV al.1,.slice bj (al.2).length bk]:=ay;refine JL.go 3 rfl ?_;refine JL.fd underlying97 (Ah type95) rfl rfl rfl ?_;refine JL.ld 1 ay (Ao underlying95) rfl rfl rfl ?_;refine JL.Y rfl (fun ρ h=>Yl.len rfl underlying95 (h _ _ rfl)) ?_;obtain⟨ck,bm,cm⟩:=bs cc;refine JL.go 2 rfl ?_;refine JL.BA [14,15] (fun L s=>∃(bn:LH),Jm aw H bn [] [(62,.bool ck)] L s) ?_ ?_
     ·rintro _ _ ⟨bn,rfl,rfl,cn,co⟩;refine JL.go 3 rfl ?_;obtain rfl:=oi cm;refine JL.rt func37 rfl rfl ?_;exact ap _ _ _ _ ((((((((((((K.trans O).trans W).trans ah).trans U).trans ab).trans ae).trans Z).trans aa).trans ag).trans aO).trans aP).trans cn) rfl ⟨rfl,rfl⟩ co
     ·intro bo;refine JL.B5 (q:=0<((al.2).length:Int)) (i:=53) rfl (fun aQ=>?_) (fun aQ=>?_)
      ·have bp:=bm;rw [if_pos aQ] at bp;refine JL.fd underlying97 (Ah type3) rfl rfl rfl ?_;refine JL.ld 0 ay (Ao underlying3) rfl rfl rfl ?_;refine JL.fd underlying97 (Ah type3) rfl rfl rfl ?_;refine JL.ld 0 (ar.mono ((((Z.trans aa).trans ag).trans aO).trans aP)) (Ao underlying3) rfl rfl rfl ?_;refine JL.fd underlying97 (Ah type3) rfl rfl rfl ?_;refine JL.ld 0 (av.mono (((aa.trans ag).trans aO).trans aP)) (Ao underlying3) rfl rfl rfl ?_;obtain⟨cI,cp,cq⟩:=bs bp;refine JL.Y rfl (fun ρ h=>Yl.A0 (h _ _ rfl) (h _ _ rfl) cp) ?_;refine JL.go 2 rfl ?_;obtain rfl:=oi cq;exact JL.kw (bo _ _ ⟨aw,rfl,rfl,(Le.refl _),bl⟩) rfl
      ·have bq:=bm;rw [if_neg aQ] at bq;refine JL.go 9 rfl ?_;obtain rfl:=oi bq;exact JL.kw (bo _ _ ⟨aw,rfl,rfl,(Le.refl _),bl⟩) rfl
   ·intro br;refine JL.B5 (q:=((ak.2).length:Int)=0) (i:=38) rfl (fun aR=>?_) (fun aR=>?_)
    ·have bu:=bc;rw [if_pos aR] at bu;refine JL.go 5 rfl ?_;obtain rfl:=oi bu;exact JL.kw (br _ _ ⟨au,rfl,rfl,(Le.refl _),ba⟩) rfl
    ·have bv:=bc;rw [if_neg aR] at bv;refine JL.fd underlying97 (Ah type95) rfl rfl rfl ?_;refine JL.ld 1 av (Ao underlying95) rfl rfl rfl ?_;refine JL.Y rfl (fun ρ h=>Yl.len rfl underlying95 (h _ _ rfl)) ?_;refine JL.go 2 rfl ?_;obtain rfl:=oi bv;exact JL.kw (br _ _ ⟨au,rfl,rfl,(Le.refl _),ba⟩) rfl
end Pal
namespace Pal
open Go Go.Conc Go.Proofs
open Go.Proofs.Tryz
def I4:List Nat:= [0,1,1,2,1,2,2,3,1,2,2,3,2,3,3,4,1,2,2,3,2,3,3,4,2,3,3,4,3,4,4,5,1,2,2,3,2,3,3,4,2,3,3,4,3,4,4,5,2,3,3,4,3,4,4,5,3,4,4,5,4,5,5,6,1,2,2,3,2,3,3,4,2,3,3,4,3,4,4,5,2,3,3,4,3,4,4,5,3,4,4,5,4,5,5,6,2,3,3,4,3,4,4,5,3,4,4,5,4,5,5,6,3,4,4,5,4,5,5,6,4,5,5,6,5,6,6,7,1,2,2,3,2,3,3,4,2,3,3,4,3,4,4,5,2,3,3,4,3,4,4,5,3,4,4,5,4,5,5,6,2,3,3,4,3,4,4,5,3,4,4,5,4,5,5,6,3,4,4,5,4,5,5,6,4,5,5,6,5,6,6,7,2,3,3,4,3,4,4,5,3,4,4,5,4,5,5,6,3,4,4,5,4,5,5,6,4,5,5,6,5,6,6,7,3,4,4,5,4,5,5,6,4,5,5,6,5,6,6,7,4,5,5,6,5,6,6,7,5,6,6,7,6,7,7,8]
def f86(fuel:Nat)(p0:Nat):Option (Int):=
 (HM I4 ((((p0>>>8):Nat):Int))).bind fun K=>
 (G3 (p0) (255)).bind fun O=>
 (HM I4 ((((O):Nat):Int))).bind fun U=>
 (Av ((((K+U) % 256):Nat):Int)).bind fun W=>
 some W
theorem SY{E:LH}{p0:Nat}{fuel:Nat}{r:Int}(K:f86 fuel p0=some r):Au (Cd Tryz.prog) 86 [.int .u16 ((p0:Nat):Int)] E [] (fun w E' B'=>w=iV r∧B'= []):=by
 refine Au.en func86 rfl rfl fun Q an cs H W Z=>?_;unfold f86 at K;refine JL.go 5 rfl ?_;refine JG.Di 6 mixed rfl (by decide+kernel) fun ht=>?_;refine JG.mv 0 ht rfl rfl ?_;refine JG.V (v:= .int .u16 ((p0>>>8:Nat):Int)) 1 ht rfl rfl (fun ρ h s' hs=>Yl.Ta 8 (h _ _ rfl) (h _ _ rfl) (by decide)) ?_;obtain⟨O,aa,ab⟩:=bs K;refine JG.V (v:= .int .u8 ((O:Nat):Int)) 2 ht rfl rfl (fun ρ h s' hs=>Yl.Kg (l:=I4) (by decide+kernel) underlying9 (h _ _ rfl) (h _ _ rfl) aa) ?_;refine JG.mv 3 ht rfl rfl ?_;obtain⟨ae,ag,ah⟩:=bs ab;refine JG.V (v:= .int .u16 ((ae:Nat):Int)) 4 ht rfl rfl (fun ρ h s' hs=>Yl.Ke (h _ _ rfl) (h _ _ rfl) ag) ?_;obtain⟨U,ai,aj⟩:=bs ah;refine JG.V (v:= .int .u8 ((U:Nat):Int)) 5 ht rfl rfl (fun ρ h s' hs=>Yl.Kg (l:=I4) (by decide+kernel) underlying9 (h _ _ rfl) (h _ _ rfl) ai) ?_;refine Aw.leaf (tail:= [6,7,8]) (by decide+kernel) (fun t=>A3 (by decide+kernel) (A3 (by decide+kernel) (A3 (by decide+kernel) BL)) t) ?_;refine JL.Y (v:= .int .u8 (((O+U) % 256:Nat):Int)) rfl (fun ρ h=>Yl.SG (h _ _ rfl) (h _ _ rfl)) ?_;obtain⟨ak,al,am⟩:=bs aj;refine JL.Y (v:=iV ak) rfl (fun ρ h=>Yl.N5 underlying5 underlying3 (h _ _ rfl) al) ?_;refine JL.go 2 rfl ?_;obtain rfl:=oi am;refine JL.rt func86 rfl rfl ?_;exact Z _ _ _ _ (Le.refl _) rfl ⟨rfl,rfl⟩ W
end Pal
namespace Pal
open Go Go.Conc Go.Proofs
open Go.Proofs.Tryz
def f85(fuel:Nat)(p0:Nat):Option (Int):=
 (f86 fuel p0).bind fun K=>
 some K
theorem NH{E:LH}{p0:Nat}{fuel:Nat}{r:Int}(K:f85 fuel p0=some r):Au (Cd Tryz.prog) 85 [.int .u16 ((p0:Nat):Int)] E [] (fun w E' B'=>w=iV r∧B'= []):=by
 refine Au.en func85 rfl rfl fun Q ae cs H O U=>?_;unfold f85 at K;obtain⟨ag,W,Z⟩:=bs K;refine JL.go 7 rfl ?_;refine JS.cl (SY W) rfl rfl (Ay func86 rfl) O ?_;rintro _ ah _ aa ⟨rfl,rfl⟩ ab;refine JL.go 2 rfl ?_;obtain rfl:=oi Z;refine JL.rt func85 rfl rfl ?_;exact U _ _ _ _ aa rfl ⟨rfl,rfl⟩ ab
end Pal
namespace Pal
open Go Go.Conc Go.Proofs
open Go.Proofs.Tryz
def Nw(fuel:Nat)(W:Int×(List Int)×Nat)(U:(List Int))(K:(List Nat)×Int):Option (AV ((List Nat)×Int) ((List Nat))):=
 if K.2<((U).length:Int) then(
  (ix U (K.2)).bind fun O=>
  (ix K.1 (O)).bind fun Z=>
  (f90 fuel Z W.1).bind fun aa=>
  (ix K.1 (O)).bind fun ae=>
  (Av (K.2+1)).bind fun ab=>
  some (.more ((K.1.set (Int.toNat O) aa),ab))
 ) else(
  some (.done K.1)
 )
def Nf(fuel:Nat)(O:(Option ((List (List Int))×(List (List Int))×(List Nat)))×(Int×(List (Int×(List Int)×Nat)))×Int)(W:(List (List Int))×(List (List Int))×(List Nat))(Z:Int×Int×Int)(K:(List Nat)×Int):Option (AV ((List Nat)×Int) ((List Nat))):=
 if K.2<((O.2.1.2).length:Int) then(
  (ix O.2.1.2 (K.2)).bind fun U=>
  (f88 fuel W U Z.2.2).bind fun aa=>
  (f89 fuel aa).bind fun ab=>
  Option.bind (iter (Nw fuel U ab) fuel (K.1,0)) fun ae=>
  (Av (K.2+1)).bind fun ag=>
  some (.more (ae,ag))
 ) else(
  some (.done K.1)
 )
def M3(fuel:Nat)(O:(List Nat))(K:Int×Int):Option (AV (Int×Int) (Int)):=
 if K.2<8 then(
  (ix O (K.2)).bind fun U=>
  (f85 fuel U).bind fun W=>
  (Av (K.2+1)).bind fun Z=>
  some (.more (max (K.1) (W),Z))
 ) else(
  some (.done K.1)
 )
def Np(fuel:Nat)(W:(Option ((List (List Int))×(List (List Int))×(List Nat)))×(Int×(List (Int×(List Int)×Nat)))×Int)(Z:(List (List Int))×(List (List Int))×(List Nat))(K:Int×Int×Int):Option (AV (Int×Int×Int) (Int×Int)):=
 if K.2.2<7 then(
  Option.bind (iter (Nf fuel W Z K) fuel ((List.replicate 8 (0:Nat)),0)) fun aa=>
  Option.bind (iter (M3 fuel aa) fuel (0,0)) fun O=>
  Option.bind (
   if O<K.2.1 then(
    some (K.2.2,O)
   ) else(
    some (K.1,K.2.1)
   )
  ) fun U=>
  (Av (K.2.2+1)).bind fun ab=>
  some (.more (U.1,U.2,ab))
 ) else(
  some (.done (K.1,K.2.1))
 )
def f35(fuel:Nat)(p0:(List (List Int))×(List (List Int)))(p1:List (Int×Int)):Option (Int×Int×Int):=
 (f78 fuel p0 p1 (-1) false).bind fun K=>
 if K.2.2≠0 then(
  some (0,0,K.2.2)
 ) else(
  (f87 fuel K.2.1.2).bind fun U=>
  (f85 fuel U).bind fun W=>
  (K.1).bind fun Z=>
  Option.bind (iter (Np fuel K Z) fuel ((-1),W,0)) fun O=>
  if O.1<0 then(
   some (0,0,11)
  ) else(
   some (O.1,O.2,0)
  )
 )
theorem S1{E:LH}{aH:Option Addr}{c2:Nat}{aI:Option Addr}{aJ:Nat}{br:Option Addr}{bu:Nat}{p0:(List (List Int))×(List (List Int))}{p1:List (Int×Int)}(cc:Aq (rL rI) E aH c2 (p0.1))(cd:Aq (rL rI) E aI aJ (p0.2))(ce:Aq (rP rI rI) E br bu (p1)){fuel:Nat}{r:Int×Int×Int}(bv:f35 fuel p0 p1=some r):Au (Cd Tryz.prog) 35 [.agg #[.slice aH (p0.1).length c2,.slice aI (p0.2).length aJ],.slice br (p1).length bu] E [] (fun w E' B'=>w= .tuple #[iV r.1,iV r.2.1,iV r.2.2]∧B'= []):=by
 refine Au.en func35 rfl rfl fun Q ep cs H cf aT=>?_;unfold f35 at bv;refine JL.go 2 rfl ?_;refine JS.box (v:= .agg #[.slice aH (p0.1).length c2,.slice aI (p0.2).length aJ]) rfl rfl rfl cf rfl fun cg ci=>?_;refine JS.Bf 1 ci rfl fun ck ao aU cm=>?_;replace aU:At ck cg 0 [.slice aH (p0.1).length c2,.slice aI (p0.2).length aJ]:=aU;refine JL.go 6 rfl ?_;refine JL.Bw aU (Ao underlying24) (Ah type24) rfl rfl ?_;obtain⟨O,cn,bw⟩:=bs bv;refine JL.go 1 rfl ?_;refine JS.cl (GX (cc.mono ao) (cd.mono ao) (ce.mono ao) cn) rfl rfl (Ay func78 rfl) cm ?_;rintro _ eq _ aV ⟨er,ag,ah,rfl,rfl,co,bx⟩ cp;refine JL.go 4 rfl ?_;refine JS.alloc rfl rfl rfl cp (AM type97) fun W cq=>?_;refine JS.norm (S':= [[],[],[],[(W,.cells #[iV 0,.slice none 0 0] 97 (0,0))]]) rfl cq fun cr=>?_;refine JL.go 1 rfl ?_;refine JS.st (v:= .agg #[iV O.2.1.1,.slice ag (O.2.1.2).length ah]) (off:=0) 3 cr (Ah type97) rfl rfl rfl rfl fun ct=>?_;refine JS.Bf 3 ct rfl fun cu ap aK bz=>?_;replace aK:At cu W 0 [iV O.2.1.1,.slice ag (O.2.1.2).length ah]:=aK;refine JL.go 8 rfl ?_;refine JL.ifs (p:=O.2.2≠0) rfl (fun aW=>?_) (fun aW=>?_)
 ·have bA:=bw;rw [if_pos aW] at bA;refine JL.go 7 rfl ?_;obtain rfl:=oi bA;refine JL.rt func35 rfl rfl ?_;exact aT _ _ _ _ ((ao.trans aV).trans ap) rfl ⟨rfl,rfl⟩ bz
 ·have bB:=bw;rw [if_neg aW] at bB;refine JL.go 8 rfl ?_;refine JL.fd underlying97 (Ah type95) rfl rfl rfl ?_;refine JL.ld 1 aK (Ao underlying95) rfl rfl rfl ?_;obtain⟨cv,cw,cy⟩:=bs bB;refine JS.cl (NQ (bx.mono ap) cw) rfl rfl (Ay func87 rfl) bz ?_;rintro _ et _ aA ⟨rfl,rfl⟩ cz;obtain⟨cA,cB,cC⟩:=bs cy;refine JS.Gj (vs:= [.int .u16 ((cv:Nat):Int)]) (NH cB) rfl rfl rfl rfl (Ay func85 rfl) rfl cz ?_;rintro _ aL _ aB ⟨rfl,rfl⟩ cD;refine JS.norm (S':= [[],[],[],[],[],[]]) rfl cD fun cE=>?_;obtain⟨bC,cF,cG⟩:=bs cC;have bD:=(co.mono ((ap.trans aA).trans aB));refine JL.go 11 rfl ?_;rw [cF] at bD;obtain⟨Z,aa,_,rfl,aX,⟨_,_,rfl,⟨cH,cI,rfl,cJ⟩,⟨_,cK,rfl,⟨cM,cN,rfl,cO⟩,cP⟩⟩⟩:=bD;replace aX:At aL Z aa (([.slice cH (bC.1).length cI,.slice cM (bC.2.1).length cN]:List Value)++cK):=aX;obtain⟨aY,cQ,bE⟩:=bs cG;refine JL.join (fun L s=>∃(bF:LH),Jm aL H bF [] [(4,iV aY.1),(10,iV aY.2)] L s) ?_ ?_
  ·rintro _ _ ⟨bF,rfl,rfl,bG,bH⟩;refine JL.go 6 rfl ?_;refine JL.ifs (p:=aY.1<0) rfl (fun aZ=>?_) (fun aZ=>?_)
   ·have bI:=bE;rw [if_pos aZ] at bI;refine JL.go 6 rfl ?_;obtain rfl:=oi bI;refine JL.rt func35 rfl rfl ?_;exact aT _ _ _ _ (((((ao.trans aV).trans ap).trans aA).trans aB).trans bG) rfl ⟨rfl,rfl⟩ bH
   ·have bJ:=bE;rw [if_neg aZ] at bJ;refine JL.go 9 rfl ?_;obtain rfl:=oi bJ;refine JL.rt func35 rfl rfl ?_;exact aT _ _ _ _ (((((ao.trans aV).trans ap).trans aA).trans aB).trans bG) rfl ⟨rfl,rfl⟩ bH
  ·intro cR;refine JL.block ?_;refine JL.wk [(4,iV (-1)),(7,.pointer (some ⟨Z,aa,none⟩)),(8,.pointer (some ⟨W,0,none⟩)),(9,(.func (.func 85) #[] #[])),(10,iV cA),(35,iV 0)] rfl ?_;refine JL.Bi cQ (fun L s K=>∃(ai:LH),Jm aL H ai [] [(4,iV K.1),(7,.pointer (some ⟨Z,aa,none⟩)),(8,.pointer (some ⟨W,0,none⟩)),(9,(.func (.func 85) #[] #[])),(10,iV K.2.1),(35,iV K.2.2)] L s) ⟨aL,rfl,rfl,(Le.refl _),cE⟩ ?_;rintro _ _ K ⟨ai,rfl,rfl,ae,bK⟩ cT ⟨eu,a0⟩ cV;have a1:=a0;unfold Np at a1;refine JL.go 5 rfl ?_;refine JL.ifs (p:=K.2.2<7) rfl (fun a2=>?_) (fun a2=>?_)
   ·have bL:=a1;rw [if_pos a2] at bL;refine JL.go 10 rfl ?_;refine JS.alloc rfl rfl rfl bK (AM type114) fun U cW=>?_;refine JS.norm (S':= [[(U,.cells (([]:List Value)++(List.replicate 8 (.int .u16 ((0:Nat):Int)):List Value)).toArray 114 (0,0))]]) rfl cW fun cX=>?_;refine JL.go 4 rfl ?_;refine JL.fd underlying97 (Ah type95) rfl rfl rfl ?_;refine JL.ld 1 (aK.mono ((aA.trans aB).trans ae)) (Ao underlying95) rfl rfl rfl ?_;refine JL.Y rfl (fun ρ h=>Yl.len rfl underlying95 (h _ _ rfl)) ?_;obtain⟨cY,cZ,c0⟩:=bs bL;refine JL.go 2 rfl ?_;refine JL.join (fun L s=>∃(aq:LH) (ar:List Value),Jn ai H aq [[(U,.cells (([]:List Value)++ar).toArray 114 (0,0))]] [(4,iV K.1),(7,.pointer (some ⟨Z,aa,none⟩)),(8,.pointer (some ⟨W,0,none⟩)),(9,(.func (.func 85) #[] #[])),(10,iV K.2.1),(11,iV K.2.2),(12,.pointer (some ⟨U,0,none⟩)),(35,iV K.2.2)] L s ((rA 8 (rN .u16)).r aq ar (cY))) ?_ ?_
    ·rintro _ _ ⟨aq,ar,rfl,rfl,c1,bM,bN⟩;refine JL.go 7 rfl ?_;refine JL.Y (v:= .agg ar.toArray) rfl (fun ρ h=>Yl.Hs (kk:=8) (pp:=(rN .u16)) bN (Ao underlying114) (Ah type114) (h _ _ rfl) (Ig (l:= []) 0 bM rfl)) ?_;obtain⟨bO,c3,c4⟩:=bs c0;refine JL.go 2 rfl ?_;refine JL.join (fun L s=>∃(aC:LH),Jm aq H aC [] [(4,iV K.1),(7,.pointer (some ⟨Z,aa,none⟩)),(8,.pointer (some ⟨W,0,none⟩)),(9,(.func (.func 85) #[] #[])),(10,iV K.2.1),(11,iV K.2.2),(17,iV bO),(35,iV K.2.2)] L s) ?_ ?_
     ·rintro _ _ ⟨aC,rfl,rfl,c5,bP⟩;obtain⟨aM,bQ,c6⟩:=bs c4;refine JL.go 6 rfl ?_;refine JL.join (fun L s=>∃(a3:LH),Jm aC H a3 [] [(4,iV aM.1),(7,.pointer (some ⟨Z,aa,none⟩)),(8,.pointer (some ⟨W,0,none⟩)),(9,(.func (.func 85) #[] #[])),(10,iV aM.2),(35,iV K.2.2)] L s) ?_ ?_
      ·rintro _ _ ⟨a3,rfl,rfl,c7,c8⟩;obtain⟨c9,da,db⟩:=bs c6;refine JL.go 2 rfl ?_;refine JL.Y rfl (fun ρ h=>Yl.A0 (h _ _ rfl) (h _ _ rfl) da) ?_;refine JL.go 2 rfl ?_;obtain rfl:=oi db;exact JL.kw (cV _ _ (aM.1,aM.2,c9) ⟨a3,rfl,rfl,(((ae.trans c1).trans c5).trans c7),c8⟩ a0) rfl
      ·intro bR;refine JL.ifs (p:=bO<K.2.1) rfl (fun a4=>?_) (fun a4=>?_)
       ·have bS:=bQ;rw [if_pos a4] at bS;refine JL.go 6 rfl ?_;obtain rfl:=oi bS;exact JL.kw (bR _ _ ⟨aC,rfl,rfl,(Le.refl _),bP⟩) rfl
       ·have bT:=bQ;rw [if_neg a4] at bT;refine JL.skip ?_;obtain rfl:=oi bT;exact JL.kw (bR _ _ ⟨aC,rfl,rfl,(Le.refl _),bP⟩) rfl
     ·intro dc;refine JL.block ?_;refine JS.drop 0 bM rfl fun dd=>?_;refine JL.wk [(4,iV K.1),(7,.pointer (some ⟨Z,aa,none⟩)),(8,.pointer (some ⟨W,0,none⟩)),(9,(.func (.func 85) #[] #[])),(10,iV K.2.1),(11,iV K.2.2),(17,iV 0),(35,iV K.2.2),(65,.agg ar.toArray),(66,iV 0)] rfl ?_;refine JL.Bi c3 (fun L s au=>∃(a5:LH),Jm aq H a5 [] [(4,iV K.1),(7,.pointer (some ⟨Z,aa,none⟩)),(8,.pointer (some ⟨W,0,none⟩)),(9,(.func (.func 85) #[] #[])),(10,iV K.2.1),(11,iV K.2.2),(17,iV au.1),(35,iV K.2.2),(65,.agg ar.toArray),(66,iV au.2)] L s) ⟨aq,rfl,rfl,(Le.refl _),dd⟩ ?_;rintro _ _ au ⟨a5,rfl,rfl,a6,bU⟩ de ⟨ew,a7⟩ df;have a8:=a7;unfold M3 at a8;refine JL.go 5 rfl ?_;refine JL.ifs (p:=au.2<8) rfl (fun a9=>?_) (fun a9=>?_)
      ·have bV:=a8;rw [if_pos a9] at bV;obtain⟨dg,dh,di⟩:=bs bV;refine JL.go 5 rfl ?_;refine JS.Tv (Rp.mono _ a6 bN) dh rfl rfl rfl rfl rfl underlying114 (Ah type102) (Ao underlying102) ?_ (fun _=>rfl);rintro _ rfl;obtain⟨bW,dj,dk⟩:=bs di;refine JL.go 6 rfl ?_;refine JS.Gj (vs:= [.int .u16 ((dg:Nat):Int)]) (NH dj) rfl rfl rfl rfl (Ay func85 rfl) rfl bU ?_;rintro _ dl _ dm ⟨rfl,rfl⟩ dn;refine JL.Y (v:=iV (max (au.1) (bW))) rfl (fun ρ h=>Yl.max2 (h _ _ rfl) (h _ _ rfl)) ?_;obtain⟨dp,dq,dr⟩:=bs dk;refine JL.go 4 rfl ?_;refine JL.Y rfl (fun ρ h=>Yl.A0 (h _ _ rfl) (h _ _ rfl) dq) ?_;refine JL.go 2 rfl ?_;obtain rfl:=oi dr;exact JL.kw (df _ _ (max (au.1) (bW),dp) ⟨dl,rfl,rfl,(a6.trans dm),dn⟩ a7) rfl
      ·have bX:=a8;rw [if_neg a9] at bX;refine JL.exit rfl ?_;obtain rfl:=oi bX;obtain rfl:=de _ a7;exact JL.kw (dc _ _ ⟨a5,rfl,rfl,a6,bU⟩) rfl
    ·intro dt;refine JL.block ?_;refine JL.wk [(4,iV K.1),(7,.pointer (some ⟨Z,aa,none⟩)),(8,.pointer (some ⟨W,0,none⟩)),(9,(.func (.func 85) #[] #[])),(10,iV K.2.1),(11,iV K.2.2),(12,.pointer (some ⟨U,0,none⟩)),(35,iV K.2.2),(39,.slice ag (O.2.1.2).length ah),(40,iV ((O.2.1.2).length:Int)),(41,iV 0)] rfl ?_;refine JL.Bi cZ (fun L s aj=>∃(aD:LH) (av:List Value),Jn ai H aD [[(U,.cells (([]:List Value)++av).toArray 114 (0,0))]] [(4,iV K.1),(7,.pointer (some ⟨Z,aa,none⟩)),(8,.pointer (some ⟨W,0,none⟩)),(9,(.func (.func 85) #[] #[])),(10,iV K.2.1),(11,iV K.2.2),(12,.pointer (some ⟨U,0,none⟩)),(35,iV K.2.2),(39,.slice ag (O.2.1.2).length ah),(40,iV ((O.2.1.2).length:Int)),(41,iV aj.2)] L s ((rA 8 (rN .u16)).r aD av (aj.1))) ⟨ai,(List.replicate 8 (.int .u16 ((0:Nat):Int)):List Value),rfl,rfl,(Le.refl _),cX,(GO (E:=ai) (pp:=(rN .u16)) rfl)⟩ ?_;rintro _ _ aj ⟨aD,av,rfl,rfl,ak,bY,bZ⟩ du ⟨ex,ba⟩ dv;have bb:=ba;unfold Nf at bb;refine JL.go 5 rfl ?_;refine JL.ifs (p:=aj.2<((O.2.1.2).length:Int)) rfl (fun bc=>?_) (fun bc=>?_)
     ·have b0:=bb;rw [if_pos bc] at b0;obtain⟨ab,dw,dx⟩:=bs b0;refine JL.go 5 rfl ?_;refine JS.BI (bx.mono ((((ap.trans aA).trans aB).trans ae).trans ak)) dw rfl rfl rfl rfl rfl underlying95 (Ah type104) ?_;rintro dy dz _ ⟨_,_,rfl,rfl,⟨_,_,rfl,⟨bd,bf,rfl,dA⟩,rfl⟩⟩ bg;replace bg:At aD dy dz [iV ab.1,.slice bd (ab.2.1).length bf,.int .u16 ((ab.2.2:Nat):Int)]:=bg;refine JL.Bw bg (Ao underlying104) (Ah type104) rfl rfl ?_;refine JS.alloc rfl rfl rfl bY (AM type104) fun bh dB=>?_;refine JS.st (v:= .agg #[iV ab.1,.slice bd (ab.2.1).length bf,.int .u16 ((ab.2.2:Nat):Int)]) (off:=0) 1 dB (Ah type104) rfl rfl rfl rfl fun dC=>?_;refine JS.Bf 1 dC rfl fun dD al aN dE=>?_;replace aN:At dD bh 0 [iV ab.1,.slice bd (ab.2.1).length bf,.int .u16 ((ab.2.2:Nat):Int)]:=aN;refine JS.norm (S':= [[(U,.cells (([]:List Value)++av).toArray 114 (0,0))],[]]) rfl dE fun dF=>?_;refine JL.go 4 rfl ?_;refine JL.Bw aN (Ao underlying104) (Ah type104) rfl rfl ?_;obtain⟨ey,dG,dH⟩:=bs dx;refine JL.go 1 rfl ?_;refine JS.cl (Td (aX.mono ((ae.trans ak).trans al)) (cJ.mono ((ae.trans ak).trans al)) (cO.mono ((ae.trans ak).trans al)) (Rp.mono _ ((ae.trans ak).trans al) cP) (dA.mono al) dG) rfl rfl (Ay func88 rfl) dF ?_;rintro _ ez _ bi ⟨rfl,rfl⟩ dI;obtain⟨aE,dJ,dK⟩:=bs dH;refine JS.cl (FZ dJ) rfl rfl (Ay func89 rfl) dI ?_;rintro _ bj _ bk ⟨b1,b2,rfl,rfl,dL⟩ dM;refine JL.Y rfl (fun ρ h=>Yl.len rfl underlying28 (h _ _ rfl)) ?_;obtain⟨b3,dN,dO⟩:=bs dK;refine JL.go 2 rfl ?_;refine JL.join (fun L s=>∃(aO:LH) (aP:List Value),Jn bj H aO [[(U,.cells (([]:List Value)++aP).toArray 114 (0,0))]] [(4,iV K.1),(7,.pointer (some ⟨Z,aa,none⟩)),(8,.pointer (some ⟨W,0,none⟩)),(9,(.func (.func 85) #[] #[])),(10,iV K.2.1),(11,iV K.2.2),(12,.pointer (some ⟨U,0,none⟩)),(35,iV K.2.2),(39,.slice ag (O.2.1.2).length ah),(40,iV ((O.2.1.2).length:Int)),(41,iV aj.2)] L s ((rA 8 (rN .u16)).r aO aP (b3))) ?_ ?_
      ·rintro _ _ ⟨aO,aP,rfl,rfl,dP,dQ,dR⟩;obtain⟨dS,dT,dU⟩:=bs dO;refine JL.go 2 rfl ?_;refine JL.Y rfl (fun ρ h=>Yl.A0 (h _ _ rfl) (h _ _ rfl) dT) ?_;refine JL.go 2 rfl ?_;obtain rfl:=oi dU;exact JL.kw (dv _ _ (b3,dS) ⟨aO,aP,rfl,rfl,((((ak.trans al).trans bi).trans bk).trans dP),dQ,dR⟩ ba) rfl
      ·intro dV;refine JL.block ?_;refine JL.wk [(4,iV K.1),(7,.pointer (some ⟨Z,aa,none⟩)),(8,.pointer (some ⟨W,0,none⟩)),(9,(.func (.func 85) #[] #[])),(10,iV K.2.1),(11,iV K.2.2),(12,.pointer (some ⟨U,0,none⟩)),(14,.pointer (some ⟨bh,0,none⟩)),(35,iV K.2.2),(39,.slice ag (O.2.1.2).length ah),(40,iV ((O.2.1.2).length:Int)),(41,iV aj.2),(49,.slice b1 (aE).length b2),(50,iV ((aE).length:Int)),(51,iV 0)] rfl ?_;refine JL.Bi dN (fun L s aw=>∃(aF:LH) (ay:List Value),Jn bj H aF [[(U,.cells (([]:List Value)++ay).toArray 114 (0,0))]] [(4,iV K.1),(7,.pointer (some ⟨Z,aa,none⟩)),(8,.pointer (some ⟨W,0,none⟩)),(9,(.func (.func 85) #[] #[])),(10,iV K.2.1),(11,iV K.2.2),(12,.pointer (some ⟨U,0,none⟩)),(14,.pointer (some ⟨bh,0,none⟩)),(35,iV K.2.2),(39,.slice ag (O.2.1.2).length ah),(40,iV ((O.2.1.2).length:Int)),(41,iV aj.2),(49,.slice b1 (aE).length b2),(50,iV ((aE).length:Int)),(51,iV aw.2)] L s ((rA 8 (rN .u16)).r aF ay (aw.1))) ⟨bj,av,rfl,rfl,(Le.refl _),dM,(Rp.mono _ ((al.trans bi).trans bk) bZ)⟩ ?_;rintro _ _ aw ⟨aF,ay,rfl,rfl,aQ,aG,az⟩ dW ⟨eA,bl⟩ dX;have bm:=bl;unfold Nw at bm;refine JL.go 5 rfl ?_;refine JL.ifs (p:=aw.2<((aE).length:Int)) rfl (fun bn=>?_) (fun bn=>?_)
       ·have b4:=bm;rw [if_pos bn] at b4;obtain⟨am,dY,dZ⟩:=bs b4;refine JL.go 5 rfl ?_;refine JS.BI (dL.mono aQ) dY rfl rfl rfl rfl rfl underlying28 (Ah type3) ?_;rintro ea eb _ rfl bo;replace bo:At aF ea eb [iV am]:=bo;refine JL.ld 0 bo (Ao underlying3) rfl rfl rfl ?_;refine JL.go 2 rfl ?_;refine JG.B8 7 [U] ⟨⟨0,_,rfl⟩,trivial⟩ aG mixed rfl (by decide+kernel) fun ht=>?_;refine JG.mv 0 ht rfl rfl ?_;refine JG.mv 1 ht rfl rfl ?_;obtain⟨b5,b6,ec⟩:=bs dZ;obtain⟨_,rfl,_,_,ed⟩:=FL (kk:=8) (pp:=(rN .u16)) az b6;refine JG.V (v:= .pointer (some ⟨U,0+Int.toNat (am)*1,none⟩)) 2 ht rfl rfl (fun ρ h s' hs=>Yl.GV (kk:=8) (pp:=(rN .u16)) az b6 underlying114 (Ah type102) (h _ _ rfl) (h _ _ rfl)) ?_;refine JG.V (v:= .int .u16 ((b5:Nat):Int)) 3 ht rfl rfl (fun ρ h s' hs=>Yl.load (Ao underlying102) (h _ _ rfl) (Pk (l:= []) 0 aG rfl (by simp [AD]) hs (ed 0 _ rfl))) ?_;refine JG.fd 4 ht underlying104 (Ah type3) rfl rfl rfl rfl ?_;refine JG.V (v:=iV ab.1) 5 ht rfl rfl (fun ρ h s' hs=>Yl.load (Ao underlying3) (h _ _ rfl) (At.CF (j:=0) (aN.mono ((bi.trans bk).trans aQ)) (CE aG hs ⟨⟨0,_,rfl⟩,trivial⟩) rfl)) ?_;obtain⟨an,ee,ef⟩:=bs ec;refine JG.I9 (i:=6) ⟨⟨0,_,rfl⟩,trivial⟩ (vs:= [.int .u16 ((b5:Nat):Int),iV ab.1]) (Jc ee) (by decide+kernel) rfl rfl rfl (Ay func90 rfl) rfl aG ?_;rintro _ b7 _ aR ⟨rfl,rfl⟩ eg;refine Aw.leaf (tail:= [7,8]) (by decide+kernel) (fun t=>A3 (by decide+kernel) (A3 (by decide+kernel) BL) t) ?_;obtain⟨eB,bp,eh⟩:=bs ef;obtain⟨_,rfl,_,_,eC⟩:=FL (kk:=8) (pp:=(rN .u16)) (Rp.mono _ aR az) bp;refine JL.Y (v:= .pointer (some ⟨U,0+Int.toNat (am)*1,none⟩)) rfl (fun ρ h=>Yl.GV (kk:=8) (pp:=(rN .u16)) (Rp.mono _ aR az) bp underlying114 (Ah type102) (h _ _ rfl) (h _ _ rfl)) ?_;have aS:=J6 (us:= [.int .u16 ((an:Nat):Int)]) (y:=an) (Rp.mono _ aR az) bp rfl;refine JS.Ho (v:= .int .u16 ((an:Nat):Int)) (l:= []) (ws:=ay) (us:= [.int .u16 ((an:Nat):Int)]) (o:=Int.toNat (am)*1) 0 rfl rfl rfl eg rfl rfl rfl (Ah type102) (by simp [Value.cells,Bx]) rfl aS.2 fun b8=>?_;replace aS:=aS.1;generalize ei:EW ay (Int.toNat (am)*1) [.int .u16 ((an:Nat):Int)]=bq at b8 ⊢;have ej:(rA 8 (rN .u16)).r b7 bq (aw.1.set (Int.toNat am) an):=by rw [← ei];exact aS
        refine JS.norm (S':= [[(U,.cells (([]:List Value)++bq).toArray 114 (0,0))],[]]) rfl b8 fun ek=>?_;obtain⟨el,em,eo⟩:=bs eh;refine JL.go 3 rfl ?_;refine JL.Y rfl (fun ρ h=>Yl.A0 (h _ _ rfl) (h _ _ rfl) em) ?_;refine JL.go 2 rfl ?_;obtain rfl:=oi eo;exact JL.kw (dX _ _ ((aw.1.set (Int.toNat am) an),el) ⟨b7,bq,rfl,rfl,(aQ.trans aR),ek,ej⟩ bl) rfl
       ·have b9:=bm;rw [if_neg bn] at b9;refine JL.exit rfl ?_;obtain rfl:=oi b9;obtain rfl:=dW _ bl;exact JL.kw (dV _ _ ⟨aF,ay,rfl,rfl,aQ,aG,az⟩) rfl
     ·have ca:=bb;rw [if_neg bc] at ca;refine JL.exit rfl ?_;obtain rfl:=oi ca;obtain rfl:=du _ ba;exact JL.kw (dt _ _ ⟨aD,av,rfl,rfl,ak,bY,bZ⟩) rfl
   ·have cb:=a1;rw [if_neg a2] at cb;refine JL.exit rfl ?_;obtain rfl:=oi cb;obtain rfl:=cT _ a0;exact JL.kw (cR _ _ ⟨ai,rfl,rfl,ae,bK⟩) rfl
end Pal
namespace Pal
open Go Go.Conc Go.Proofs
open Go.Proofs.Tryz
def IB(fuel:Nat)(p2:Int)(O:(Option ((List (List Int))×(List (List Int))×(List Nat)))×(Int×(List (Int×(List Int)×Nat)))×Int)(K:Int×Int):Option (AV (Int×Int) (Int)):=
 if K.2<((O.2.1.2).length:Int) then(
  (ix O.2.1.2 (K.2)).bind fun U=>
  (f103 fuel U.2.2 p2).bind fun W=>
  Option.bind (
   if W=true then(
    (Av (K.1+1)).bind fun Z=>
    some Z
   ) else(
    some K.1
   )
  ) fun aa=>
  (Av (K.2+1)).bind fun ab=>
  some (.more (aa,ab))
 ) else(
  some (.done K.1)
 )
def f49(fuel:Nat)(p0:(List (List Int))×(List (List Int)))(p1:List (Int×Int))(p2:Int):Option (Int×Int):=
 (f69 fuel p0 p1).bind fun U=>
 if U≠0 then(
  some (0,U)
 ) else(
  (Av (((p1).length:Int) - 1)).bind fun W=>
  (f101 fuel p2 0 W).bind fun Z=>
  if Z=true then(
   some (0,3)
  ) else(
   (f78 fuel p0 p1 p2 false).bind fun K=>
   if K.2.2≠0 then(
    some (0,K.2.2)
   ) else(
    Option.bind (iter (IB fuel p2 K) fuel (0,0)) fun O=>
    Option.bind (
     Option.bind (
      Option.bind (
       if 0<O then(
        some (decide (O<((K.2.1.2).length:Int)))
       ) else(
        some false
       )
      ) fun aa=>
      if aa=true then(
       (Av (0+1)).bind fun ab=>
       (Av (ab+1)).bind fun ae=>
       some ae
      ) else(
       if O=0 then(
        (Av (0+1)).bind fun ag=>
        some ag
       ) else(
        some 0
       )
      )
     ) fun ah=>
     (Av (ah+1)).bind fun ai=>
     some ai
    ) fun aj=>
    some (aj,0)
   )
  )
 )
theorem NN{E:LH}{aj:Option Addr}{c2:Nat}{ak:Option Addr}{al:Nat}{aS:Option Addr}{aT:Nat}{p0:(List (List Int))×(List (List Int))}{p1:List (Int×Int)}{p2:Int}(aU:Aq (rL rI) E aj c2 (p0.1))(aV:Aq (rL rI) E ak al (p0.2))(aW:Aq (rP rI rI) E aS aT (p1)){fuel:Nat}{r:Int×Int}(aX:f49 fuel p0 p1 p2=some r):Au (Cd Tryz.prog) 49 [.agg #[.slice aj (p0.1).length c2,.slice ak (p0.2).length al],.slice aS (p1).length aT,iV p2] E [] (fun w E' B'=>w= .tuple #[iV r.1,iV r.2]∧B'= []):=by
 refine Au.en func49 rfl rfl fun Q cI cs H bA am=>?_;unfold f49 at aX;refine JL.go 2 rfl ?_;refine JS.box (v:= .agg #[.slice aj (p0.1).length c2,.slice ak (p0.2).length al]) rfl rfl rfl bA rfl fun bB bC=>?_;refine JS.Bf 1 bC rfl fun bD O an bE=>?_;replace an:At bD bB 0 [.slice aj (p0.1).length c2,.slice ak (p0.2).length al]:=an;refine JL.go 6 rfl ?_;refine JL.Bw an (Ao underlying24) (Ah type24) rfl rfl ?_;obtain⟨bF,bG,aY⟩:=bs aX;refine JL.go 1 rfl ?_;refine JS.cl (Hy (aU.mono O) (aV.mono O) (aW.mono O) bG) rfl rfl (Ay func69 rfl) bE ?_;rintro _ cJ _ W ⟨rfl,rfl⟩ aZ;refine JL.go 7 rfl ?_;refine JL.ifs (p:=bF≠0) rfl (fun au=>?_) (fun au=>?_)
 ·have a0:=aY;rw [if_pos au] at a0;refine JL.go 6 rfl ?_;obtain rfl:=oi a0;refine JL.rt func49 rfl rfl ?_;exact am _ _ _ _ (O.trans W) rfl ⟨rfl,rfl⟩ aZ
 ·have a1:=aY;rw [if_neg au] at a1;refine JL.go 6 rfl ?_;refine JL.Y rfl (fun ρ h=>Yl.len rfl underlying25 (h _ _ rfl)) ?_;obtain⟨cK,bH,bI⟩:=bs a1;refine JL.Y rfl (fun ρ h=>Yl.A4 (h _ _ rfl) (h _ _ rfl) bH) ?_;obtain⟨bJ,bK,a2⟩:=bs bI;refine JS.cl (Gf bK) rfl rfl (Ay func101 rfl) aZ ?_;rintro _ cM _ Z ⟨rfl,rfl⟩ bL;refine JS.norm (S':= [[],[],[],[]]) rfl bL fun a3=>?_;refine JL.done ?_;refine JL.split (t:=bJ) rfl (fun av=>?_) (fun av=>?_)
  ·have a4:=a2;rw [if_pos av] at a4;refine JL.go 5 rfl ?_;obtain rfl:=oi a4;refine JL.rt func49 rfl rfl ?_;exact am _ _ _ _ ((O.trans W).trans Z) rfl ⟨rfl,rfl⟩ a3
  ·have a5:=a2;rw [if_neg (by rw [av];exact Bool.false_ne_true)] at a5;refine JL.go 3 rfl ?_;refine JL.Bw (an.mono (W.trans Z)) (Ao underlying24) (Ah type24) rfl rfl ?_;obtain⟨K,bM,a6⟩:=bs a5;refine JL.go 2 rfl ?_;refine JS.cl (GX (aU.mono ((O.trans W).trans Z)) (aV.mono ((O.trans W).trans Z)) (aW.mono ((O.trans W).trans Z)) bM) rfl rfl (Ay func78 rfl) a3 ?_;rintro _ cN _ a7 ⟨cO,ab,ae,rfl,rfl,cP,bN⟩ bO;refine JL.go 4 rfl ?_;refine JS.alloc rfl rfl rfl bO (AM type97) fun ag bP=>?_;refine JL.go 1 rfl ?_;refine JS.st (v:= .agg #[iV K.2.1.1,.slice ab (K.2.1.2).length ae]) (off:=0) 5 bP (Ah type97) rfl rfl rfl rfl fun bQ=>?_;refine JS.Bf 5 bQ rfl fun ao aw ap bR=>?_;replace ap:At ao ag 0 [iV K.2.1.1,.slice ab (K.2.1.2).length ae]:=ap;refine JS.norm (S':= [[],[],[],[],[],[]]) rfl bR fun a8=>?_;refine JL.go 8 rfl ?_;refine JL.ifs (p:=K.2.2≠0) rfl (fun ay=>?_) (fun ay=>?_)
   ·have a9:=a6;rw [if_pos ay] at a9;refine JL.go 6 rfl ?_;obtain rfl:=oi a9;refine JL.rt func49 rfl rfl ?_;exact am _ _ _ _ ((((O.trans W).trans Z).trans a7).trans aw) rfl ⟨rfl,rfl⟩ a8
   ·have ba:=a6;rw [if_neg ay] at ba;refine JL.go 8 rfl ?_;refine JL.fd underlying97 (Ah type95) rfl rfl rfl ?_;refine JL.ld 1 ap (Ao underlying95) rfl rfl rfl ?_;refine JL.Y rfl (fun ρ h=>Yl.len rfl underlying95 (h _ _ rfl)) ?_;obtain⟨aq,bS,bT⟩:=bs ba;refine JL.go 2 rfl ?_;refine JL.join (fun L s=>∃(aa:LH),Jm ao H aa [] [(10,.pointer (some ⟨ag,0,none⟩)),(12,iV aq)] L s) ?_ ?_
    ·rintro _ _ ⟨aa,rfl,rfl,bb,bc⟩;obtain⟨bU,bV,bW⟩:=bs bT;refine JL.go 5 rfl ?_;refine JL.join (fun L s=>∃(bd:LH),Jm aa H bd [] [(15,iV bU)] L s) ?_ ?_
     ·rintro _ _ ⟨bd,rfl,rfl,bX,bY⟩;refine JL.go 6 rfl ?_;obtain rfl:=oi bW;refine JL.rt func49 rfl rfl ?_;exact am _ _ _ _ ((((((O.trans W).trans Z).trans a7).trans aw).trans bb).trans bX) rfl ⟨rfl,rfl⟩ bY
     ·intro bZ;obtain⟨b0,b1,b2⟩:=bs bV;refine JL.go 2 rfl ?_;refine JL.join (fun L s=>∃(az:LH),Jm aa H az [] [(15,iV b0)] L s) ?_ ?_
      ·rintro _ _ ⟨az,rfl,rfl,b3,b4⟩;obtain⟨cQ,b5,b6⟩:=bs b2;refine JL.go 3 rfl ?_;refine JL.Y rfl (fun ρ h=>Yl.A0 (h _ _ rfl) (h _ _ rfl) b5) ?_;refine JL.go 3 rfl ?_;obtain rfl:=oi b6;exact JL.kw (bZ _ _ ⟨az,rfl,rfl,b3,b4⟩) rfl
      ·intro aA;obtain⟨bf,bg,bh⟩:=bs b1;refine JL.go 12 rfl ?_;refine JL.BA [9] (fun L s=>∃(ah:LH),Jm aa H ah [] [(12,iV aq),(15,iV 0),(61,.bool bf)] L s) ?_ ?_
       ·rintro _ _ ⟨ah,rfl,rfl,aB,aC⟩;refine JL.go 2 rfl ?_;refine JL.split (t:=bf) rfl (fun aD=>?_) (fun aD=>?_)
        ·have bi:=bh;rw [if_pos aD] at bi;obtain⟨cR,b7,b8⟩:=bs bi;refine JL.go 3 rfl ?_;refine JL.Y rfl (fun ρ h=>Yl.A0 (h _ _ rfl) (h _ _ rfl) b7) ?_;obtain⟨cT,b9,ca⟩:=bs b8;refine JL.go 5 rfl ?_;refine JL.Y rfl (fun ρ h=>Yl.A0 (h _ _ rfl) (h _ _ rfl) b9) ?_;refine JL.go 3 rfl ?_;obtain rfl:=oi ca;exact JL.kw (aA _ _ ⟨ah,rfl,rfl,aB,aC⟩) rfl
        ·have aE:=bh;rw [if_neg (by rw [aD];exact Bool.false_ne_true)] at aE;refine JL.go 7 rfl ?_;refine JL.ifs (p:=aq=0) rfl (fun aF=>?_) (fun aF=>?_)
         ·have bj:=aE;rw [if_pos aF] at bj;obtain⟨cV,cb,cc⟩:=bs bj;refine JL.go 3 rfl ?_;refine JL.Y rfl (fun ρ h=>Yl.A0 (h _ _ rfl) (h _ _ rfl) cb) ?_;refine JL.go 3 rfl ?_;obtain rfl:=oi cc;exact JL.kw (aA _ _ ⟨ah,rfl,rfl,aB,aC⟩) rfl
         ·have bk:=aE;rw [if_neg aF] at bk;refine JL.go 2 rfl ?_;obtain rfl:=oi bk;exact JL.kw (aA _ _ ⟨ah,rfl,rfl,aB,aC⟩) rfl
       ·intro bl;refine JL.B5 (q:=0<aq) (i:=55) rfl (fun aG=>?_) (fun aG=>?_)
        ·have bm:=bg;rw [if_pos aG] at bm;refine JL.go 1 rfl ?_;refine JL.fd underlying97 (Ah type95) rfl rfl rfl ?_;refine JL.ld 1 (ap.mono bb) (Ao underlying95) rfl rfl rfl ?_;refine JL.Y rfl (fun ρ h=>Yl.len rfl underlying95 (h _ _ rfl)) ?_;refine JL.go 2 rfl ?_;obtain rfl:=oi bm;exact JL.kw (bl _ _ ⟨aa,rfl,rfl,(Le.refl _),bc⟩) rfl
        ·have bn:=bg;rw [if_neg aG] at bn;refine JL.go 6 rfl ?_;obtain rfl:=oi bn;exact JL.kw (bl _ _ ⟨aa,rfl,rfl,(Le.refl _),bc⟩) rfl
    ·intro cd;refine JL.block ?_;refine JL.wk [(2,iV p2),(10,.pointer (some ⟨ag,0,none⟩)),(12,iV 0),(39,.slice ab (K.2.1.2).length ae),(40,iV ((K.2.1.2).length:Int)),(41,iV 0)] rfl ?_;refine JL.Bi bS (fun L s ai=>∃(ar:LH),Jm ao H ar [] [(2,iV p2),(10,.pointer (some ⟨ag,0,none⟩)),(12,iV ai.1),(39,.slice ab (K.2.1.2).length ae),(40,iV ((K.2.1.2).length:Int)),(41,iV ai.2)] L s) ⟨ao,rfl,rfl,(Le.refl _),a8⟩ ?_;rintro _ _ ai ⟨ar,rfl,rfl,aH,bo⟩ ce ⟨cW,aI⟩ cf;have aJ:=aI;unfold IB at aJ;refine JL.go 5 rfl ?_;refine JL.ifs (p:=ai.2<((K.2.1.2).length:Int)) rfl (fun aK=>?_) (fun aK=>?_)
     ·have bp:=aJ;rw [if_pos aK] at bp;obtain⟨U,cg,ci⟩:=bs bp;refine JL.go 5 rfl ?_;refine JS.BI (bN.mono (aw.trans aH)) cg rfl rfl rfl rfl rfl underlying95 (Ah type104) ?_;rintro ck cm _ ⟨_,_,rfl,rfl,⟨_,_,rfl,⟨aL,aM,rfl,cX⟩,rfl⟩⟩ aN;replace aN:At ar ck cm [iV U.1,.slice aL (U.2.1).length aM,.int .u16 ((U.2.2:Nat):Int)]:=aN;refine JL.Bw aN (Ao underlying104) (Ah type104) rfl rfl ?_;refine JS.alloc rfl rfl rfl bo (AM type104) fun cn co=>?_;refine JS.st (v:= .agg #[iV U.1,.slice aL (U.2.1).length aM,.int .u16 ((U.2.2:Nat):Int)]) (off:=0) 0 co (Ah type104) rfl rfl rfl rfl fun cp=>?_;refine JS.Bf 0 cp rfl fun cq cr aO ct=>?_;replace aO:At cq cn 0 [iV U.1,.slice aL (U.2.1).length aM,.int .u16 ((U.2.2:Nat):Int)]:=aO;refine JL.go 3 rfl ?_;refine JL.fd underlying104 (Ah type102) rfl rfl rfl ?_;refine JL.ld 2 aO (Ao underlying102) rfl rfl rfl ?_;obtain⟨cu,cv,cw⟩:=bs ci;refine JL.go 1 rfl ?_;refine JS.cl (Kc cv) rfl rfl (Ay func103 rfl) ct ?_;rintro _ aP _ cy ⟨rfl,rfl⟩ cz;refine JS.norm (S':= [[],[]]) rfl cz fun bq=>?_;obtain⟨br,bu,cA⟩:=bs cw;refine JL.done ?_;refine JL.join (fun L s=>∃(aQ:LH),Jm aP H aQ [] [(2,iV p2),(10,.pointer (some ⟨ag,0,none⟩)),(12,iV br),(39,.slice ab (K.2.1.2).length ae),(40,iV ((K.2.1.2).length:Int)),(41,iV ai.2)] L s) ?_ ?_
      ·rintro _ _ ⟨aQ,rfl,rfl,cB,cC⟩;obtain⟨cD,cE,cF⟩:=bs cA;refine JL.go 2 rfl ?_;refine JL.Y rfl (fun ρ h=>Yl.A0 (h _ _ rfl) (h _ _ rfl) cE) ?_;refine JL.go 2 rfl ?_;obtain rfl:=oi cF;exact JL.kw (cf _ _ (br,cD) ⟨aQ,rfl,rfl,(((aH.trans cr).trans cy).trans cB),cC⟩ aI) rfl
      ·intro bv;refine JL.split (t:=cu) rfl (fun aR=>?_) (fun aR=>?_)
       ·have bw:=bu;rw [if_pos aR] at bw;obtain⟨cY,cG,cH⟩:=bs bw;refine JL.go 2 rfl ?_;refine JL.Y rfl (fun ρ h=>Yl.A0 (h _ _ rfl) (h _ _ rfl) cG) ?_;refine JL.go 2 rfl ?_;obtain rfl:=oi cH;exact JL.kw (bv _ _ ⟨aP,rfl,rfl,(Le.refl _),bq⟩) rfl
       ·have bx:=bu;rw [if_neg (by rw [aR];exact Bool.false_ne_true)] at bx;refine JL.skip ?_;obtain rfl:=oi bx;exact JL.kw (bv _ _ ⟨aP,rfl,rfl,(Le.refl _),bq⟩) rfl
     ·have bz:=aJ;rw [if_neg aK] at bz;refine JL.exit rfl ?_;obtain rfl:=oi bz;obtain rfl:=ce _ aI;exact JL.kw (cd _ _ ⟨ar,rfl,rfl,aH,bo⟩) rfl
end Pal
namespace Pal
open Go Go.Conc Go.Proofs
open Go.Proofs.Tryz
def f22(fuel:Nat):Option (Bool):=
 (f71 fuel).bind fun ag=>
 (f51 fuel ag 4).bind fun U=>
 (f71 fuel).bind fun ah=>
 (f57 fuel ah 5).bind fun W=>
 (f71 fuel).bind fun ai=>
 (f72 fuel).bind fun aj=>
 (f43 fuel ai aj 2).bind fun Z=>
 (f71 fuel).bind fun ak=>
 (f28 fuel ak ([])).bind fun aa=>
 (f71 fuel).bind fun al=>
 (f73 fuel).bind fun am=>
 (f49 fuel al am 1).bind fun ab=>
 (f71 fuel).bind fun an=>
 (f35 fuel an ([])).bind fun K=>
 (f71 fuel).bind fun ao=>
 (f72 fuel).bind fun ap=>
 (f72 fuel).bind fun aq=>
 (f37 fuel ao ap aq).bind fun ae=>
 (f71 fuel).bind fun ar=>
 (f73 fuel).bind fun au=>
 (f30 fuel ar au).bind fun O=>
 Option.bind (
  if U.2=0 then(
   some (decide (W.2=0))
  ) else(
   some false
  )
 ) fun av=>
 Option.bind (
  if av=true then(
   some (decide (Z.2=0))
  ) else(
   some false
  )
 ) fun aw=>
 Option.bind (
  if aw=true then(
   some (decide (aa.2=0))
  ) else(
   some false
  )
 ) fun ay=>
 Option.bind (
  if ay=true then(
   some (decide (ab.2=0))
  ) else(
   some false
  )
 ) fun az=>
 Option.bind (
  if az=true then(
   some (decide (K.2.2=0))
  ) else(
   some false
  )
 ) fun aA=>
 Option.bind (
  if aA=true then(
   some (decide (ae.2=0))
  ) else(
   some false
  )
 ) fun aB=>
 Option.bind (
  if aB=true then(
   some (decide (O.2.2=0))
  ) else(
   some false
  )
 ) fun aC=>
 Option.bind (
  if aC=true then(
   some (decide (W.1=3))
  ) else(
   some false
  )
 ) fun aD=>
 Option.bind (
  if aD=true then(
   some (decide (aa.1=15))
  ) else(
   some false
  )
 ) fun aE=>
 Option.bind (
  if aE=true then(
   some (decide (ab.1=1))
  ) else(
   some false
  )
 ) fun aF=>
 Option.bind (
  if aF=true then(
   some (decide (K.1=0))
  ) else(
   some false
  )
 ) fun aG=>
 Option.bind (
  if aG=true then(
   some (decide (K.2.1=9))
  ) else(
   some false
  )
 ) fun aH=>
 Option.bind (
  if aH=true then(
   some ae.1
  ) else(
   some false
  )
 ) fun aI=>
 Option.bind (
  if aI=true then(
   some (decide (O.1=3))
  ) else(
   some false
  )
 ) fun aJ=>
 Option.bind (
  if aJ=true then(
   (f32 fuel U.1 ([4,5]:List Int)).bind fun aK=>
   some aK
  ) else(
   some false
  )
 ) fun aL=>
 Option.bind (
  if aL=true then(
   (f32 fuel Z.1 ([2,3,4]:List Int)).bind fun aM=>
   some aM
  ) else(
   some false
  )
 ) fun aN=>
 Option.bind (
  if aN=true then(
   (f32 fuel O.2.1 ([3,4]:List Int)).bind fun aO=>
   some aO
  ) else(
   some false
  )
 ) fun aP=>
 some aP
theorem SV{E:LH}{fuel:Nat}{r:Bool}(bu:f22 fuel=some r):Au (Cd Tryz.prog) 22 [] E [] (fun w E' B'=>w= .bool r∧B'= []):=by
 refine Au.en func22 rfl rfl fun Q gi cs H dr dt=>?_;unfold f22 at bu;obtain⟨gj,du,dv⟩:=bs bu;refine JL.go 6 rfl ?_;refine JS.cl (FY du) rfl rfl (Ay func71 rfl) dr ?_;rintro _ gk _ dw ⟨gl,gm,gn,gp,rfl,rfl,dx,dy⟩ dz;obtain⟨ab,dA,dB⟩:=bs dv;refine JS.cl (Tb dx dy dA) rfl rfl (Ay func51 rfl) dz ?_;rintro _ gq _ dC ⟨ah,ai,rfl,rfl,dD⟩ dE;obtain⟨gr,dF,dG⟩:=bs dB;refine JL.go 8 rfl ?_;refine JS.cl (FY dF) rfl rfl (Ay func71 rfl) dE ?_;rintro _ gt _ bv ⟨gu,gv,gw,gx,rfl,rfl,dH,dI⟩ dJ;refine JS.norm (S':= [[],[],[],[]]) rfl dJ fun dK=>?_;obtain⟨al,dL,dM⟩:=bs dG;refine JS.cl (SJ dH dI dL) rfl rfl (Ay func57 rfl) dK ?_;rintro _ gy _ bw ⟨rfl,rfl⟩ dN;obtain⟨gz,dO,dP⟩:=bs dM;refine JL.go 8 rfl ?_;refine JS.cl (FY dO) rfl rfl (Ay func71 rfl) dN ?_;rintro _ gA _ bx ⟨gB,gC,gD,gE,rfl,rfl,dQ,dR⟩ dS;obtain⟨gF,dT,dU⟩:=bs dP;refine JS.cl (Kk dT) rfl rfl (Ay func72 rfl) dS ?_;rintro _ gG _ aG ⟨gH,gI,rfl,rfl,dV⟩ dW;refine JS.norm (S':= [[],[],[],[],[],[],[]]) rfl dW fun dX=>?_;obtain⟨W,dY,dZ⟩:=bs dU;refine JS.cl (NL (dQ.mono aG) (dR.mono aG) dV dY) rfl rfl (Ay func43 rfl) dX ?_;rintro _ gJ _ bz ⟨ae,ag,rfl,rfl,ea⟩ eb;obtain⟨gK,ec,ed⟩:=bs dZ;refine JL.go 8 rfl ?_;refine JS.cl (FY ec) rfl rfl (Ay func71 rfl) eb ?_;rintro _ gL _ aY ⟨gM,gN,gO,gP,rfl,rfl,ee,ef⟩ eg;obtain⟨ak,eh,ei⟩:=bs ed;refine JS.cl (SK ee ef Aq.nil eh) rfl rfl (Ay func28 rfl) eg ?_;rintro _ gQ _ aZ ⟨rfl,rfl⟩ ej;refine JS.norm (S':= [[],[],[],[],[],[],[],[],[],[]]) rfl ej fun ek=>?_;obtain⟨gR,el,em⟩:=bs ei;refine JL.go 8 rfl ?_;refine JS.cl (FY el) rfl rfl (Ay func71 rfl) ek ?_;rintro _ gS _ a0 ⟨gT,gU,gV,gW,rfl,rfl,eo,ep⟩ eq;obtain⟨gX,er,et⟩:=bs em;refine JS.cl (NF er) rfl rfl (Ay func73 rfl) eq ?_;rintro _ gY _ an ⟨gZ,g0,rfl,rfl,eu⟩ ew;obtain⟨aj,ex,ey⟩:=bs et;refine JS.cl (NN (eo.mono an) (ep.mono an) eu ex) rfl rfl (Ay func49 rfl) ew ?_;rintro _ g1 _ a1 ⟨rfl,rfl⟩ ez;refine JS.norm (S':= [[],[],[],[],[],[],[],[],[],[],[],[],[]]) rfl ez fun eA=>?_;obtain⟨g2,eB,eC⟩:=bs ey;refine JL.go 8 rfl ?_;refine JS.cl (FY eB) rfl rfl (Ay func71 rfl) eA ?_;rintro _ g3 _ a2 ⟨g4,g5,g6,g7,rfl,rfl,eD,eE⟩ eF;obtain⟨O,eG,eH⟩:=bs eC;refine JS.cl (S1 eD eE Aq.nil eG) rfl rfl (Ay func35 rfl) eF ?_;rintro _ g8 _ a3 ⟨rfl,rfl⟩ eI;obtain⟨g9,eJ,eK⟩:=bs eH;refine JL.go 10 rfl ?_;refine JS.cl (FY eJ) rfl rfl (Ay func71 rfl) eI ?_;rintro _ ha _ a4 ⟨hb,hc,hd,he,rfl,rfl,eL,eM⟩ eN;refine JS.norm (S':= [[],[],[],[],[],[],[],[],[],[],[],[],[],[],[],[]]) rfl eN fun eO=>?_;obtain⟨hf,eP,eQ⟩:=bs eK;refine JS.cl (Kk eP) rfl rfl (Ay func72 rfl) eO ?_;rintro _ hg _ ao ⟨hj,hk,rfl,rfl,eR⟩ eS;obtain⟨hl,eT,eU⟩:=bs eQ;refine JS.cl (Kk eT) rfl rfl (Ay func72 rfl) eS ?_;rintro _ hm _ am ⟨hn,ho,rfl,rfl,eV⟩ eW;obtain⟨U,eX,eY⟩:=bs eU;refine JS.cl (Sy (eL.mono (ao.trans am)) (eM.mono (ao.trans am)) (eR.mono am) eV eX) rfl rfl (Ay func37 rfl) eW ?_;rintro _ hp _ a5 ⟨rfl,rfl⟩ eZ;refine JS.norm (S':= [[],[],[],[],[],[],[],[],[],[],[],[],[],[],[],[],[],[],[]]) rfl eZ fun e0=>?_;obtain⟨hq,e1,e2⟩:=bs eY;refine JL.go 8 rfl ?_;refine JS.cl (FY e1) rfl rfl (Ay func71 rfl) e0 ?_;rintro _ hr _ a6 ⟨hu,hv,hw,hx,rfl,rfl,e3,e4⟩ e5;obtain⟨hy,e6,e7⟩:=bs e2;refine JS.cl (NF e6) rfl rfl (Ay func73 rfl) e5 ?_;rintro _ hz _ ap ⟨hA,hB,rfl,rfl,e8⟩ e9;obtain⟨K,fa,fb⟩:=bs e7;refine JS.cl (SA (e3.mono ap) (e4.mono ap) e8 fa) rfl rfl (Ay func30 rfl) e9 ?_;rintro _ a7 _ a8 ⟨Z,aa,rfl,rfl,fc⟩ fe;refine JS.norm (S':= [[],[],[],[],[],[],[],[],[],[],[],[],[],[],[],[],[],[],[],[],[],[]]) rfl fe fun bA=>?_;obtain⟨bB,bC,ff⟩:=bs fb;refine JL.go 13 rfl ?_;refine JL.BA [6,7,8,9,10,11,12,13,14,15,16,17,18,19,20,21,22,23,24,25,26,27,28,29,30,31,32,33,34,35,36,37,38,39,40,41,42,43,44,45,46,47,48,49,50,51,52,53,54,55,56,57,58,59,60,61,62,63,64,65,66,67,68,69,70,71,72] (fun L s=>∃(aq:LH),Jm a7 H aq [] [(1,.slice ah (ab.1).length ai),(3,iV al.1),(5,.slice ae (W.1).length ag),(6,iV W.2),(7,iV ak.1),(8,iV ak.2),(9,iV aj.1),(10,iV aj.2),(11,iV O.1),(12,iV O.2.1),(13,iV O.2.2),(14,.bool U.1),(15,iV U.2),(16,iV K.1),(17,.slice Z (K.2.1).length aa),(18,iV K.2.2),(71,.bool bB)] L s) ?_ ?_
 ·rintro _ _ ⟨aq,rfl,rfl,aH,bD⟩;obtain⟨bE,bF,fg⟩:=bs ff;refine JL.go 1 rfl ?_;refine JL.BA [10,11,12,13,14,15,16,17,18,19,20,21,22,23,24,25,26,27,28,29,30,31,32,33,34,35,36,37,38,39,40,41,42,43,44,45,46,47,48,49,50,51,52,53,54,55,56,57,58,59,60,61,62,63,64,65,66,67,68,69,70,71,72] (fun L s=>∃(ar:LH),Jm aq H ar [] [(1,.slice ah (ab.1).length ai),(3,iV al.1),(5,.slice ae (W.1).length ag),(7,iV ak.1),(8,iV ak.2),(9,iV aj.1),(10,iV aj.2),(11,iV O.1),(12,iV O.2.1),(13,iV O.2.2),(14,.bool U.1),(15,iV U.2),(16,iV K.1),(17,.slice Z (K.2.1).length aa),(18,iV K.2.2),(75,.bool bE)] L s) ?_ ?_
  ·rintro _ _ ⟨ar,rfl,rfl,aI,bG⟩;obtain⟨bH,bI,fh⟩:=bs fg;refine JL.go 1 rfl ?_;refine JL.BA [14,15,16,17,18,19,20,21,22,23,24,25,26,27,28,29,30,31,32,33,34,35,36,37,38,39,40,41,42,43,44,45,46,47,48,49,50,51,52,53,54,55,56,57,58,59,60,61,62,63,64,65,66,67,68,69,70,71,72] (fun L s=>∃(au:LH),Jm ar H au [] [(1,.slice ah (ab.1).length ai),(3,iV al.1),(5,.slice ae (W.1).length ag),(7,iV ak.1),(9,iV aj.1),(10,iV aj.2),(11,iV O.1),(12,iV O.2.1),(13,iV O.2.2),(14,.bool U.1),(15,iV U.2),(16,iV K.1),(17,.slice Z (K.2.1).length aa),(18,iV K.2.2),(79,.bool bH)] L s) ?_ ?_
   ·rintro _ _ ⟨au,rfl,rfl,aJ,bJ⟩;obtain⟨bK,bL,fj⟩:=bs fh;refine JL.go 1 rfl ?_;refine JL.BA [18,19,20,21,22,23,24,25,26,27,28,29,30,31,32,33,34,35,36,37,38,39,40,41,42,43,44,45,46,47,48,49,50,51,52,53,54,55,56,57,58,59,60,61,62,63,64,65,66,67,68,69,70,71,72] (fun L s=>∃(av:LH),Jm au H av [] [(1,.slice ah (ab.1).length ai),(3,iV al.1),(5,.slice ae (W.1).length ag),(7,iV ak.1),(9,iV aj.1),(11,iV O.1),(12,iV O.2.1),(13,iV O.2.2),(14,.bool U.1),(15,iV U.2),(16,iV K.1),(17,.slice Z (K.2.1).length aa),(18,iV K.2.2),(83,.bool bK)] L s) ?_ ?_
    ·rintro _ _ ⟨av,rfl,rfl,aK,bM⟩;obtain⟨bN,bO,fk⟩:=bs fj;refine JL.go 1 rfl ?_;refine JL.BA [22,23,24,25,26,27,28,29,30,31,32,33,34,35,36,37,38,39,40,41,42,43,44,45,46,47,48,49,50,51,52,53,54,55,56,57,58,59,60,61,62,63,64,65,66,67,68,69,70,71,72] (fun L s=>∃(aw:LH),Jm av H aw [] [(1,.slice ah (ab.1).length ai),(3,iV al.1),(5,.slice ae (W.1).length ag),(7,iV ak.1),(9,iV aj.1),(11,iV O.1),(12,iV O.2.1),(14,.bool U.1),(15,iV U.2),(16,iV K.1),(17,.slice Z (K.2.1).length aa),(18,iV K.2.2),(87,.bool bN)] L s) ?_ ?_
     ·rintro _ _ ⟨aw,rfl,rfl,aL,bP⟩;obtain⟨bQ,bR,fm⟩:=bs fk;refine JL.go 1 rfl ?_;refine JL.BA [26,27,28,29,30,31,32,33,34,35,36,37,38,39,40,41,42,43,44,45,46,47,48,49,50,51,52,53,54,55,56,57,58,59,60,61,62,63,64,65,66,67,68,69,70,71,72] (fun L s=>∃(ay:LH),Jm aw H ay [] [(1,.slice ah (ab.1).length ai),(3,iV al.1),(5,.slice ae (W.1).length ag),(7,iV ak.1),(9,iV aj.1),(11,iV O.1),(12,iV O.2.1),(14,.bool U.1),(16,iV K.1),(17,.slice Z (K.2.1).length aa),(18,iV K.2.2),(91,.bool bQ)] L s) ?_ ?_
      ·rintro _ _ ⟨ay,rfl,rfl,aM,bS⟩;obtain⟨bT,bU,fo⟩:=bs fm;refine JL.go 1 rfl ?_;refine JL.BA [30,31,32,33,34,35,36,37,38,39,40,41,42,43,44,45,46,47,48,49,50,51,52,53,54,55,56,57,58,59,60,61,62,63,64,65,66,67,68,69,70,71,72] (fun L s=>∃(az:LH),Jm ay H az [] [(1,.slice ah (ab.1).length ai),(3,iV al.1),(5,.slice ae (W.1).length ag),(7,iV ak.1),(9,iV aj.1),(11,iV O.1),(12,iV O.2.1),(14,.bool U.1),(16,iV K.1),(17,.slice Z (K.2.1).length aa),(95,.bool bT)] L s) ?_ ?_
       ·rintro _ _ ⟨az,rfl,rfl,aN,bV⟩;obtain⟨bW,bX,fp⟩:=bs fo;refine JL.go 1 rfl ?_;refine JL.BA [34,35,36,37,38,39,40,41,42,43,44,45,46,47,48,49,50,51,52,53,54,55,56,57,58,59,60,61,62,63,64,65,66,67,68,69,70,71,72] (fun L s=>∃(aA:LH),Jm az H aA [] [(1,.slice ah (ab.1).length ai),(5,.slice ae (W.1).length ag),(7,iV ak.1),(9,iV aj.1),(11,iV O.1),(12,iV O.2.1),(14,.bool U.1),(16,iV K.1),(17,.slice Z (K.2.1).length aa),(99,.bool bW)] L s) ?_ ?_
        ·rintro _ _ ⟨aA,rfl,rfl,aO,bY⟩;obtain⟨bZ,b0,fq⟩:=bs fp;refine JL.go 1 rfl ?_;refine JL.BA [38,39,40,41,42,43,44,45,46,47,48,49,50,51,52,53,54,55,56,57,58,59,60,61,62,63,64,65,66,67,68,69,70,71,72] (fun L s=>∃(aB:LH),Jm aA H aB [] [(1,.slice ah (ab.1).length ai),(5,.slice ae (W.1).length ag),(9,iV aj.1),(11,iV O.1),(12,iV O.2.1),(14,.bool U.1),(16,iV K.1),(17,.slice Z (K.2.1).length aa),(103,.bool bZ)] L s) ?_ ?_
         ·rintro _ _ ⟨aB,rfl,rfl,aP,b1⟩;obtain⟨b2,b3,fs⟩:=bs fq;refine JL.go 1 rfl ?_;refine JL.BA [42,43,44,45,46,47,48,49,50,51,52,53,54,55,56,57,58,59,60,61,62,63,64,65,66,67,68,69,70,71,72] (fun L s=>∃(aC:LH),Jm aB H aC [] [(1,.slice ah (ab.1).length ai),(5,.slice ae (W.1).length ag),(11,iV O.1),(12,iV O.2.1),(14,.bool U.1),(16,iV K.1),(17,.slice Z (K.2.1).length aa),(107,.bool b2)] L s) ?_ ?_
          ·rintro _ _ ⟨aC,rfl,rfl,aQ,b4⟩;obtain⟨b5,b6,fu⟩:=bs fs;refine JL.go 1 rfl ?_;refine JL.BA [46,47,48,49,50,51,52,53,54,55,56,57,58,59,60,61,62,63,64,65,66,67,68,69,70,71,72] (fun L s=>∃(aD:LH),Jm aC H aD [] [(1,.slice ah (ab.1).length ai),(5,.slice ae (W.1).length ag),(12,iV O.2.1),(14,.bool U.1),(16,iV K.1),(17,.slice Z (K.2.1).length aa),(111,.bool b5)] L s) ?_ ?_
           ·rintro _ _ ⟨aD,rfl,rfl,aR,b7⟩;obtain⟨b8,b9,fv⟩:=bs fu;refine JL.go 1 rfl ?_;refine JL.BA [50,51,52,53,54,55,56,57,58,59,60,61,62,63,64,65,66,67,68,69,70,71,72] (fun L s=>∃(aE:LH),Jm aD H aE [] [(1,.slice ah (ab.1).length ai),(5,.slice ae (W.1).length ag),(14,.bool U.1),(16,iV K.1),(17,.slice Z (K.2.1).length aa),(115,.bool b8)] L s) ?_ ?_
            ·rintro _ _ ⟨aE,rfl,rfl,aS,ca⟩;obtain⟨cb,cc,fw⟩:=bs fv;refine JL.go 1 rfl ?_;refine JL.BA [53,54,55,56,57,58,59,60,61,62,63,64,65,66,67,68,69,70,71,72] (fun L s=>∃(aF:LH),Jm aE H aF [] [(1,.slice ah (ab.1).length ai),(5,.slice ae (W.1).length ag),(16,iV K.1),(17,.slice Z (K.2.1).length aa),(118,.bool cb)] L s) ?_ ?_
             ·rintro _ _ ⟨aF,rfl,rfl,aT,cd⟩;obtain⟨ce,cf,fx⟩:=bs fw;refine JL.go 1 rfl ?_;refine JL.BA [57,58,59,60,61,62,63,64,65,66,67,68,69,70,71,72] (fun L s=>∃(aU:LH),Jm aF H aU [] [(1,.slice ah (ab.1).length ai),(5,.slice ae (W.1).length ag),(17,.slice Z (K.2.1).length aa),(122,.bool ce)] L s) ?_ ?_
              ·rintro _ _ ⟨aU,rfl,rfl,aV,cg⟩;obtain⟨ci,ck,fy⟩:=bs fx;refine JL.go 1 rfl ?_;refine JL.BA [62,63,64,65,66,67,68,69,70,71,72] (fun L s=>∃(aW:LH),Jm aU H aW [] [(5,.slice ae (W.1).length ag),(17,.slice Z (K.2.1).length aa),(127,.bool ci)] L s) ?_ ?_
               ·rintro _ _ ⟨aW,rfl,rfl,a9,cm⟩;obtain⟨cn,co,fz⟩:=bs fy;refine JL.go 1 rfl ?_;refine JL.BA [67,68,69,70,71,72] (fun L s=>∃(aX:LH),Jm aW H aX [] [(17,.slice Z (K.2.1).length aa),(132,.bool cn)] L s) ?_ ?_
                ·rintro _ _ ⟨aX,rfl,rfl,cp,cq⟩;obtain⟨fA,cr,fB⟩:=bs fz;refine JL.go 1 rfl ?_;refine JL.BA [72] (fun L s=>∃(ct:LH),Jm aX H ct [] [(137,.bool fA)] L s) ?_ ?_
                 ·rintro _ _ ⟨ct,rfl,rfl,fC,fD⟩;refine JL.go 2 rfl ?_;obtain rfl:=oi fB;refine JL.rt func22 rfl rfl ?_;exact dt _ _ _ _ (((((((((((((((((((((((((((((((((((((dw.trans dC).trans bv).trans bw).trans bx).trans aG).trans bz).trans aY).trans aZ).trans a0).trans an).trans a1).trans a2).trans a3).trans a4).trans ao).trans am).trans a5).trans a6).trans ap).trans a8).trans aH).trans aI).trans aJ).trans aK).trans aL).trans aM).trans aN).trans aO).trans aP).trans aQ).trans aR).trans aS).trans aT).trans aV).trans a9).trans cp).trans fC) rfl ⟨rfl,rfl⟩ fD
                 ·intro cu;refine JL.Cg (c:=cn) (i:=133) rfl (fun ba=>?_) (fun ba=>?_)
                  ·have cv:=cr;rw [if_pos ba] at cv;refine JL.go 1 rfl ?_;refine JS.lit (pp:=rI) [iV 3,iV 4] [3,4] rfl rfl rfl underlying28 (Ah type3) (AM type3) (by decide) rfl rfl rfl ⟨rfl,rfl,trivial⟩ cq fun hC hD fE fF=>?_;refine JS.BC 0 fE fF rfl fun hE cw fG fH=>?_;obtain⟨hF,fI,fJ⟩:=bs cv;refine JS.cl (Kl (fc.mono ((((((((((((((((aH.trans aI).trans aJ).trans aK).trans aL).trans aM).trans aN).trans aO).trans aP).trans aQ).trans aR).trans aS).trans aT).trans aV).trans a9).trans cp).trans cw)) fG fI) rfl rfl (Ay func32 rfl) fH ?_;rintro _ fK _ fL ⟨rfl,rfl⟩ fM;refine JS.norm (S':= [[],[]]) rfl fM fun fN=>?_;refine JL.go 1 rfl ?_;obtain rfl:=oi fJ;exact JL.kw (cu _ _ ⟨fK,rfl,rfl,(cw.trans fL),fN⟩) rfl
                  ·have cy:=cr;rw [if_neg (by rw [ba];exact Bool.false_ne_true)] at cy;refine JL.go 4 rfl ?_;obtain rfl:=oi cy;exact JL.kw (cu _ _ ⟨aX,rfl,rfl,(Le.refl _),cq⟩) rfl
                ·intro cz;refine JL.Cg (c:=ci) (i:=128) rfl (fun bb=>?_) (fun bb=>?_)
                 ·have cA:=co;rw [if_pos bb] at cA;refine JL.go 1 rfl ?_;refine JS.lit (pp:=rI) [iV 2,iV 3,iV 4] [2,3,4] rfl rfl rfl underlying28 (Ah type3) (AM type3) (by decide) rfl rfl rfl ⟨rfl,rfl,rfl,trivial⟩ cm fun hG hH fO fP=>?_;refine JS.BC 0 fO fP rfl fun hI cB fQ fR=>?_;obtain⟨hJ,fS,fT⟩:=bs cA;refine JS.cl (Kl (ea.mono (((((((((((((((((((((((((((((aY.trans aZ).trans a0).trans an).trans a1).trans a2).trans a3).trans a4).trans ao).trans am).trans a5).trans a6).trans ap).trans a8).trans aH).trans aI).trans aJ).trans aK).trans aL).trans aM).trans aN).trans aO).trans aP).trans aQ).trans aR).trans aS).trans aT).trans aV).trans a9).trans cB)) fQ fS) rfl rfl (Ay func32 rfl) fR ?_;rintro _ fU _ fV ⟨rfl,rfl⟩ fW;refine JS.norm (S':= [[],[]]) rfl fW fun fX=>?_;refine JL.go 1 rfl ?_;obtain rfl:=oi fT;exact JL.kw (cz _ _ ⟨fU,rfl,rfl,(cB.trans fV),fX⟩) rfl
                 ·have cC:=co;rw [if_neg (by rw [bb];exact Bool.false_ne_true)] at cC;refine JL.go 4 rfl ?_;obtain rfl:=oi cC;exact JL.kw (cz _ _ ⟨aW,rfl,rfl,(Le.refl _),cm⟩) rfl
               ·intro cD;refine JL.Cg (c:=ce) (i:=123) rfl (fun bc=>?_) (fun bc=>?_)
                ·have cE:=ck;rw [if_pos bc] at cE;refine JL.go 1 rfl ?_;refine JS.lit (pp:=rI) [iV 4,iV 5] [4,5] rfl rfl rfl underlying28 (Ah type3) (AM type3) (by decide) rfl rfl rfl ⟨rfl,rfl,trivial⟩ cg fun hK hL fY fZ=>?_;refine JS.BC 0 fY fZ rfl fun hM cF ga gb=>?_;obtain⟨hN,gc,gd⟩:=bs cE;refine JS.cl (Kl (dD.mono (((((((((((((((((((((((((((((((((bv.trans bw).trans bx).trans aG).trans bz).trans aY).trans aZ).trans a0).trans an).trans a1).trans a2).trans a3).trans a4).trans ao).trans am).trans a5).trans a6).trans ap).trans a8).trans aH).trans aI).trans aJ).trans aK).trans aL).trans aM).trans aN).trans aO).trans aP).trans aQ).trans aR).trans aS).trans aT).trans aV).trans cF)) ga gc) rfl rfl (Ay func32 rfl) gb ?_;rintro _ ge _ gf ⟨rfl,rfl⟩ gg;refine JS.norm (S':= [[],[]]) rfl gg fun gh=>?_;refine JL.go 1 rfl ?_;obtain rfl:=oi gd;exact JL.kw (cD _ _ ⟨ge,rfl,rfl,(cF.trans gf),gh⟩) rfl
                ·have cG:=ck;rw [if_neg (by rw [bc];exact Bool.false_ne_true)] at cG;refine JL.go 4 rfl ?_;obtain rfl:=oi cG;exact JL.kw (cD _ _ ⟨aU,rfl,rfl,(Le.refl _),cg⟩) rfl
              ·intro cH;refine JL.Cg (c:=cb) (i:=119) rfl (fun bd=>?_) (fun bd=>?_)
               ·have cI:=cf;rw [if_pos bd] at cI;refine JL.go 3 rfl ?_;obtain rfl:=oi cI;exact JL.kw (cH _ _ ⟨aF,rfl,rfl,(Le.refl _),cd⟩) rfl
               ·have cJ:=cf;rw [if_neg (by rw [bd];exact Bool.false_ne_true)] at cJ;refine JL.go 3 rfl ?_;obtain rfl:=oi cJ;exact JL.kw (cH _ _ ⟨aF,rfl,rfl,(Le.refl _),cd⟩) rfl
             ·intro cK;refine JL.Cg (c:=b8) (i:=116) rfl (fun bf=>?_) (fun bf=>?_)
              ·have cM:=cc;rw [if_pos bf] at cM;refine JL.go 2 rfl ?_;obtain rfl:=oi cM;exact JL.kw (cK _ _ ⟨aE,rfl,rfl,(Le.refl _),ca⟩) rfl
              ·have cN:=cc;rw [if_neg (by rw [bf];exact Bool.false_ne_true)] at cN;refine JL.go 2 rfl ?_;obtain rfl:=oi cN;exact JL.kw (cK _ _ ⟨aE,rfl,rfl,(Le.refl _),ca⟩) rfl
            ·intro cO;refine JL.Cg (c:=b5) (i:=112) rfl (fun bg=>?_) (fun bg=>?_)
             ·have cP:=b9;rw [if_pos bg] at cP;refine JL.go 3 rfl ?_;obtain rfl:=oi cP;exact JL.kw (cO _ _ ⟨aD,rfl,rfl,(Le.refl _),b7⟩) rfl
             ·have cQ:=b9;rw [if_neg (by rw [bg];exact Bool.false_ne_true)] at cQ;refine JL.go 3 rfl ?_;obtain rfl:=oi cQ;exact JL.kw (cO _ _ ⟨aD,rfl,rfl,(Le.refl _),b7⟩) rfl
           ·intro cR;refine JL.Cg (c:=b2) (i:=108) rfl (fun bh=>?_) (fun bh=>?_)
            ·have cT:=b6;rw [if_pos bh] at cT;refine JL.go 3 rfl ?_;obtain rfl:=oi cT;exact JL.kw (cR _ _ ⟨aC,rfl,rfl,(Le.refl _),b4⟩) rfl
            ·have cV:=b6;rw [if_neg (by rw [bh];exact Bool.false_ne_true)] at cV;refine JL.go 3 rfl ?_;obtain rfl:=oi cV;exact JL.kw (cR _ _ ⟨aC,rfl,rfl,(Le.refl _),b4⟩) rfl
          ·intro cW;refine JL.Cg (c:=bZ) (i:=104) rfl (fun bi=>?_) (fun bi=>?_)
           ·have cX:=b3;rw [if_pos bi] at cX;refine JL.go 3 rfl ?_;obtain rfl:=oi cX;exact JL.kw (cW _ _ ⟨aB,rfl,rfl,(Le.refl _),b1⟩) rfl
           ·have cY:=b3;rw [if_neg (by rw [bi];exact Bool.false_ne_true)] at cY;refine JL.go 3 rfl ?_;obtain rfl:=oi cY;exact JL.kw (cW _ _ ⟨aB,rfl,rfl,(Le.refl _),b1⟩) rfl
         ·intro cZ;refine JL.Cg (c:=bW) (i:=100) rfl (fun bj=>?_) (fun bj=>?_)
          ·have c0:=b0;rw [if_pos bj] at c0;refine JL.go 3 rfl ?_;obtain rfl:=oi c0;exact JL.kw (cZ _ _ ⟨aA,rfl,rfl,(Le.refl _),bY⟩) rfl
          ·have c1:=b0;rw [if_neg (by rw [bj];exact Bool.false_ne_true)] at c1;refine JL.go 3 rfl ?_;obtain rfl:=oi c1;exact JL.kw (cZ _ _ ⟨aA,rfl,rfl,(Le.refl _),bY⟩) rfl
        ·intro c2;refine JL.Cg (c:=bT) (i:=96) rfl (fun bk=>?_) (fun bk=>?_)
         ·have c3:=bX;rw [if_pos bk] at c3;refine JL.go 3 rfl ?_;obtain rfl:=oi c3;exact JL.kw (c2 _ _ ⟨az,rfl,rfl,(Le.refl _),bV⟩) rfl
         ·have c4:=bX;rw [if_neg (by rw [bk];exact Bool.false_ne_true)] at c4;refine JL.go 3 rfl ?_;obtain rfl:=oi c4;exact JL.kw (c2 _ _ ⟨az,rfl,rfl,(Le.refl _),bV⟩) rfl
       ·intro c5;refine JL.Cg (c:=bQ) (i:=92) rfl (fun bl=>?_) (fun bl=>?_)
        ·have c6:=bU;rw [if_pos bl] at c6;refine JL.go 3 rfl ?_;obtain rfl:=oi c6;exact JL.kw (c5 _ _ ⟨ay,rfl,rfl,(Le.refl _),bS⟩) rfl
        ·have c7:=bU;rw [if_neg (by rw [bl];exact Bool.false_ne_true)] at c7;refine JL.go 3 rfl ?_;obtain rfl:=oi c7;exact JL.kw (c5 _ _ ⟨ay,rfl,rfl,(Le.refl _),bS⟩) rfl
      ·intro c8;refine JL.Cg (c:=bN) (i:=88) rfl (fun bm=>?_) (fun bm=>?_)
       ·have c9:=bR;rw [if_pos bm] at c9;refine JL.go 3 rfl ?_;obtain rfl:=oi c9;exact JL.kw (c8 _ _ ⟨aw,rfl,rfl,(Le.refl _),bP⟩) rfl
       ·have da:=bR;rw [if_neg (by rw [bm];exact Bool.false_ne_true)] at da;refine JL.go 3 rfl ?_;obtain rfl:=oi da;exact JL.kw (c8 _ _ ⟨aw,rfl,rfl,(Le.refl _),bP⟩) rfl
     ·intro db;refine JL.Cg (c:=bK) (i:=84) rfl (fun bn=>?_) (fun bn=>?_)
      ·have dc:=bO;rw [if_pos bn] at dc;refine JL.go 3 rfl ?_;obtain rfl:=oi dc;exact JL.kw (db _ _ ⟨av,rfl,rfl,(Le.refl _),bM⟩) rfl
      ·have dd:=bO;rw [if_neg (by rw [bn];exact Bool.false_ne_true)] at dd;refine JL.go 3 rfl ?_;obtain rfl:=oi dd;exact JL.kw (db _ _ ⟨av,rfl,rfl,(Le.refl _),bM⟩) rfl
    ·intro de;refine JL.Cg (c:=bH) (i:=80) rfl (fun bo=>?_) (fun bo=>?_)
     ·have df:=bL;rw [if_pos bo] at df;refine JL.go 3 rfl ?_;obtain rfl:=oi df;exact JL.kw (de _ _ ⟨au,rfl,rfl,(Le.refl _),bJ⟩) rfl
     ·have dg:=bL;rw [if_neg (by rw [bo];exact Bool.false_ne_true)] at dg;refine JL.go 3 rfl ?_;obtain rfl:=oi dg;exact JL.kw (de _ _ ⟨au,rfl,rfl,(Le.refl _),bJ⟩) rfl
   ·intro dh;refine JL.Cg (c:=bE) (i:=76) rfl (fun bp=>?_) (fun bp=>?_)
    ·have di:=bI;rw [if_pos bp] at di;refine JL.go 3 rfl ?_;obtain rfl:=oi di;exact JL.kw (dh _ _ ⟨ar,rfl,rfl,(Le.refl _),bG⟩) rfl
    ·have dj:=bI;rw [if_neg (by rw [bp];exact Bool.false_ne_true)] at dj;refine JL.go 3 rfl ?_;obtain rfl:=oi dj;exact JL.kw (dh _ _ ⟨ar,rfl,rfl,(Le.refl _),bG⟩) rfl
  ·intro dk;refine JL.Cg (c:=bB) (i:=72) rfl (fun bq=>?_) (fun bq=>?_)
   ·have dl:=bF;rw [if_pos bq] at dl;refine JL.go 3 rfl ?_;obtain rfl:=oi dl;exact JL.kw (dk _ _ ⟨aq,rfl,rfl,(Le.refl _),bD⟩) rfl
   ·have dm:=bF;rw [if_neg (by rw [bq];exact Bool.false_ne_true)] at dm;refine JL.go 3 rfl ?_;obtain rfl:=oi dm;exact JL.kw (dk _ _ ⟨aq,rfl,rfl,(Le.refl _),bD⟩) rfl
 ·intro dn;refine JL.B5 (q:=ab.2=0) (i:=68) rfl (fun br=>?_) (fun br=>?_)
  ·have dp:=bC;rw [if_pos br] at dp;refine JL.go 3 rfl ?_;obtain rfl:=oi dp;exact JL.kw (dn _ _ ⟨a7,rfl,rfl,(Le.refl _),bA⟩) rfl
  ·have dq:=bC;rw [if_neg br] at dq;refine JL.go 3 rfl ?_;obtain rfl:=oi dq;exact JL.kw (dn _ _ ⟨a7,rfl,rfl,(Le.refl _),bA⟩) rfl
end Pal
namespace Pal
open Go Go.Conc Go.Proofs
open Go.Proofs.Tryz
variable {J:Judge Tryz.prog}{E:LH}
def IC(fuel:Nat)(W:Int×((List Int)×Int×Nat))(Z:(List (List Int))×(List (List Int))×(List Int)×Int×Nat×Int)(K:(List Int)×Int×Nat×(List Int)×Int):Option (AV ((List Int)×Int×Nat×(List Int)×Int) ((List Int)×(List Int)×Int×Nat)):=
 Option.bind (
  if 0<K.2.2.2.2 then(
   some (decide (1<W.1))
  ) else(
   some false
  )
 ) fun ab=>
 if ab=true then(
  (Av (Z.2.2.2.2.2 - 1)).bind fun ae=>
  (f41 fuel (K.1,K.2.1,K.2.2.1) (max (0) (ae))).bind fun aa=>
  (f97 fuel aa.2 6).bind fun O=>
  Option.bind (
   if O.1=true then(
    (Av (W.1 - 1)).bind fun ag=>
    (f41 fuel O.2 ag).bind fun ah=>
    some ah
   ) else(
    some (aa.1,O.2.1,O.2.2.1,O.2.2.2)
   )
  ) fun U=>
  Option.bind (
   if U.1≠Z.2.2.2.2.2 then(
    (f98 fuel K.2.2.2.1 U.1).bind fun ai=>
    some ai
   ) else(
    some K.2.2.2.1
   )
  ) fun aj=>
  (Av (K.2.2.2.2 - 1)).bind fun ak=>
  some (.more (U.2.1,U.2.2.1,U.2.2.2,aj,ak))
 ) else(
  some (.done (K.2.2.2.1,K.1,K.2.1,K.2.2.1))
 )
def IX(fuel:Nat)(O:Int×((List Int)×Int×Nat))(K:(List (List Int))×(List (List Int))×(List Int)×Int×Nat×Int):Option (AV ((List (List Int))×(List (List Int))×(List Int)×Int×Nat×Int) ((List Int)×Int×Nat×(List (List Int))×(List (List Int)))):=
 if K.2.2.2.2.2<O.1 then(
  (Av (O.1 - 1)).bind fun ag=>
  (Av (K.2.2.2.2.2+1)).bind fun ah=>
  (f97 fuel (K.2.2.1,K.2.2.2.1,K.2.2.2.2.1) 3).bind fun U=>
  Option.bind (
   if U.1=true then(
    (Av (O.1 - 1)).bind fun ak=>
    (f96 fuel U.2 K.2.2.2.2.2 ak).bind fun Z=>
    (f98 fuel ([min (ag) (ah)]:List Int) Z.1).bind fun al=>
    some (al,Z.2.1,Z.2.2.1,Z.2.2.2)
   ) else(
    some (([min (ag) (ah)]:List Int),U.2.1,U.2.2.1,U.2.2.2)
   )
  ) fun ai=>
  (f97 fuel ai.2 8).bind fun W=>
  Option.bind (
   if W.1=true then(
    (Av (O.1 - 1)).bind fun am=>
    (f41 fuel W.2 am).bind fun aa=>
    some (([aa.1]:List Int),aa.2.1,aa.2.2.1,aa.2.2.2)
   ) else(
    some (ai.1,W.2.1,W.2.2.1,W.2.2.2)
   )
  ) fun aj=>
  (f99 fuel aj.2 ([0,1,1,2]:List Int)).bind fun ab=>
  Option.bind (iter (IC fuel O K) fuel (ab.2.1,ab.2.2.1,ab.2.2.2,[],ab.1)) fun ae=>
  (Cv K.1 ([aj.1]:List (List Int))).bind fun an=>
  (Cv K.2.1 ([ae.1]:List (List Int))).bind fun ao=>
  (Av (K.2.2.2.2.2+1)).bind fun ap=>
  some (.more (an,ao,ae.2.1,ae.2.2.1,ae.2.2.2,ap))
 ) else(
  some (.done (K.2.2.1,K.2.2.2.1,K.2.2.2.2.1,K.1,K.2.1))
 )
def f39(fuel:Nat)(p0:(List Int)×Int×Nat)(p1:Int):Option (((List (List Int))×(List (List Int)))×((List Int)×Int×Nat)):=
 (f96 fuel p0 1 p1).bind fun K=>
 Option.bind (iter (IX fuel K) fuel ([],[],K.2.1,K.2.2.1,K.2.2.2,0)) fun O=>
 some (O.2.2.2,(O.1,O.2.1,O.2.2.1))
theorem S7{O:Nat}{bU:Option Addr}{c2:Nat}{p0:(List Int)×Int×Nat}{p1:Int}(dC:Aq rI E bU c2 (p0.1)){fuel:Nat}{r:((List (List Int))×(List (List Int)))×((List Int)×Int×Nat)}(bV:f39 fuel p0 p1=some r):Au J 39 [.pointer (some ⟨O,0,none⟩),iV p1] E [(O,.cells #[.slice bU (p0.1).length c2,iV p0.2.1,.int .u64 ((p0.2.2:Nat):Int)] 92 (0,0))] (fun w E' B'=>∃(bW:Option Addr) (bX:Nat) (bY:Option Addr) (bZ:Nat) (b0:Option Addr) (b1:Nat),w= .agg #[.slice bW (r.1.1).length bX,.slice bY (r.1.2).length bZ]∧B'= [(O,.cells #[.slice b0 (r.2.1).length b1,iV r.2.2.1,.int .u64 ((r.2.2.2:Nat):Int)] 92 (0,0))]∧Aq (rL rI) E' bW bX (r.1.1)∧Aq (rL rI) E' bY bZ (r.1.2)∧Aq rI E' b0 b1 (r.2.1)):=by
 refine Au.en func39 rfl rfl fun Q he cs H dD dE=>?_;unfold f39 at bV;refine JL.go 2 rfl ?_;refine JS.alloc rfl rfl rfl dD (AM type24) fun W dF=>?_;refine JL.go 3 rfl ?_;refine JS.alloc rfl rfl rfl dF (AM type24) fun U dG=>?_;obtain⟨an,dH,dI⟩:=bs bV;refine JL.go 5 rfl ?_;refine JS.Bv 0 (Kr dC dH) rfl rfl (Ay func96 rfl) dG rfl ?_;rintro _ bi _ dJ ⟨b2,b3,rfl,rfl,dK⟩ dL;refine JS.norm (S':= [[(O,.cells #[.slice b2 (an.2.1).length b3,iV an.2.2.1,.int .u64 ((an.2.2.2:Nat):Int)] 92 (0,0))],[(W,.cells #[.slice none 0 0,.slice none 0 0] 24 (0,0))],[(U,.cells #[.slice none 0 0,.slice none 0 0] 24 (0,0))]]) rfl dL fun dM=>?_;obtain⟨aa,dN,dO⟩:=bs dI;refine JL.go 7 rfl ?_;refine JL.join (fun L s=>∃(aT:LH) (aU:Option Addr) (aV:Nat) (ap:Option Addr) (aq:Nat) (bj:Seg) (ar:Option Addr) (au:Nat) (bk:Seg),Jn bi H aT [[(O,.cells #[.slice aU (aa.1).length aV,iV aa.2.1,.int .u64 ((aa.2.2.1:Nat):Int)] 92 (0,0))],[(W,.cells #[.slice none 0 0,.slice none 0 0] 24 (0,0))],[(U,.cells #[.slice ap (aa.2.2.2.1).length aq,.slice ar (aa.2.2.2.2).length au] 24 (0,0))],bj,bk] [(4,.pointer (some ⟨W,0,none⟩)),(5,.pointer (some ⟨U,0,none⟩))] L s (Aq rI aT aU aV (aa.1)∧OL 28 (rL rI) aT ap aq bj (aa.2.2.2.1)∧OL 28 (rL rI) aT ar au bk (aa.2.2.2.2))) ?_ ?_
 ·rintro _ _ ⟨aT,aU,aV,ap,aq,bj,ar,au,bk,rfl,rfl,dP,b4,dQ,dR,dS⟩;refine JL.go 2 rfl ?_;refine JL.Y rfl (fun ρ h=>Yl.Bj (vs:= [.slice ap (aa.2.2.2.1).length aq,.slice ar (aa.2.2.2.2).length au]) (Ao underlying24) (Ah type24) (h _ _ rfl) (Dv (off:=0) 2 b4 rfl rfl)) ?_;refine JS.st (v:= .agg #[.slice ap (aa.2.2.2.1).length aq,.slice ar (aa.2.2.2.2).length au]) (off:=0) 1 b4 (Ah type24) rfl rfl rfl rfl fun dT=>?_;refine JL.done ?_;refine JS.BC 3 dR dT rfl fun hf bl dU dV=>?_;refine JS.BC 4 (dS.mono bl) dV rfl fun hg bm dW dX=>?_;refine JS.norm (S':= [[(O,.cells #[.slice aU (aa.1).length aV,iV aa.2.1,.int .u64 ((aa.2.2.1:Nat):Int)] 92 (0,0))],[(W,.cells #[.slice ap (aa.2.2.2.1).length aq,.slice ar (aa.2.2.2.2).length au] 24 (0,0))],[(U,.cells #[.slice ap (aa.2.2.2.1).length aq,.slice ar (aa.2.2.2.2).length au] 24 (0,0))],[],[]]) rfl dX fun dY=>?_;refine JS.drop 2 dY rfl fun b5=>?_;obtain rfl:=oi dO;refine JL.ret (v:= .agg #[.slice ap (aa.2.2.2.1).length aq,.slice ar (aa.2.2.2.2).length au]) rfl rfl (Bm.list func39 rfl (vs:= [.agg #[.slice ap (aa.2.2.2.1).length aq,.slice ar (aa.2.2.2.2).length au]]) ⟨⟨_,rfl,Ld.many (vs:= [.slice ap (aa.2.2.2.1).length aq,.slice ar (aa.2.2.2.2).length au]) (Ao underlying24) (Ah type24) (Dv (off:=0) 1 b5 rfl rfl)⟩,trivial⟩) ?_;refine Fj 1 b5 rfl fun dZ=>?_;exact dE _ _ _ _ (((dJ.trans dP).trans bl).trans bm) rfl ⟨ap,aq,ar,au,aU,aV,rfl,rfl,(dU.mono bm),dW,(dQ.mono (bl.trans bm))⟩ dZ
 ·intro ea;refine JL.block ?_;refine JL.wk [(0,.pointer (some ⟨O,0,none⟩)),(4,.pointer (some ⟨W,0,none⟩)),(5,.pointer (some ⟨U,0,none⟩)),(6,iV an.1),(7,iV 0)] rfl ?_;refine JL.Bi dN (fun L s K=>∃(aL:LH) (ab:Option Addr) (ae:Nat) (ai:Seg) (ag:Option Addr) (ah:Nat) (aj:Seg) (a2:Option Addr) (a3:Nat),Jn bi H aL [[(O,.cells #[.slice a2 (K.2.2.1).length a3,iV K.2.2.2.1,.int .u64 ((K.2.2.2.2.1:Nat):Int)] 92 (0,0))],[(W,.cells #[.slice none 0 0,.slice none 0 0] 24 (0,0))],[(U,.cells #[.slice ab (K.1).length ae,.slice ag (K.2.1).length ah] 24 (0,0))],ai,aj] [(0,.pointer (some ⟨O,0,none⟩)),(4,.pointer (some ⟨W,0,none⟩)),(5,.pointer (some ⟨U,0,none⟩)),(6,iV an.1),(7,iV K.2.2.2.2.2)] L s (OL 28 (rL rI) aL ab ae ai (K.1)∧OL 28 (rL rI) aL ag ah aj (K.2.1)∧Aq rI aL a2 a3 (K.2.2.1))) ⟨bi,none,0,[],none,0,[],b2,b3,rfl,rfl,(Le.refl _),dM,OL.nil,OL.nil,dK⟩ ?_;rintro _ _ K ⟨aL,ab,ae,ai,ag,ah,aj,a2,a3,rfl,rfl,a4,b6,a5,a6,b7⟩ eb ⟨hj,aW⟩ bn;have bo:=aW;unfold IX at bo;refine JL.go 7 rfl ?_;refine JL.ifs (p:=K.2.2.2.2.2<an.1) rfl (fun bp=>?_) (fun bp=>?_)
  ·have b8:=bo;rw [if_pos bp] at b8;obtain⟨bq,ec,ed⟩:=bs b8;refine JL.go 6 rfl ?_;refine JL.Y rfl (fun ρ h=>Yl.A4 (h _ _ rfl) (h _ _ rfl) ec) ?_;obtain⟨br,ee,ef⟩:=bs ed;refine JL.go 1 rfl ?_;refine JL.Y rfl (fun ρ h=>Yl.A0 (h _ _ rfl) (h _ _ rfl) ee) ?_;refine JL.Y (v:=iV (min (bq) (br))) rfl (fun ρ h=>Yl.min2 (h _ _ rfl) (h _ _ rfl)) ?_;refine JS.lit (pp:=rI) [iV (min (bq) (br))] [min (bq) (br)] rfl rfl rfl underlying28 (Ah type3) (AM type3) (by decide) rfl rfl rfl ⟨rfl,trivial⟩ b6 fun eg eh b9 ei=>?_;obtain⟨a7,ej,ek⟩:=bs ef;refine JL.go 6 rfl ?_;refine JS.Bv 0 (I5 b7 ej) rfl rfl (Ay func97 rfl) ei rfl ?_;rintro _ el _ av ⟨ca,cb,rfl,rfl,cc⟩ cd;obtain⟨aM,ce,em⟩:=bs ek;refine JL.done ?_;refine JL.join (fun L s=>∃(a8:LH) (a9:Option Addr) (ba:Nat) (bu:Option Addr) (bv:Nat),Jn el H a8 [[(O,.cells #[.slice bu (aM.2.1).length bv,iV aM.2.2.1,.int .u64 ((aM.2.2.2:Nat):Int)] 92 (0,0))],[(W,.cells #[.slice none 0 0,.slice none 0 0] 24 (0,0))],[(U,.cells #[.slice ab (K.1).length ae,.slice ag (K.2.1).length ah] 24 (0,0))],ai,aj] [(0,.pointer (some ⟨O,0,none⟩)),(4,.pointer (some ⟨W,0,none⟩)),(5,.pointer (some ⟨U,0,none⟩)),(6,iV an.1),(7,iV K.2.2.2.2.2),(8,.slice a9 (aM.1).length ba)] L s (Aq rI a8 a9 ba (aM.1)∧Aq rI a8 bu bv (aM.2.1))) ?_ ?_
   ·rintro _ _ ⟨a8,a9,ba,bu,bv,rfl,rfl,aC,eo,ep,eq⟩;obtain⟨bb,er,et⟩:=bs em;refine JL.go 4 rfl ?_;refine JS.Bv 0 (I5 eq er) rfl rfl (Ay func97 rfl) eo rfl ?_;rintro _ cf _ aB ⟨cg,ci,rfl,rfl,ck⟩ eu;refine JS.norm (S':= [[(O,.cells #[.slice cg (bb.2.1).length ci,iV bb.2.2.1,.int .u64 ((bb.2.2.2:Nat):Int)] 92 (0,0))],[(W,.cells #[.slice none 0 0,.slice none 0 0] 24 (0,0))],[(U,.cells #[.slice ab (K.1).length ae,.slice ag (K.2.1).length ah] 24 (0,0))],ai,aj]) rfl eu fun cm=>?_;obtain⟨al,cn,ew⟩:=bs et;refine JL.done ?_;refine JL.join (fun L s=>∃(bc:LH) (aw:Option Addr) (ay:Nat) (bw:Option Addr) (bx:Nat),Jn cf H bc [[(O,.cells #[.slice bw (al.2.1).length bx,iV al.2.2.1,.int .u64 ((al.2.2.2:Nat):Int)] 92 (0,0))],[(W,.cells #[.slice none 0 0,.slice none 0 0] 24 (0,0))],[(U,.cells #[.slice ab (K.1).length ae,.slice ag (K.2.1).length ah] 24 (0,0))],ai,aj] [(0,.pointer (some ⟨O,0,none⟩)),(4,.pointer (some ⟨W,0,none⟩)),(5,.pointer (some ⟨U,0,none⟩)),(6,iV an.1),(7,iV K.2.2.2.2.2),(8,.slice aw (al.1).length ay)] L s (Aq rI bc aw ay (al.1)∧Aq rI bc bw bx (al.2.1))) ?_ ?_
    ·rintro _ _ ⟨bc,aw,ay,bw,bx,rfl,rfl,aD,ex,co,ey⟩;refine JL.go 8 rfl ?_;refine JS.lit (pp:=rI) [iV 0,iV 1,iV 1,iV 2] [0,1,1,2] rfl rfl rfl underlying28 (Ah type3) (AM type3) (by decide) rfl rfl rfl ⟨rfl,rfl,rfl,rfl,trivial⟩ ex fun hk hl ez eA=>?_;refine JS.BC 5 ez eA rfl fun hm ao eB eC=>?_;obtain⟨bd,eD,eE⟩:=bs ew;refine JS.Bv 0 (I2 (ey.mono ao) eB eD) rfl rfl (Ay func99 rfl) eC rfl ?_;rintro _ bz _ az ⟨cp,cq,rfl,rfl,eF⟩ eG;refine JS.norm (S':= [[(O,.cells #[.slice cp (bd.2.1).length cq,iV bd.2.2.1,.int .u64 ((bd.2.2.2:Nat):Int)] 92 (0,0))],[(W,.cells #[.slice none 0 0,.slice none 0 0] 24 (0,0))],[(U,.cells #[.slice ab (K.1).length ae,.slice ag (K.2.1).length ah] 24 (0,0))],ai,aj,[]]) rfl eG fun eH=>?_;obtain⟨Z,eI,eJ⟩:=bs eE;refine JL.go 2 rfl ?_;refine JL.join (fun L s=>∃(aG:LH) (aN:Option Addr) (aO:Nat) (aE:Option Addr) (aF:Nat),Jn bz H aG [[(O,.cells #[.slice aE (Z.2.1).length aF,iV Z.2.2.1,.int .u64 ((Z.2.2.2:Nat):Int)] 92 (0,0))],[(W,.cells #[.slice none 0 0,.slice none 0 0] 24 (0,0))],[(U,.cells #[.slice ab (K.1).length ae,.slice ag (K.2.1).length ah] 24 (0,0))],ai,aj] [(0,.pointer (some ⟨O,0,none⟩)),(4,.pointer (some ⟨W,0,none⟩)),(5,.pointer (some ⟨U,0,none⟩)),(6,iV an.1),(7,iV K.2.2.2.2.2),(8,.slice aw (al.1).length ay),(9,.slice aN (Z.1).length aO)] L s (Aq rI aG aN aO (Z.1)∧Aq rI aG aE aF (Z.2.1))) ?_ ?_
     ·rintro _ _ ⟨aG,aN,aO,aE,aF,rfl,rfl,aA,aX,bA,bB⟩;refine JG.B8 11 [U] ⟨⟨2,_,rfl⟩,trivial⟩ aX mixed rfl (by decide+kernel) fun ht=>?_;refine JG.fd 0 ht underlying24 (Ah type22) rfl rfl rfl rfl ?_;refine JG.V (v:= .slice ab (K.1).length ae) 1 ht rfl rfl (fun ρ h s' hs=>Yl.load (Ao underlying22) (h _ _ rfl) (Bd (o:=0) 2 aX rfl (by simp [AD]) hs rfl)) ?_;refine JG.mv 2 ht rfl rfl ?_;refine JG.fd 5 ht underlying24 (Ah type22) rfl rfl rfl rfl ?_;refine JG.V (v:= .slice ag (K.2.1).length ah) 6 ht rfl rfl (fun ρ h s' hs=>Yl.load (Ao underlying22) (h _ _ rfl) (Bd (o:=1) 2 aX rfl (by simp [AD]) hs rfl)) ?_;refine JG.mv 7 ht rfl rfl ?_;obtain⟨aP,bC,eK⟩:=bs eJ;obtain⟨aQ,bD,bE⟩:=bs eK;refine JG.two (i:=3) (j:=8) rfl (by decide+kernel) ?_ ?_
      ·refine Take.lit (pp:=(rL rI)) (jp:=2) [.slice aw (al.1).length ay] ([al.1]:List (List Int)) aX rfl rfl rfl rfl underlying22 (Ah type28) (AM type28) (by decide) rfl rfl rfl ⟨⟨_,_,rfl,(co.mono ((ao.trans az).trans aA))⟩,trivial⟩ fun hn cr ct cu=>?_;refine JG.two (i:=4) (j:=8) rfl (by decide+kernel) ?_ ?_
       ·refine Take.app (pp:=(rL rI)) (jp:=2) 3 5 cu rfl bC rfl rfl rfl rfl rfl rfl rfl underlying22 underlying22 (Ah type28) (Ct type28) (AM type28) rfl (by decide) (by decide) (a5.mono ((((((av.trans aC).trans aB).trans aD).trans ao).trans az).trans aA)) ct rfl rfl rfl rfl fun cv cw ho cy eL eM=>?_;refine JG.fd 10 ht underlying24 (Ah type22) rfl rfl rfl rfl ?_;refine JG.one (i:=8) rfl (by decide+kernel) ?_;refine Take.lit (pp:=(rL rI)) (jp:=2) [.slice aN (Z.1).length aO] ([Z.1]:List (List Int)) eM rfl rfl rfl rfl underlying22 (Ah type28) (AM type28) (by decide) rfl rfl rfl ⟨⟨_,_,rfl,bA⟩,trivial⟩ fun hp eN eO eP=>?_;refine JG.one (i:=9) rfl (by decide+kernel) ?_;refine Take.app (pp:=(rL rI)) (jp:=2) 4 6 eP rfl bD rfl rfl rfl rfl rfl rfl rfl underlying22 underlying22 (Ah type28) (Ct type28) (AM type28) rfl (by decide) (by decide) (a6.mono ((((((av.trans aC).trans aB).trans aD).trans ao).trans az).trans aA)) eO rfl rfl rfl rfl fun cz cA hq cB eQ eR=>?_;refine Aw.leaf (tail:= [11,12,13]) (by decide+kernel) (fun t=>A3 (by decide+kernel) (A3 (by decide+kernel) (A3 (by decide+kernel) BL)) t) ?_;refine JS.part 3 rfl eR fun eS=>?_;refine JS.drop 3 eS rfl fun eT=>?_;refine JS.part 4 rfl eT fun eU=>?_;refine JS.drop 4 eU rfl fun eV=>?_;refine JS.norm (S':= [[(O,.cells #[.slice aE (Z.2.1).length aF,iV Z.2.2.1,.int .u64 ((Z.2.2.2:Nat):Int)] 92 (0,0))],[(W,.cells #[.slice none 0 0,.slice none 0 0] 24 (0,0))],[(U,.cells #[.slice ab (K.1).length ae,.slice ag (K.2.1).length ah] 24 (0,0))],[],[],cr,eN,cy,cB]) rfl eV fun eW=>?_;refine JS.st (v:= .slice cv (aP).length cw) (off:=0) 2 eW (Ah type22) rfl rfl rfl rfl fun eX=>?_;refine JL.fd underlying24 (Ah type22) rfl rfl rfl ?_;refine JS.st (v:= .slice cz (aQ).length cA) (off:=1) 2 eX (Ah type22) rfl rfl rfl rfl fun eY=>?_;obtain⟨eZ,e0,e1⟩:=bs bE;refine JL.go 4 rfl ?_;refine JL.Y rfl (fun ρ h=>Yl.A0 (h _ _ rfl) (h _ _ rfl) e0) ?_;refine JL.go 2 rfl ?_;refine JS.drop 5 eY rfl fun e2=>?_;refine JS.drop 6 e2 rfl fun e3=>?_;obtain rfl:=oi e1;exact JL.kw (bn _ _ (aP,aQ,Z.2.1,Z.2.2.1,Z.2.2.2,eZ) ⟨aG,cv,cw,cy,cz,cA,cB,aE,aF,rfl,rfl,(((((((a4.trans av).trans aC).trans aB).trans aD).trans ao).trans az).trans aA),e3,eL,eQ,bB⟩ aW) rfl
       ·refine Take.lit (pp:=(rL rI)) (jp:=2) [.slice aN (Z.1).length aO] ([Z.1]:List (List Int)) cu rfl rfl rfl rfl underlying22 (Ah type28) (AM type28) (by decide) rfl rfl rfl ⟨⟨_,_,rfl,bA⟩,trivial⟩ fun hr e4 e5 e6=>?_;refine JG.one (i:=4) rfl (by decide+kernel) ?_;refine Take.app (pp:=(rL rI)) (jp:=2) 3 5 e6 rfl bC rfl rfl rfl rfl rfl rfl rfl underlying22 underlying22 (Ah type28) (Ct type28) (AM type28) rfl (by decide) (by decide) (a5.mono ((((((av.trans aC).trans aB).trans aD).trans ao).trans az).trans aA)) ct rfl rfl rfl rfl fun cC cD hu cE e7 e8=>?_;refine JG.fd 10 ht underlying24 (Ah type22) rfl rfl rfl rfl ?_;refine JG.one (i:=9) rfl (by decide+kernel) ?_;refine Take.app (pp:=(rL rI)) (jp:=2) 4 6 e8 rfl bD rfl rfl rfl rfl rfl rfl rfl underlying22 underlying22 (Ah type28) (Ct type28) (AM type28) rfl (by decide) (by decide) (a6.mono ((((((av.trans aC).trans aB).trans aD).trans ao).trans az).trans aA)) e5 rfl rfl rfl rfl fun cF cG hv cH e9 fa=>?_;refine Aw.leaf (tail:= [11,12,13]) (by decide+kernel) (fun t=>A3 (by decide+kernel) (A3 (by decide+kernel) (A3 (by decide+kernel) BL)) t) ?_;refine JS.part 3 rfl fa fun fb=>?_;refine JS.drop 3 fb rfl fun fc=>?_;refine JS.part 4 rfl fc fun fe=>?_;refine JS.drop 4 fe rfl fun ff=>?_;refine JS.norm (S':= [[(O,.cells #[.slice aE (Z.2.1).length aF,iV Z.2.2.1,.int .u64 ((Z.2.2.2:Nat):Int)] 92 (0,0))],[(W,.cells #[.slice none 0 0,.slice none 0 0] 24 (0,0))],[(U,.cells #[.slice ab (K.1).length ae,.slice ag (K.2.1).length ah] 24 (0,0))],[],[],cr,e4,cE,cH]) rfl ff fun fg=>?_;refine JS.st (v:= .slice cC (aP).length cD) (off:=0) 2 fg (Ah type22) rfl rfl rfl rfl fun fh=>?_;refine JL.fd underlying24 (Ah type22) rfl rfl rfl ?_;refine JS.st (v:= .slice cF (aQ).length cG) (off:=1) 2 fh (Ah type22) rfl rfl rfl rfl fun fj=>?_;obtain⟨fk,fm,fo⟩:=bs bE;refine JL.go 4 rfl ?_;refine JL.Y rfl (fun ρ h=>Yl.A0 (h _ _ rfl) (h _ _ rfl) fm) ?_;refine JL.go 2 rfl ?_;refine JS.drop 5 fj rfl fun fp=>?_;refine JS.drop 6 fp rfl fun fq=>?_;obtain rfl:=oi fo;exact JL.kw (bn _ _ (aP,aQ,Z.2.1,Z.2.2.1,Z.2.2.2,fk) ⟨aG,cC,cD,cE,cF,cG,cH,aE,aF,rfl,rfl,(((((((a4.trans av).trans aC).trans aB).trans aD).trans ao).trans az).trans aA),fq,e7,e9,bB⟩ aW) rfl
      ·refine Take.lit (pp:=(rL rI)) (jp:=2) [.slice aN (Z.1).length aO] ([Z.1]:List (List Int)) aX rfl rfl rfl rfl underlying22 (Ah type28) (AM type28) (by decide) rfl rfl rfl ⟨⟨_,_,rfl,bA⟩,trivial⟩ fun hw fs fu fv=>?_;refine JG.one (i:=3) rfl (by decide+kernel) ?_;refine Take.lit (pp:=(rL rI)) (jp:=2) [.slice aw (al.1).length ay] ([al.1]:List (List Int)) fv rfl rfl rfl rfl underlying22 (Ah type28) (AM type28) (by decide) rfl rfl rfl ⟨⟨_,_,rfl,(co.mono ((ao.trans az).trans aA))⟩,trivial⟩ fun hx fw fx fy=>?_;refine JG.one (i:=4) rfl (by decide+kernel) ?_;refine Take.app (pp:=(rL rI)) (jp:=2) 3 6 fy rfl bC rfl rfl rfl rfl rfl rfl rfl underlying22 underlying22 (Ah type28) (Ct type28) (AM type28) rfl (by decide) (by decide) (a5.mono ((((((av.trans aC).trans aB).trans aD).trans ao).trans az).trans aA)) fx rfl rfl rfl rfl fun cI cJ hy cK fz fA=>?_;refine JG.fd 10 ht underlying24 (Ah type22) rfl rfl rfl rfl ?_;refine JG.one (i:=9) rfl (by decide+kernel) ?_;refine Take.app (pp:=(rL rI)) (jp:=2) 4 5 fA rfl bD rfl rfl rfl rfl rfl rfl rfl underlying22 underlying22 (Ah type28) (Ct type28) (AM type28) rfl (by decide) (by decide) (a6.mono ((((((av.trans aC).trans aB).trans aD).trans ao).trans az).trans aA)) fu rfl rfl rfl rfl fun cM cN hz cO fB fC=>?_;refine Aw.leaf (tail:= [11,12,13]) (by decide+kernel) (fun t=>A3 (by decide+kernel) (A3 (by decide+kernel) (A3 (by decide+kernel) BL)) t) ?_;refine JS.part 3 rfl fC fun fD=>?_;refine JS.drop 3 fD rfl fun fE=>?_;refine JS.part 4 rfl fE fun fF=>?_;refine JS.drop 4 fF rfl fun fG=>?_;refine JS.norm (S':= [[(O,.cells #[.slice aE (Z.2.1).length aF,iV Z.2.2.1,.int .u64 ((Z.2.2.2:Nat):Int)] 92 (0,0))],[(W,.cells #[.slice none 0 0,.slice none 0 0] 24 (0,0))],[(U,.cells #[.slice ab (K.1).length ae,.slice ag (K.2.1).length ah] 24 (0,0))],[],[],fs,fw,cK,cO]) rfl fG fun fH=>?_;refine JS.st (v:= .slice cI (aP).length cJ) (off:=0) 2 fH (Ah type22) rfl rfl rfl rfl fun fI=>?_;refine JL.fd underlying24 (Ah type22) rfl rfl rfl ?_;refine JS.st (v:= .slice cM (aQ).length cN) (off:=1) 2 fI (Ah type22) rfl rfl rfl rfl fun fJ=>?_;obtain⟨fK,fL,fM⟩:=bs bE;refine JL.go 4 rfl ?_;refine JL.Y rfl (fun ρ h=>Yl.A0 (h _ _ rfl) (h _ _ rfl) fL) ?_;refine JL.go 2 rfl ?_;refine JS.drop 5 fJ rfl fun fN=>?_;refine JS.drop 6 fN rfl fun fO=>?_;obtain rfl:=oi fM;exact JL.kw (bn _ _ (aP,aQ,Z.2.1,Z.2.2.1,Z.2.2.2,fK) ⟨aG,cI,cJ,cK,cM,cN,cO,aE,aF,rfl,rfl,(((((((a4.trans av).trans aC).trans aB).trans aD).trans ao).trans az).trans aA),fO,fz,fB,bB⟩ aW) rfl
     ·intro fP;refine JL.block ?_;refine JL.wk [(0,.pointer (some ⟨O,0,none⟩)),(4,.pointer (some ⟨W,0,none⟩)),(5,.pointer (some ⟨U,0,none⟩)),(6,iV an.1),(7,iV K.2.2.2.2.2),(8,.slice aw (al.1).length ay),(9,.slice none 0 0),(10,iV bd.1)] rfl ?_;refine JL.Bi eI (fun L s ak=>∃(aH:LH) (aY:Option Addr) (aZ:Nat) (aI:Option Addr) (aJ:Nat),Jn bz H aH [[(O,.cells #[.slice aY (ak.1).length aZ,iV ak.2.1,.int .u64 ((ak.2.2.1:Nat):Int)] 92 (0,0))],[(W,.cells #[.slice none 0 0,.slice none 0 0] 24 (0,0))],[(U,.cells #[.slice ab (K.1).length ae,.slice ag (K.2.1).length ah] 24 (0,0))],ai,aj] [(0,.pointer (some ⟨O,0,none⟩)),(4,.pointer (some ⟨W,0,none⟩)),(5,.pointer (some ⟨U,0,none⟩)),(6,iV an.1),(7,iV K.2.2.2.2.2),(8,.slice aw (al.1).length ay),(9,.slice aI (ak.2.2.2.1).length aJ),(10,iV ak.2.2.2.2)] L s (Aq rI aH aY aZ (ak.1)∧Aq rI aH aI aJ (ak.2.2.2.1))) ⟨bz,cp,cq,none,0,rfl,rfl,(Le.refl _),eH,eF,Aq.nil⟩ ?_;rintro _ _ ak ⟨aH,aY,aZ,aI,aJ,rfl,rfl,cP,cQ,cR,bF⟩ fQ ⟨hA,bG⟩ fR;have cT:=bG;unfold IC at cT;obtain⟨cV,cW,cX⟩:=bs cT;refine JL.go 6 rfl ?_;refine JL.BA [] (fun L s=>∃(bH:LH),Jm aH H bH [[(O,.cells #[.slice aY (ak.1).length aZ,iV ak.2.1,.int .u64 ((ak.2.2.1:Nat):Int)] 92 (0,0))],[(W,.cells #[.slice none 0 0,.slice none 0 0] 24 (0,0))],[(U,.cells #[.slice ab (K.1).length ae,.slice ag (K.2.1).length ah] 24 (0,0))],ai,aj] [(0,.pointer (some ⟨O,0,none⟩)),(4,.pointer (some ⟨W,0,none⟩)),(5,.pointer (some ⟨U,0,none⟩)),(6,iV an.1),(7,iV K.2.2.2.2.2),(8,.slice aw (al.1).length ay),(9,.slice aI (ak.2.2.2.1).length aJ),(10,iV ak.2.2.2.2),(50,.bool cV)] L s) ?_ ?_
      ·rintro _ _ ⟨bH,rfl,rfl,aK,cY⟩;refine JL.done ?_;refine JL.split (t:=cV) rfl (fun bI=>?_) (fun bI=>?_)
       ·have cZ:=cX;rw [if_pos bI] at cZ;obtain⟨fS,fT,fU⟩:=bs cZ;refine JL.go 7 rfl ?_;refine JL.Y rfl (fun ρ h=>Yl.A4 (h _ _ rfl) (h _ _ rfl) fT) ?_;refine JL.Y (v:=iV (max (0) (fS))) rfl (fun ρ h=>Yl.max2 (h _ _ rfl) (h _ _ rfl)) ?_;obtain⟨hB,fV,fW⟩:=bs fU;refine JS.Bv 0 (FX (cR.mono aK) fV) rfl rfl (Ay func41 rfl) cY rfl ?_;rintro _ hC _ bJ ⟨hD,hE,rfl,rfl,fX⟩ fY;obtain⟨fZ,ga,gb⟩:=bs fW;refine JL.go 6 rfl ?_;refine JS.Bv 0 (I5 fX ga) rfl rfl (Ay func97 rfl) fY rfl ?_;rintro _ c0 _ bK ⟨gc,gd,rfl,rfl,c1⟩ c3;obtain⟨am,c4,ge⟩:=bs gb;refine JL.done ?_;refine JL.join (fun L s=>∃(a0:LH) (aR:Option Addr) (aS:Nat),Jn c0 H a0 [[(O,.cells #[.slice aR (am.2.1).length aS,iV am.2.2.1,.int .u64 ((am.2.2.2:Nat):Int)] 92 (0,0))],[(W,.cells #[.slice none 0 0,.slice none 0 0] 24 (0,0))],[(U,.cells #[.slice ab (K.1).length ae,.slice ag (K.2.1).length ah] 24 (0,0))],ai,aj] [(0,.pointer (some ⟨O,0,none⟩)),(4,.pointer (some ⟨W,0,none⟩)),(5,.pointer (some ⟨U,0,none⟩)),(6,iV an.1),(7,iV K.2.2.2.2.2),(8,.slice aw (al.1).length ay),(9,.slice aI (ak.2.2.2.1).length aJ),(10,iV ak.2.2.2.2),(11,iV am.1)] L s (Aq rI a0 aR aS (am.2.1))) ?_ ?_
        ·rintro _ _ ⟨a0,aR,aS,rfl,rfl,bL,c5,gf⟩;obtain⟨bM,c6,gg⟩:=bs ge;refine JL.go 6 rfl ?_;refine JL.join (fun L s=>∃(bf:LH) (bg:Option Addr) (bh:Nat),Jn a0 H bf [[(O,.cells #[.slice aR (am.2.1).length aS,iV am.2.2.1,.int .u64 ((am.2.2.2:Nat):Int)] 92 (0,0))],[(W,.cells #[.slice none 0 0,.slice none 0 0] 24 (0,0))],[(U,.cells #[.slice ab (K.1).length ae,.slice ag (K.2.1).length ah] 24 (0,0))],ai,aj] [(0,.pointer (some ⟨O,0,none⟩)),(4,.pointer (some ⟨W,0,none⟩)),(5,.pointer (some ⟨U,0,none⟩)),(6,iV an.1),(7,iV K.2.2.2.2.2),(8,.slice aw (al.1).length ay),(9,.slice bg (bM).length bh),(10,iV ak.2.2.2.2)] L s (Aq rI bf bg bh (bM))) ?_ ?_
         ·rintro _ _ ⟨bf,bg,bh,rfl,rfl,c7,gh,gi⟩;obtain⟨gj,gk,gl⟩:=bs gg;refine JL.go 3 rfl ?_;refine JL.Y rfl (fun ρ h=>Yl.A4 (h _ _ rfl) (h _ _ rfl) gk) ?_;refine JL.go 2 rfl ?_;obtain rfl:=oi gl;exact JL.kw (fR _ _ (am.2.1,am.2.2.1,am.2.2.2,bM,gj) ⟨bf,aR,aS,bg,bh,rfl,rfl,(((((cP.trans aK).trans bJ).trans bK).trans bL).trans c7),gh,(gf.mono c7),gi⟩ bG) rfl
         ·intro c8;refine JL.ifs (p:=am.1≠K.2.2.2.2.2) rfl (fun bN=>?_) (fun bN=>?_)
          ·have c9:=c6;rw [if_pos bN] at c9;obtain⟨hF,gm,gn⟩:=bs c9;refine JL.go 3 rfl ?_;refine JS.cl (ND (bF.mono (((aK.trans bJ).trans bK).trans bL)) gm) rfl rfl (Ay func98 rfl) c5 ?_;rintro _ gp _ gq ⟨gr,gt,rfl,rfl,gu⟩ gv;refine JS.norm (S':= [[(O,.cells #[.slice aR (am.2.1).length aS,iV am.2.2.1,.int .u64 ((am.2.2.2:Nat):Int)] 92 (0,0))],[(W,.cells #[.slice none 0 0,.slice none 0 0] 24 (0,0))],[(U,.cells #[.slice ab (K.1).length ae,.slice ag (K.2.1).length ah] 24 (0,0))],ai,aj,[]]) rfl gv fun gw=>?_;refine JL.go 2 rfl ?_;obtain rfl:=oi gn;exact JL.kw (c8 _ _ ⟨gp,gr,gt,rfl,rfl,gq,gw,gu⟩) rfl
          ·have da:=c6;rw [if_neg bN] at da;refine JL.skip ?_;obtain rfl:=oi da;exact JL.kw (c8 _ _ ⟨a0,aI,aJ,rfl,rfl,(Le.refl _),c5,(bF.mono (((aK.trans bJ).trans bK).trans bL))⟩) rfl
        ·intro db;refine JL.split (t:=fZ.1) rfl (fun bO=>?_) (fun bO=>?_)
         ·have dc:=c4;rw [if_pos bO] at dc;obtain⟨hG,gx,gy⟩:=bs dc;refine JL.go 3 rfl ?_;refine JL.Y rfl (fun ρ h=>Yl.A4 (h _ _ rfl) (h _ _ rfl) gx) ?_;obtain⟨bP,gz,gA⟩:=bs gy;refine JS.Bv 0 (FX c1 gz) rfl rfl (Ay func41 rfl) c3 rfl ?_;rintro _ gB _ gC ⟨dd,de,rfl,rfl,gD⟩ gE;refine JS.norm (S':= [[(O,.cells #[.slice dd (bP.2.1).length de,iV bP.2.2.1,.int .u64 ((bP.2.2.2:Nat):Int)] 92 (0,0))],[(W,.cells #[.slice none 0 0,.slice none 0 0] 24 (0,0))],[(U,.cells #[.slice ab (K.1).length ae,.slice ag (K.2.1).length ah] 24 (0,0))],ai,aj]) rfl gE fun gF=>?_;refine JL.go 2 rfl ?_;obtain rfl:=oi gA;exact JL.kw (db _ _ ⟨gB,dd,de,rfl,rfl,gC,gF,gD⟩) rfl
         ·have df:=c4;rw [if_neg (by rw [bO];exact Bool.false_ne_true)] at df;refine JL.skip ?_;obtain rfl:=oi df;exact JL.kw (db _ _ ⟨c0,gc,gd,rfl,rfl,(Le.refl _),c3,c1⟩) rfl
       ·have dg:=cX;rw [if_neg (by rw [bI];exact Bool.false_ne_true)] at dg;refine JL.exit rfl ?_;obtain rfl:=oi dg;obtain rfl:=fQ _ bG;exact JL.kw (fP _ _ ⟨bH,aI,aJ,aY,aZ,rfl,rfl,(cP.trans aK),cY,(bF.mono aK),(cR.mono aK)⟩) rfl
      ·intro dh;refine JL.B5 (q:=0<ak.2.2.2.2) (i:=47) rfl (fun bQ=>?_) (fun bQ=>?_)
       ·have di:=cW;rw [if_pos bQ] at di;refine JL.go 3 rfl ?_;obtain rfl:=oi di;exact JL.kw (dh _ _ ⟨aH,rfl,rfl,(Le.refl _),cQ⟩) rfl
       ·have dj:=cW;rw [if_neg bQ] at dj;refine JL.go 3 rfl ?_;obtain rfl:=oi dj;exact JL.kw (dh _ _ ⟨aH,rfl,rfl,(Le.refl _),cQ⟩) rfl
    ·intro dk;refine JL.split (t:=bb.1) rfl (fun bR=>?_) (fun bR=>?_)
     ·have dl:=cn;rw [if_pos bR] at dl;obtain⟨hH,gG,gH⟩:=bs dl;refine JL.go 3 rfl ?_;refine JL.Y rfl (fun ρ h=>Yl.A4 (h _ _ rfl) (h _ _ rfl) gG) ?_;obtain⟨a1,gI,gJ⟩:=bs gH;refine JS.Bv 0 (FX ck gI) rfl rfl (Ay func41 rfl) cm rfl ?_;rintro _ hI _ gK ⟨dm,dn,rfl,rfl,gL⟩ gM;refine JS.lit (pp:=rI) [iV a1.1] [a1.1] rfl rfl rfl underlying28 (Ah type3) (AM type3) (by decide) rfl rfl rfl ⟨rfl,trivial⟩ gM fun gN hJ gO gP=>?_;refine JL.go 2 rfl ?_;refine JS.BC 5 gO gP rfl fun gQ dp gR gS=>?_;refine JS.norm (S':= [[(O,.cells #[.slice dm (a1.2.1).length dn,iV a1.2.2.1,.int .u64 ((a1.2.2.2:Nat):Int)] 92 (0,0))],[(W,.cells #[.slice none 0 0,.slice none 0 0] 24 (0,0))],[(U,.cells #[.slice ab (K.1).length ae,.slice ag (K.2.1).length ah] 24 (0,0))],ai,aj,[]]) rfl gS fun gT=>?_;obtain rfl:=oi gJ;exact JL.kw (dk _ _ ⟨gQ,(some ⟨gN,0,none⟩),1,dm,dn,rfl,rfl,(gK.trans dp),gT,gR,(gL.mono dp)⟩) rfl
     ·have dq:=cn;rw [if_neg (by rw [bR];exact Bool.false_ne_true)] at dq;refine JL.skip ?_;obtain rfl:=oi dq;exact JL.kw (dk _ _ ⟨cf,a9,ba,cg,ci,rfl,rfl,(Le.refl _),cm,(ep.mono aB),ck⟩) rfl
   ·intro dr;refine JL.split (t:=a7.1) rfl (fun bS=>?_) (fun bS=>?_)
    ·have dt:=ce;rw [if_pos bS] at dt;obtain⟨hK,gU,gV⟩:=bs dt;refine JL.go 5 rfl ?_;refine JL.Y rfl (fun ρ h=>Yl.A4 (h _ _ rfl) (h _ _ rfl) gU) ?_;obtain⟨bT,gW,gX⟩:=bs gV;refine JS.Bv 0 (Kr cc gW) rfl rfl (Ay func96 rfl) cd rfl ?_;rintro _ hL _ du ⟨dv,dw,rfl,rfl,gY⟩ gZ;refine JS.norm (S':= [[(O,.cells #[.slice dv (bT.2.1).length dw,iV bT.2.2.1,.int .u64 ((bT.2.2.2:Nat):Int)] 92 (0,0))],[(W,.cells #[.slice none 0 0,.slice none 0 0] 24 (0,0))],[(U,.cells #[.slice ab (K.1).length ae,.slice ag (K.2.1).length ah] 24 (0,0))],ai,aj,eh]) rfl gZ fun g0=>?_;refine JS.BC 5 (b9.mono (av.trans du)) g0 rfl fun hM dx g1 g2=>?_;obtain⟨hN,g3,g4⟩:=bs gX;refine JS.cl (ND g1 g3) rfl rfl (Ay func98 rfl) g2 ?_;rintro _ g5 _ dy ⟨g6,g7,rfl,rfl,g8⟩ g9;refine JL.go 2 rfl ?_;obtain rfl:=oi g4;exact JL.kw (dr _ _ ⟨g5,g6,g7,dv,dw,rfl,rfl,((du.trans dx).trans dy),g9,g8,(gY.mono (dx.trans dy))⟩) rfl
    ·have dz:=ce;rw [if_neg (by rw [bS];exact Bool.false_ne_true)] at dz;refine JL.skip ?_;refine JS.BC 5 (b9.mono av) cd rfl fun ha dA hb hc=>?_;refine JS.norm (S':= [[(O,.cells #[.slice ca (a7.2.1).length cb,iV a7.2.2.1,.int .u64 ((a7.2.2.2:Nat):Int)] 92 (0,0))],[(W,.cells #[.slice none 0 0,.slice none 0 0] 24 (0,0))],[(U,.cells #[.slice ab (K.1).length ae,.slice ag (K.2.1).length ah] 24 (0,0))],ai,aj,[]]) rfl hc fun hd=>?_;obtain rfl:=oi dz;exact JL.kw (dr _ _ ⟨ha,(some ⟨eg,0,none⟩),1,ca,cb,rfl,rfl,dA,hd,hb,(cc.mono dA)⟩) rfl
  ·have dB:=bo;rw [if_neg bp] at dB;refine JL.exit rfl ?_;obtain rfl:=oi dB;obtain rfl:=eb _ aW;exact JL.kw (ea _ _ ⟨aL,a2,a3,ab,ae,ai,ag,ah,aj,rfl,rfl,a4,b6,b7,a5,a6⟩) rfl
def IT(fuel:Nat)(p1:(List (List Int))×(List (List Int)))(U:Int×((List Int)×Int×Nat))(K:(List Int)×Int×Nat×Int×Int):Option (AV ((List Int)×Int×Nat×Int×Int) (Int×(List Int)×Int×Nat)):=
 if K.2.2.2.2<U.1 then(
  (ix p1.1 (K.2.2.2.1)).bind fun W=>
  (f99 fuel (K.1,K.2.1,K.2.2.1) W).bind fun O=>
  (Av (K.2.2.2.2+1)).bind fun Z=>
  some (.more (O.2.1,O.2.2.1,O.2.2.2,O.1,Z))
 ) else(
  some (.done (K.2.2.2.1,K.1,K.2.1,K.2.2.1))
 )
def IE(fuel:Nat)(p1:(List (List Int))×(List (List Int)))(p2:Int)(K:(List Int)×Int×Nat×Int×(List Int)×Int):Option (AV ((List Int)×Int×Nat×Int×(List Int)×Int) ((List Int)×(List Int)×Int×Nat)):=
 if K.2.2.2.2.2<p2 then(
  (room K.2.2.2.2.1 K.2.2.2.1).bind fun U=>
  (ix p1.1 (K.2.2.2.1)).bind fun W=>
  (f99 fuel (K.1,K.2.1,K.2.2.1) W).bind fun O=>
  (Av (K.2.2.2.2.2+1)).bind fun Z=>
  some (.more (O.2.1,O.2.2.1,O.2.2.2,O.1,U,Z))
 ) else(
  some (.done (K.2.2.2.2.1,K.1,K.2.1,K.2.2.1))
 )
def f45(fuel:Nat)(p0:(List Int)×Int×Nat)(p1:(List (List Int))×(List (List Int)))(p2:Int):Option (Int×(List Int)×((List Int)×Int×Nat)):=
 (f41 fuel p0 6).bind fun K=>
 Option.bind (iter (IT fuel p1 K) fuel (K.2.1,K.2.2.1,K.2.2.2,0,0)) fun O=>
 Option.bind (iter (IE fuel p1 p2) fuel (O.2.1,O.2.2.1,O.2.2.2,O.1,[],0)) fun U=>
 some (K.1,U.1,U.2)
theorem SP{K:Nat}{aV:Option Addr}{c2:Nat}{aq:Option Addr}{ar:Nat}{au:Option Addr}{av:Nat}{p0:(List Int)×Int×Nat}{p1:(List (List Int))×(List (List Int))}{p2:Int}(bh:Aq rI E aV c2 (p0.1))(aW:Aq (rL rI) E aq ar (p1.1))(cC:Aq (rL rI) E au av (p1.2)){fuel:Nat}{r:Int×(List Int)×((List Int)×Int×Nat)}(aX:f45 fuel p0 p1 p2=some r):Au J 45 [.pointer (some ⟨K,0,none⟩),.agg #[.slice aq (p1.1).length ar,.slice au (p1.2).length av],iV p2] E [(K,.cells #[.slice aV (p0.1).length c2,iV p0.2.1,.int .u64 ((p0.2.2:Nat):Int)] 92 (0,0))] (fun w E' B'=>∃(aY:Option Addr) (aZ:Nat) (a0:Option Addr) (a1:Nat),w= .tuple #[iV r.1,.slice aY (r.2.1).length aZ]∧B'= [(K,.cells #[.slice a0 (r.2.2.1).length a1,iV r.2.2.2.1,.int .u64 ((r.2.2.2.2:Nat):Int)] 92 (0,0))]∧Aq rI E' aY aZ (r.2.1)∧Aq rI E' a0 a1 (r.2.2.1)):=by
 refine Au.en func45 rfl rfl fun Q cD cs H bi bj=>?_;unfold f45 at aX;refine JL.go 2 rfl ?_;refine JS.box (v:= .agg #[.slice aq (p1.1).length ar,.slice au (p1.2).length av]) rfl rfl rfl bi rfl fun ab bk=>?_;refine JS.Bf 1 bk rfl fun bl aw ay bm=>?_;replace ay:At bl ab 0 [.slice aq (p1.1).length ar,.slice au (p1.2).length av]:=ay;obtain⟨Z,bn,bo⟩:=bs aX;refine JL.go 6 rfl ?_;refine JS.Bv 0 (FX (bh.mono aw) bn) rfl rfl (Ay func41 rfl) bm rfl ?_;rintro _ aK _ ai ⟨bp,bq,rfl,rfl,br⟩ bu;obtain⟨ae,bv,bw⟩:=bs bo;refine JL.go 8 rfl ?_;refine JL.join (fun L s=>∃(ag:LH) (az:Option Addr) (aA:Nat),Jn aK H ag [[(K,.cells #[.slice az (ae.2.1).length aA,iV ae.2.2.1,.int .u64 ((ae.2.2.2:Nat):Int)] 92 (0,0))]] [(0,.pointer (some ⟨K,0,none⟩)),(2,iV p2),(4,.pointer (some ⟨ab,0,none⟩)),(8,iV Z.1),(9,iV ae.1)] L s (Aq rI ag az aA (ae.2.1))) ?_ ?_
 ·rintro _ _ ⟨ag,az,aA,rfl,rfl,aL,bx,bz⟩;obtain⟨U,bA,bB⟩:=bs bw;refine JL.go 9 rfl ?_;refine JL.join (fun L s=>∃(aB:LH) (aC:Option Addr) (aD:Nat) (aM:Seg) (aj:Option Addr) (ak:Nat),Jn ag H aB [[(K,.cells #[.slice aj (U.2.1).length ak,iV U.2.2.1,.int .u64 ((U.2.2.2:Nat):Int)] 92 (0,0))],aM] [(8,iV Z.1),(11,.slice aC (U.1).length aD)] L s (OL 3 rI aB aC aD aM (U.1)∧Aq rI aB aj ak (U.2.1))) ?_ ?_
  ·rintro _ _ ⟨aB,aC,aD,aM,aj,ak,rfl,rfl,bC,bD,bE,bF⟩;refine JL.go 7 rfl ?_;refine JS.BC 1 bE bD rfl fun cE a2 bG bH=>?_;refine JS.norm (S':= [[(K,.cells #[.slice aj (U.2.1).length ak,iV U.2.2.1,.int .u64 ((U.2.2.2:Nat):Int)] 92 (0,0))],[]]) rfl bH fun bI=>?_;obtain rfl:=oi bB;refine JL.rt func45 rfl rfl ?_;exact bj _ _ _ _ ((((aw.trans ai).trans aL).trans bC).trans a2) rfl ⟨aC,aD,aj,ak,rfl,rfl,bG,(bF.mono a2)⟩ bI
  ·intro bJ;refine JL.block ?_;refine JL.wk [(0,.pointer (some ⟨K,0,none⟩)),(2,iV p2),(4,.pointer (some ⟨ab,0,none⟩)),(8,iV Z.1),(9,iV ae.1),(11,.slice none 0 0),(12,iV 0)] rfl ?_;refine JL.Bi bA (fun L s O=>∃(ah:LH) (al:Option Addr) (am:Nat) (an:Option Addr) (ao:Nat) (aE:Seg),Jn ag H ah [[(K,.cells #[.slice al (O.1).length am,iV O.2.1,.int .u64 ((O.2.2.1:Nat):Int)] 92 (0,0))],aE] [(0,.pointer (some ⟨K,0,none⟩)),(2,iV p2),(4,.pointer (some ⟨ab,0,none⟩)),(8,iV Z.1),(9,iV O.2.2.2.1),(11,.slice an (O.2.2.2.2.1).length ao),(12,iV O.2.2.2.2.2)] L s (Aq rI ah al am (O.1)∧OL 3 rI ah an ao aE (O.2.2.2.2.1))) ⟨ag,az,aA,none,0,[],rfl,rfl,(Le.refl _),bx,bz,OL.nil⟩ ?_;rintro _ _ O ⟨ah,al,am,an,ao,aE,rfl,rfl,aF,a3,a4,a5⟩ bK ⟨cF,aN⟩ bL;have aO:=aN;unfold IE at aO;refine JL.go 7 rfl ?_;refine JL.ifs (p:=O.2.2.2.2.2<p2) rfl (fun aP=>?_) (fun aP=>?_)
   ·have a6:=aO;rw [if_pos aP] at a6;obtain⟨bM,bN,bO⟩:=bs a6;refine JL.go 7 rfl ?_;refine JS.app (pp:=rI) (v:=iV O.2.2.2.1) (a:=an) (c:=ao) 1 bN rfl rfl rfl rfl (fun _=>rfl) rfl (fun _=>rfl) rfl rfl rfl underlying28 underlying28 underlying28 (Ah type3) (Ct type3) (AM type3) rfl (by decide) (by decide) (by decide) (by decide) a5 rfl a3 rfl fun cG bP bQ a7 bR bS=>?_;refine JS.norm (S':= [[(K,.cells #[.slice al (O.1).length am,iV O.2.1,.int .u64 ((O.2.2.1:Nat):Int)] 92 (0,0))],a7]) rfl bS fun bT=>?_;refine JL.go 4 rfl ?_;refine JL.fd underlying24 (Ah type22) rfl rfl rfl ?_;refine JL.ld 0 (ay.mono ((ai.trans aL).trans aF)) (Ao underlying22) rfl rfl rfl ?_;obtain⟨bU,bV,bW⟩:=bs bO;refine JL.go 1 rfl ?_;refine JS.BI (aW.mono (((aw.trans ai).trans aL).trans aF)) bV rfl rfl rfl rfl rfl underlying22 (Ah type28) ?_;rintro bX bY _ ⟨bZ,b0,rfl,b1⟩ aQ;replace aQ:At ah bX bY [.slice bZ (bU).length b0]:=aQ;refine JL.ld 0 aQ (Ao underlying28) rfl rfl rfl ?_;obtain⟨aG,b2,b3⟩:=bs bW;refine JS.Bv 0 (I2 a4 b1 b2) rfl rfl (Ay func99 rfl) bT rfl ?_;rintro _ b4 _ a8 ⟨b5,b6,rfl,rfl,b7⟩ b8;obtain⟨b9,ca,cb⟩:=bs b3;refine JL.go 5 rfl ?_;refine JL.Y rfl (fun ρ h=>Yl.A0 (h _ _ rfl) (h _ _ rfl) ca) ?_;refine JL.go 2 rfl ?_;obtain rfl:=oi cb;exact JL.kw (bL _ _ (aG.2.1,aG.2.2.1,aG.2.2.2,aG.1,bM,b9) ⟨b4,b5,b6,bP,bQ,a7,rfl,rfl,(aF.trans a8),b8,b7,(bR.mono a8)⟩ aN) rfl
   ·have a9:=aO;rw [if_neg aP] at a9;refine JL.exit rfl ?_;obtain rfl:=oi a9;obtain rfl:=bK _ aN;exact JL.kw (bJ _ _ ⟨ah,an,ao,aE,al,am,rfl,rfl,aF,a3,a5,a4⟩) rfl
 ·intro cc;refine JL.block ?_;refine JL.wk [(0,.pointer (some ⟨K,0,none⟩)),(2,iV p2),(4,.pointer (some ⟨ab,0,none⟩)),(8,iV Z.1),(9,iV 0),(10,iV 0)] rfl ?_;refine JL.Bi bv (fun L s W=>∃(ap:LH) (aH:Option Addr) (aI:Nat),Jn aK H ap [[(K,.cells #[.slice aH (W.1).length aI,iV W.2.1,.int .u64 ((W.2.2.1:Nat):Int)] 92 (0,0))]] [(0,.pointer (some ⟨K,0,none⟩)),(2,iV p2),(4,.pointer (some ⟨ab,0,none⟩)),(8,iV Z.1),(9,iV W.2.2.2.1),(10,iV W.2.2.2.2)] L s (Aq rI ap aH aI (W.1))) ⟨aK,bp,bq,rfl,rfl,(Le.refl _),bu,br⟩ ?_;rintro _ _ W ⟨ap,aH,aI,rfl,rfl,aJ,ba,bb⟩ cd ⟨cH,aR⟩ ce;have aS:=aR;unfold IT at aS;refine JL.go 7 rfl ?_;refine JL.ifs (p:=W.2.2.2.2<Z.1) rfl (fun aT=>?_) (fun aT=>?_)
  ·have bc:=aS;rw [if_pos aT] at bc;refine JL.go 5 rfl ?_;refine JL.fd underlying24 (Ah type22) rfl rfl rfl ?_;refine JL.ld 0 (ay.mono (ai.trans aJ)) (Ao underlying22) rfl rfl rfl ?_;obtain⟨cf,cg,ci⟩:=bs bc;refine JL.go 1 rfl ?_;refine JS.BI (aW.mono ((aw.trans ai).trans aJ)) cg rfl rfl rfl rfl rfl underlying22 (Ah type28) ?_;rintro ck cm _ ⟨cn,co,rfl,cp⟩ aU;replace aU:At ap ck cm [.slice cn (cf).length co]:=aU;refine JL.ld 0 aU (Ao underlying28) rfl rfl rfl ?_;obtain⟨aa,cq,cr⟩:=bs ci;refine JS.Bv 0 (I2 bb cp cq) rfl rfl (Ay func99 rfl) ba rfl ?_;rintro _ ct _ cu ⟨bd,bf,rfl,rfl,cv⟩ cw;refine JS.norm (S':= [[(K,.cells #[.slice bd (aa.2.1).length bf,iV aa.2.2.1,.int .u64 ((aa.2.2.2:Nat):Int)] 92 (0,0))]]) rfl cw fun cy=>?_;obtain⟨cz,cA,cB⟩:=bs cr;refine JL.go 5 rfl ?_;refine JL.Y rfl (fun ρ h=>Yl.A0 (h _ _ rfl) (h _ _ rfl) cA) ?_;refine JL.go 2 rfl ?_;obtain rfl:=oi cB;exact JL.kw (ce _ _ (aa.2.1,aa.2.2.1,aa.2.2.2,aa.1,cz) ⟨ct,bd,bf,rfl,rfl,(aJ.trans cu),cy,cv⟩ aR) rfl
  ·have bg:=aS;rw [if_neg aT] at bg;refine JL.exit rfl ?_;obtain rfl:=oi bg;obtain rfl:=cd _ aR;exact JL.kw (cc _ _ ⟨ap,aH,aI,rfl,rfl,aJ,ba,bb⟩) rfl
def J8(fuel:Nat)(p1:(List (List Int))×(List (List Int)))(p2:List Int)(p4:Bool)(K:(List Int)×Int×Nat×(List (Int×Int))×Int×Int):Option (AV ((List Int)×Int×Nat×(List (Int×Int))×Int×Int) ((List (Int×Int))×(List Int)×Int×Nat)):=
 if 0<K.2.2.2.2.2 then(
  (Av (((p2).length:Int) - 1)).bind fun ab=>
  (Av (K.2.2.2.2.1+2)).bind fun ae=>
  (f96 fuel (K.1,K.2.1,K.2.2.1) K.2.2.2.2.1 (min (ab) (ae))).bind fun O=>
  (ix p2 (O.1)).bind fun ag=>
  (ix p2 (O.1)).bind fun ah=>
  (ix p1.2 (ah)).bind fun aa=>
  Option.bind (
   if p4=true then(
    some (decide (0<((aa).length:Int)))
   ) else(
    some false
   )
  ) fun ai=>
  Option.bind (
   if ai=true then(
    (f97 fuel O.2 2).bind fun aj=>
    some aj
   ) else(
    some (false,O.2.1,O.2.2.1,O.2.2.2)
   )
  ) fun U=>
  Option.bind (
   if U.1=true then(
    (f99 fuel U.2 aa).bind fun W=>
    some (W.2.1,W.2.2.1,W.2.2.2,W.1)
   ) else(
    some (U.2.1,U.2.2.1,U.2.2.2,ag)
   )
  ) fun Z=>
  (room K.2.2.2.1 (O.1,Z.2.2.2)).bind fun ak=>
  (Av (K.2.2.2.2.2 - 1)).bind fun al=>
  some (.more (Z.1,Z.2.1,Z.2.2.1,ak,O.1,al))
 ) else(
  some (.done (K.2.2.2.1,K.1,K.2.1,K.2.2.1))
 )
def f46(fuel:Nat)(p0:(List Int)×Int×Nat)(p1:(List (List Int))×(List (List Int)))(p2:List Int)(p3:Int)(p4:Bool):Option ((List (Int×Int))×((List Int)×Int×Nat)):=
 (f41 fuel p0 p3).bind fun K=>
 Option.bind (iter (J8 fuel p1 p2 p4) fuel (K.2.1,K.2.2.1,K.2.2.2,[],0,K.1)) fun O=>
 some O
theorem SE{O:Nat}{a8:Option Addr}{c2:Nat}{aC:Option Addr}{aD:Nat}{aE:Option Addr}{aF:Nat}{ah:Option Addr}{ai:Nat}{p0:(List Int)×Int×Nat}{p1:(List (List Int))×(List (List Int))}{p2:List Int}{p3:Int}{p4:Bool}(bN:Aq rI E a8 c2 (p0.1))(de:Aq (rL rI) E aC aD (p1.1))(bO:Aq (rL rI) E aE aF (p1.2))(a9:Aq rI E ah ai (p2)){fuel:Nat}{r:(List (Int×Int))×((List Int)×Int×Nat)}(ba:f46 fuel p0 p1 p2 p3 p4=some r):Au J 46 [.pointer (some ⟨O,0,none⟩),.agg #[.slice aC (p1.1).length aD,.slice aE (p1.2).length aF],.slice ah (p2).length ai,iV p3,.bool p4] E [(O,.cells #[.slice a8 (p0.1).length c2,iV p0.2.1,.int .u64 ((p0.2.2:Nat):Int)] 92 (0,0))] (fun w E' B'=>∃(bb:Option Addr) (bc:Nat) (g0:Seg) (bd:Option Addr) (bf:Nat),w= .slice bb (r.1).length bc∧B'= [(O,.cells #[.slice bd (r.2.1).length bf,iV r.2.2.1,.int .u64 ((r.2.2.2:Nat):Int)] 92 (0,0))]++g0∧OL 27 (rP rI rI) E' bb bc g0 (r.1)∧Aq rI E' bd bf (r.2.1)):=by
 refine Au.en func46 rfl rfl fun Q df cs H bP bQ=>?_;unfold f46 at ba;refine JL.go 2 rfl ?_;refine JS.box (v:= .agg #[.slice aC (p1.1).length aD,.slice aE (p1.2).length aF]) rfl rfl rfl bP rfl fun ak bR=>?_;refine JS.Bf 1 bR rfl fun bS ap aQ bT=>?_;replace aQ:At bS ak 0 [.slice aC (p1.1).length aD,.slice aE (p1.2).length aF]:=aQ;obtain⟨bU,bV,bW⟩:=bs ba;refine JL.go 15 rfl ?_;refine JS.Bv 0 (FX (bN.mono ap) bV) rfl rfl (Ay func41 rfl) bT rfl ?_;rintro _ aR _ aq ⟨bX,bY,rfl,rfl,bZ⟩ b0;obtain⟨aa,b1,b2⟩:=bs bW;refine JL.go 2 rfl ?_;refine JL.join (fun L s=>∃(aG:LH) (aH:Option Addr) (aI:Nat) (ar:Seg) (au:Option Addr) (av:Nat),Jn aR H aG [[(O,.cells #[.slice au (aa.2.1).length av,iV aa.2.2.1,.int .u64 ((aa.2.2.2:Nat):Int)] 92 (0,0))],ar] [(11,.slice aH (aa.1).length aI)] L s (OL 27 (rP rI rI) aG aH aI ar (aa.1)∧Aq rI aG au av (aa.2.1))) ?_ ?_
 ·rintro _ _ ⟨aG,aH,aI,ar,au,av,rfl,rfl,b3,b4,b5,b6⟩;refine JL.go 5 rfl ?_;refine JS.norm (S':= [[(O,.cells #[.slice au (aa.2.1).length av,iV aa.2.2.1,.int .u64 ((aa.2.2.2:Nat):Int)] 92 (0,0))],ar]) rfl b4 fun b7=>?_;obtain rfl:=oi b2;refine JL.rt func46 rfl rfl ?_;exact bQ _ _ _ _ ((ap.trans aq).trans b3) rfl ⟨aH,aI,ar,au,av,rfl,(by first | rfl | simp | (simp [Value.cells])),b5,b6⟩ b7
 ·intro b8;refine JL.block ?_;refine JL.wk [(0,.pointer (some ⟨O,0,none⟩)),(2,.slice ah (p2).length ai),(4,.bool p4),(6,.pointer (some ⟨ak,0,none⟩)),(11,.slice none 0 0),(12,iV 0),(13,iV bU.1)] rfl ?_;refine JL.Bi b1 (fun L s U=>∃(aw:LH) (aJ:Option Addr) (aK:Nat) (ae:Option Addr) (ag:Nat) (Z:Seg),Jn aR H aw [[(O,.cells #[.slice aJ (U.1).length aK,iV U.2.1,.int .u64 ((U.2.2.1:Nat):Int)] 92 (0,0))],Z] [(0,.pointer (some ⟨O,0,none⟩)),(2,.slice ah (p2).length ai),(4,.bool p4),(6,.pointer (some ⟨ak,0,none⟩)),(11,.slice ae (U.2.2.2.1).length ag),(12,iV U.2.2.2.2.1),(13,iV U.2.2.2.2.2)] L s (Aq rI aw aJ aK (U.1)∧OL 27 (rP rI rI) aw ae ag Z (U.2.2.2.1))) ⟨aR,bX,bY,none,0,[],rfl,rfl,(Le.refl _),b0,bZ,OL.nil⟩ ?_;rintro _ _ U ⟨aw,aJ,aK,ae,ag,Z,rfl,rfl,al,bg,bh,bi⟩ b9 ⟨dg,aS⟩ ca;have aT:=aS;unfold J8 at aT;refine JL.go 6 rfl ?_;refine JL.ifs (p:=0<U.2.2.2.2.2) rfl (fun aU=>?_) (fun aU=>?_)
  ·have bj:=aT;rw [if_pos aU] at bj;refine JL.go 8 rfl ?_;refine JL.Y rfl (fun ρ h=>Yl.len rfl underlying28 (h _ _ rfl)) ?_;obtain⟨cb,cc,cd⟩:=bs bj;refine JL.Y rfl (fun ρ h=>Yl.A4 (h _ _ rfl) (h _ _ rfl) cc) ?_;obtain⟨ce,cf,cg⟩:=bs cd;refine JL.go 1 rfl ?_;refine JL.Y rfl (fun ρ h=>Yl.A0 (h _ _ rfl) (h _ _ rfl) cf) ?_;refine JL.Y (v:=iV (min (cb) (ce))) rfl (fun ρ h=>Yl.min2 (h _ _ rfl) (h _ _ rfl)) ?_;obtain⟨K,ci,ck⟩:=bs cg;refine JS.Bv 0 (Kr bh ci) rfl rfl (Ay func96 rfl) bg rfl ?_;rintro _ am _ an ⟨aV,aW,rfl,rfl,bk⟩ cm;refine JS.norm (S':= [[(O,.cells #[.slice aV (K.2.1).length aW,iV K.2.2.1,.int .u64 ((K.2.2.2:Nat):Int)] 92 (0,0))],Z]) rfl cm fun cn=>?_;obtain⟨aj,co,cp⟩:=bs ck;refine JL.go 7 rfl ?_;refine JS.BI (a9.mono (((ap.trans aq).trans al).trans an)) co rfl rfl rfl rfl rfl underlying28 (Ah type3) ?_;rintro cq cr _ rfl aX;replace aX:At am cq cr [iV aj]:=aX;refine JL.ld 0 aX (Ao underlying3) rfl rfl rfl ?_;refine JL.Y (v:= .agg #[iV K.1,iV aj]) rfl (fun ρ h=>Yl.BW [(0,1),(1,1)] h (AM type27) underlying27 ⟨rfl,Ah type3,rfl,Ah type3,trivial⟩ rfl rfl) ?_;refine JS.alloc rfl rfl rfl cn (AM type27) fun ab ct=>?_;refine JS.st (v:= .agg #[iV K.1,iV aj]) (off:=0) 2 ct (Ah type27) rfl rfl rfl rfl fun bl=>?_;refine JL.go 3 rfl ?_;refine JG.Di 6 mixed rfl (by decide+kernel) fun ht=>?_;refine JG.fd 0 ht underlying24 (Ah type22) rfl rfl rfl rfl ?_;refine JG.ld 1 ht 1 (aQ.mono ((aq.trans al).trans an)) (Ao underlying22) rfl rfl rfl rfl ?_;refine JG.mv 2 ht rfl rfl ?_;refine JG.mv 3 ht rfl rfl ?_;obtain⟨cu,cv,cw⟩:=bs cp;refine JG.idx 4 (a9.mono (((ap.trans aq).trans al).trans an)) cv rfl ht (by decide+kernel) rfl rfl rfl rfl rfl underlying28 (Ah type3) ?_;rintro cy cz _ rfl aY;replace aY:At am cy cz [iV cu]:=aY;refine JG.ld 5 ht 0 aY (Ao underlying3) rfl rfl rfl rfl ?_;refine Aw.leaf (tail:= [6,7,8]) (by decide+kernel) (fun t=>A3 (by decide+kernel) (A3 (by decide+kernel) (A3 (by decide+kernel) BL)) t) ?_;obtain⟨aZ,cA,cB⟩:=bs cw;refine JS.BI (bO.mono (((ap.trans aq).trans al).trans an)) cA rfl rfl rfl rfl rfl underlying22 (Ah type28) ?_;rintro cC cD _ ⟨a0,a1,rfl,cE⟩ a2;replace a2:At am cC cD [.slice a0 (aZ).length a1]:=a2;refine JL.ld 0 a2 (Ao underlying28) rfl rfl rfl ?_;obtain⟨bm,bn,cF⟩:=bs cB;refine JL.go 6 rfl ?_;refine JL.BA [6,7,8,9] (fun L s=>∃(aL:LH),Jm am H aL [[(O,.cells #[.slice aV (K.2.1).length aW,iV K.2.2.1,.int .u64 ((K.2.2.2:Nat):Int)] 92 (0,0))],Z,[(ab,.cells #[iV K.1,iV aj] 27 (0,0))]] [(0,.pointer (some ⟨O,0,none⟩)),(2,.slice ah (p2).length ai),(4,.bool p4),(6,.pointer (some ⟨ak,0,none⟩)),(11,.slice ae (U.2.2.2.1).length ag),(12,iV K.1),(13,iV U.2.2.2.2.2),(14,.pointer (some ⟨ab,0,none⟩)),(15,.slice a0 (aZ).length a1),(51,.bool bm)] L s) ?_ ?_
   ·rintro _ _ ⟨aL,rfl,rfl,ay,bo⟩;obtain⟨ao,bp,cG⟩:=bs cF;refine JL.go 1 rfl ?_;refine JL.BA [] (fun L s=>∃(az:LH) (aM:Option Addr) (aN:Nat),Jn aL H az [[(O,.cells #[.slice aM (ao.2.1).length aN,iV ao.2.2.1,.int .u64 ((ao.2.2.2:Nat):Int)] 92 (0,0))],Z,[(ab,.cells #[iV K.1,iV aj] 27 (0,0))]] [(0,.pointer (some ⟨O,0,none⟩)),(2,.slice ah (p2).length ai),(4,.bool p4),(6,.pointer (some ⟨ak,0,none⟩)),(11,.slice ae (U.2.2.2.1).length ag),(12,iV K.1),(13,iV U.2.2.2.2.2),(14,.pointer (some ⟨ab,0,none⟩)),(15,.slice a0 (aZ).length a1),(55,.bool ao.1)] L s (Aq rI az aM aN (ao.2.1))) ?_ ?_
    ·rintro _ _ ⟨az,aM,aN,rfl,rfl,a3,bq,br⟩;obtain⟨W,bu,cH⟩:=bs cG;refine JL.done ?_;refine JL.join (fun L s=>∃(aO:LH) (aA:Option Addr) (aB:Nat),Jn az H aO [[(O,.cells #[.slice aA (W.1).length aB,iV W.2.1,.int .u64 ((W.2.2.1:Nat):Int)] 92 (0,0))],Z,[(ab,.cells #[iV K.1,iV W.2.2.2] 27 (0,0))]] [(0,.pointer (some ⟨O,0,none⟩)),(2,.slice ah (p2).length ai),(4,.bool p4),(6,.pointer (some ⟨ak,0,none⟩)),(11,.slice ae (U.2.2.2.1).length ag),(12,iV K.1),(13,iV U.2.2.2.2.2),(14,.pointer (some ⟨ab,0,none⟩))] L s (Aq rI aO aA aB (W.1))) ?_ ?_
     ·rintro _ _ ⟨aO,aA,aB,rfl,rfl,bv,bw,cI⟩;refine JL.go 2 rfl ?_;refine JL.Y rfl (fun ρ h=>Yl.Bj (vs:= [iV K.1,iV W.2.2.2]) (Ao underlying27) (Ah type27) (h _ _ rfl) (Dv (off:=0) 2 bw rfl rfl)) ?_;obtain⟨cJ,cK,cM⟩:=bs cH;refine JS.app (pp:=(rP rI rI)) (v:= .agg #[iV K.1,iV W.2.2.2]) (a:=ae) (c:=ag) 1 cK rfl rfl rfl rfl (fun _=>rfl) rfl (fun _=>rfl) rfl rfl rfl underlying25 underlying25 underlying25 (Ah type27) (Ct type27) (AM type27) rfl (by decide) (by decide) (by decide) (by decide) (bi.mono (((an.trans ay).trans a3).trans bv)) ⟨_,_,rfl,rfl,rfl⟩ bw rfl fun dh cN cO bx cP cQ=>?_;refine JS.norm (S':= [[(O,.cells #[.slice aA (W.1).length aB,iV W.2.1,.int .u64 ((W.2.2.1:Nat):Int)] 92 (0,0))],bx,[(ab,.cells #[iV K.1,iV W.2.2.2] 27 (0,0))]]) rfl cQ fun cR=>?_;obtain⟨cT,cV,cW⟩:=bs cM;refine JL.go 5 rfl ?_;refine JL.Y rfl (fun ρ h=>Yl.A4 (h _ _ rfl) (h _ _ rfl) cV) ?_;refine JL.go 2 rfl ?_;refine JS.drop 2 cR rfl fun cX=>?_;obtain rfl:=oi cW;exact JL.kw (ca _ _ (W.1,W.2.1,W.2.2.1,cJ,K.1,cT) ⟨aO,aA,aB,cN,cO,bx,rfl,rfl,((((al.trans an).trans ay).trans a3).trans bv),cX,cI,cP⟩ aS) rfl
     ·intro bz;refine JL.split (t:=ao.1) rfl (fun a4=>?_) (fun a4=>?_)
      ·have bA:=bu;rw [if_pos a4] at bA;obtain⟨aP,cY,cZ⟩:=bs bA;refine JL.go 3 rfl ?_;refine JS.Bv 0 (I2 br (cE.mono (ay.trans a3)) cY) rfl rfl (Ay func99 rfl) bq rfl ?_;rintro _ c0 _ c1 ⟨bB,bC,rfl,rfl,c3⟩ c4;refine JS.norm (S':= [[(O,.cells #[.slice bB (aP.2.1).length bC,iV aP.2.2.1,.int .u64 ((aP.2.2.2:Nat):Int)] 92 (0,0))],Z,[(ab,.cells #[iV K.1,iV aj] 27 (0,0))]]) rfl c4 fun c5=>?_;refine JL.fd underlying27 (Ah type3) rfl rfl rfl ?_;refine JS.st (v:=iV aP.1) (off:=1) 2 c5 (Ah type3) rfl rfl rfl rfl fun c6=>?_;refine JL.done ?_;obtain rfl:=oi cZ;exact JL.kw (bz _ _ ⟨c0,bB,bC,rfl,rfl,c1,c6,c3⟩) rfl
      ·have bD:=bu;rw [if_neg (by rw [a4];exact Bool.false_ne_true)] at bD;refine JL.skip ?_;obtain rfl:=oi bD;exact JL.kw (bz _ _ ⟨az,aM,aN,rfl,rfl,(Le.refl _),bq,br⟩) rfl
    ·intro bE;refine JL.Cg (c:=bm) (i:=52) rfl (fun a5=>?_) (fun a5=>?_)
     ·have bF:=bp;rw [if_pos a5] at bF;obtain⟨a6,c7,c8⟩:=bs bF;refine JL.go 1 rfl ?_;refine JS.Bv 0 (I5 (bk.mono ay) c7) rfl rfl (Ay func97 rfl) bo rfl ?_;rintro _ c9 _ da ⟨bG,bH,rfl,rfl,db⟩ dc;refine JS.norm (S':= [[(O,.cells #[.slice bG (a6.2.1).length bH,iV a6.2.2.1,.int .u64 ((a6.2.2.2:Nat):Int)] 92 (0,0))],Z,[(ab,.cells #[iV K.1,iV aj] 27 (0,0))]]) rfl dc fun dd=>?_;refine JL.go 1 rfl ?_;obtain rfl:=oi c8;exact JL.kw (bE _ _ ⟨c9,bG,bH,rfl,rfl,da,dd,db⟩) rfl
     ·have bI:=bp;rw [if_neg (by rw [a5];exact Bool.false_ne_true)] at bI;refine JL.go 3 rfl ?_;obtain rfl:=oi bI;exact JL.kw (bE _ _ ⟨aL,aV,aW,rfl,rfl,(Le.refl _),bo,(bk.mono ay)⟩) rfl
   ·intro bJ;refine JL.Cg (c:=p4) (i:=47) rfl (fun a7=>?_) (fun a7=>?_)
    ·have bK:=bn;rw [if_pos a7] at bK;refine JL.go 1 rfl ?_;refine JL.Y rfl (fun ρ h=>Yl.len rfl underlying28 (h _ _ rfl)) ?_;refine JL.go 2 rfl ?_;obtain rfl:=oi bK;exact JL.kw (bJ _ _ ⟨am,rfl,rfl,(Le.refl _),bl⟩) rfl
    ·have bL:=bn;rw [if_neg (by rw [a7];exact Bool.false_ne_true)] at bL;refine JL.go 4 rfl ?_;obtain rfl:=oi bL;exact JL.kw (bJ _ _ ⟨am,rfl,rfl,(Le.refl _),bl⟩) rfl
  ·have bM:=aT;rw [if_neg aU] at bM;refine JL.exit rfl ?_;obtain rfl:=oi bM;obtain rfl:=b9 _ aS;exact JL.kw (b8 _ _ ⟨aw,ae,ag,Z,aJ,aK,rfl,rfl,al,bg,bi,bh⟩) rfl
end Pal
namespace Pal
theorem Ac.upto{S A:Type}{body:S→Option (AV S A)}{Q:A→Prop}{K:S}{F:Nat}(n:Nat)(I:Nat→S→Prop)(W:I 0 K)(aa:n<F)
  (round:∀i s,i<n→I i s→Ac (body s) (AV.sat (I (i+1)) Q)) (last:∀s,I n s→Ac (body s) (fun st=>∃a,st= .done a∧Q a)):Ac (Pal.iter body F K) Q:=by
 refine Ac.iter (fun m s=>∃i,i≤n∧m=n - i∧I i s) ?_ (m:=n - 0) ⟨0,Nat.zero_le _,rfl,W⟩ (by omega);rintro m s ⟨i,hi,rfl,O⟩;rcases Nat.lt_or_ge i n with Z | ab
 ·refine(round i s Z O).mono ?_;intro st U;cases st with
  | more s'=>exact⟨n - (i+1),by omega,i+1,by omega,rfl,U⟩
  | done a=>exact U
 ·obtain rfl:i=n:=by omega
  refine(last s O).mono ?_;rintro st ⟨a,rfl,h⟩;exact h
theorem Ac.C8{α:Type}{o:Option α}{a:α}(h:Ac o (fun x=>x=a)):o=some a:=by obtain⟨x,K,rfl⟩:=h;exact K
theorem GK(F:Nat)(a lo hi:Int):f101 F a lo hi=some (decide (a<lo∨hi<a)):=by
 unfold f101;by_cases h:a<lo
 ·simp [h]
 ·simp [h]
theorem MD(F:Nat){s n:Nat}(hs:s<65536)(W:n≤16):f103 F s (n:Int)=some (s.testBit n):=by
 unfold f103;have K:HR s (n:Int)=some (s>>>n):=by unfold HR;rw [if_pos (by omega)];rfl
 rw [K];simp only [Option.bind_some];have O:s>>>n<65536:=Nat.lt_of_le_of_lt (Nat.shiftRight_le _ _) hs;have U:G3 (s>>>n) 1=some (s>>>n&&& 1):=if_pos ⟨O,by omega⟩;rw [U];simp only [Option.bind_some];rw [Q2]
theorem Ka(F:Nat){s n:Nat}(hs:s<65536)(K:n<16):f90 F s (n:Int)=some (s ||| 1<<<n):=by
 unfold f90;have O:HD (n:Int)=some (1<<<n):=by unfold HD;rw [if_pos (by omega)];rfl
 rw [O];simp only [Option.bind_some];have U:1<<<n<65536:=by rw [Nat.one_shiftLeft];exact Nat.pow_lt_pow_right (by omega) (show n<16 from K)
 have W:Gv s (1<<<n)=some (s ||| 1<<<n):=if_pos ⟨hs,U⟩;rw [W];rfl
theorem I6{a b:Nat}(K:a<65536)(hb:b<65536):a ||| b<65536:=Nat.or_lt_two_pow (n:=16) K hb
theorem Nt{n:Nat}(K:n<16):1<<<n<65536:=by rw [Nat.one_shiftLeft];exact Nat.pow_lt_pow_right (by omega) (show n<16 from K)
def Fz(n:Nat)(l:List Int):Prop:=∀x∈l,0≤x∧x<(n:Int)
def BP(l:List Int):Nat:=l.foldl (fun s x=>s ||| 1<<<x.toNat) 0
theorem OH(l:List Int)(x:Int):BP (l++ [x])=BP l ||| 1<<<x.toNat:=by simp [BP]
theorem Mf{l:List Int}(h:Fz 16 l):BP l<65536:=by
 have key:∀(l:List Int) (s:Nat),s<65536→Fz 16 l→l.foldl (fun s x=>s ||| 1<<<x.toNat) s<65536:=by
  intro l
  induction l with
  | nil=>intro s hs _;exact hs
  | cons x l O=>
   intro s hs K;have W:=K x (by simp);exact O _ (I6 hs (Nt (by omega))) fun y U=>K y (by simp [U])
 exact key l 0 (by omega) h
theorem H7{l:List Int}(h:∀x∈l,0≤x)(n:Nat):(BP l).testBit n=decide ((n:Int)∈l):=by
 have key:∀(l:List Int) (s:Nat),(∀x∈l,0≤x)→(l.foldl (fun s x=>s ||| 1<<<x.toNat) s).testBit n=(s.testBit n || decide ((n:Int)∈l)):=by
  intro l
  induction l with
  | nil=>intro s _;simp
  | cons x l O=>
   intro s K;have W:=K x (by simp);rw [List.foldl_cons,O _ fun y U=>K y (by simp [U]),Nat.testBit_or];have e:(1<<<x.toNat).testBit n=decide ((n:Int)=x):=by
    rw [Nat.one_shiftLeft,Nat.testBit_two_pow];exact decide_eq_decide.2 ⟨fun h=>by omega,fun h=>by omega⟩
   rw [e,Bool.or_assoc];congr 1;simp
 rw [BP,key l 0 h];simp
theorem MO{F:Nat}{l:List Int}(W:100<F)(Z:l.length<100)(h:Fz 16 l):f120 F l=some (BP l):=by
 refine Ac.C8 ?_;unfold f120;refine Ac.b (S:=fun r=>r=BP l) ?_ (by rintro r rfl;exact Ac.intro rfl);refine Ac.upto l.length (fun i s=>s=(BP (l.take i),(i:Int))) (by simp [BP]) (by omega) ?_ ?_
 ·rintro i s hi rfl;unfold IA;refine Ac.pos (by simp;omega) ?_;refine Ac.Bq (m:=i) rfl hi ?_;have aa:=h l[i] (List.getElem_mem hi);have O:l[i]=((l[i].toNat:Nat):Int):=by omega
  have hs:BP (l.take i)<65536:=Mf fun y U=>h y (List.mem_of_mem_take U);have K:=Ka F (n:=l[i].toNat) hs (by omega);rw [← O] at K;refine Ac.be K ?_;refine Ac.AZ ((i+1:Nat):Int) (by simp) (by omega) (by omega) ?_;refine Ac.intro ?_;show _=_;rw [List.take_add_one,List.getElem?_eq_getElem hi];simp only [Option.toList_some];rw [OH]
 ·rintro s rfl;unfold IA;refine Ac.neg (by simp) ?_;exact Ac.intro ⟨_,rfl,by simp⟩
def By(s:Nat)(k:Nat):List Int:=((List.range k).filter (fun n=>s.testBit n)).map (fun(n:Nat)=>(n:Int))
theorem OA(s k:Nat):By s (k+1)=if s.testBit k=true then By s k++ [(k:Int)] else By s k:=by
 unfold By;rw [List.range_succ,List.filter_append];by_cases h:s.testBit k=true
 ·rw [if_pos h];simp [h]
 ·rw [if_neg h];simp [h]
theorem H3(s k:Nat):(By s k).length≤k:=by
 unfold By;rw [List.length_map];exact Nat.le_trans (List.length_filter_le _ _) (by simp)
theorem FH{s k:Nat}{x:Int}:x∈By s k↔∃n:Nat,n<k∧s.testBit n=true∧x=(n:Int):=by
 unfold By;simp only [List.mem_map,List.mem_filter,List.mem_range];exact⟨fun⟨n,⟨K,O⟩,U⟩=>⟨n,K,O,U.symm⟩,fun⟨n,K,O,U⟩=>⟨n,⟨K,O⟩,U.symm⟩⟩
theorem IL{F s:Nat}(K:100<F)(hs:s<65536):f89 F s=some (By s 16):=by
 refine Ac.C8 ?_;unfold f89;refine Ac.b (S:=fun r=>r=By s 16) ?_ (by rintro r rfl;exact Ac.intro rfl);refine Ac.upto 16 (fun i st=>st=(By s i,(i:Int))) rfl (by omega) ?_ ?_
 ·rintro i st hi rfl;unfold ID;refine Ac.pos (by simp only;omega) ?_;refine Ac.be (MD F hs (by omega)) ?_;have hlen:=H3 s i;refine Ac.b (S:=fun r=>r=By s (i+1)) ?_ ?_
  ·rw [OA];refine Ac.ite (fun h=>?_) (fun h=>?_)
   ·rw [if_pos h];exact Ac.IZ (by simp only;omega) (Ac.intro rfl)
   ·rw [if_neg h];exact Ac.intro rfl
  ·rintro r rfl;refine Ac.AZ ((i+1:Nat):Int) (by simp) (by omega) (by omega) ?_;exact Ac.intro rfl
 ·rintro st rfl;unfold ID;exact Ac.neg (by simp) (Ac.intro ⟨_,rfl,rfl⟩)
theorem QA{F:Nat}{l:List Int}{x:Int}(W:100<F)(Z:l.length<100):Ac (f107 F l x) (fun r=>decide (0≤r)=decide (x∈l)):=by
 unfold f107;refine Ac.b (S:=fun q=>match q with | Sum.inl r=>0≤r∧x∈l | Sum.inr _=>x ∉ l) ?_ ?_
 ·refine Ac.upto l.length (fun i s=>s=(i:Int)∧x ∉ l.take i) ⟨rfl,by simp⟩ (by omega) ?_ ?_
  ·rintro i s hi ⟨rfl,K⟩;unfold Il;refine Ac.pos (by omega) ?_;refine Ac.Bq (m:=i) rfl hi ?_;refine Ac.ite (fun h=>?_) (fun h=>?_)
   ·exact Ac.intro ⟨by omega,by rw [← h];exact List.getElem_mem hi⟩
   ·refine Ac.AZ ((i+1:Nat):Int) (by simp) (by omega) (by omega) ?_;refine Ac.intro ⟨rfl,?_⟩;rw [List.take_add_one,List.getElem?_eq_getElem hi];simp only [Option.toList_some,List.mem_append,List.mem_singleton];rintro(O | O)
    ·exact K O
    ·exact h O.symm
  ·rintro s ⟨rfl,K⟩;unfold Il;exact Ac.neg (by omega) (Ac.intro ⟨_,rfl,by simpa using K⟩)
 ·rintro(r | u) U
  ·exact Ac.intro (by rw [decide_eq_true U.1,decide_eq_true U.2])
  ·exact Ac.intro (by rw [decide_eq_false U];rfl)
theorem Sa{F:Nat}{l:List Int}{x:Int}(K:100<F)(O:l.length<100):f53 F l x=some (decide (x∈l)):=by
 refine Ac.C8 ?_;unfold f53;refine Ac.b (QA K O) ?_;intro r U;exact Ac.intro U
end Pal
namespace Pal
abbrev JW:=List (List Int)×List (List Int)
structure VL (n:Nat) (l:List Int):Prop where
 len:l.length≤3
 inr:Fz n l
 G7:l.Pairwise (·<·)
structure VJ (n:Nat) (J:JW):Prop where
 pos:0<n
 le:n≤8
 l1:J.1.length=n
 l2:J.2.length=n
 nx:∀(i:Nat) l,J.1[i]? =some l→VL n l∧0<l.length
 fl:∀(i:Nat) l,J.2[i]? =some l→VL n l∧(i:Int) ∉ l
theorem Ro{l:List Int}(h:l.Pairwise (·<·)){i:Nat}(hi:i<l.length)(K:0<i):¬(l[i]≤l[i - 1]'(by omega)):=by
 have:=List.pairwise_iff_getElem.1 h (i - 1) i (by omega) hi (by omega);omega
theorem Ms{F n:Nat}{J:JW}{m:Nat}{l:List Int}{b:Bool}(O:100<F)(U:J.1.length=n)(W:0<n∧n≤8)(K:VL n l)(hb:b=true∨(m:Int) ∉ l):f136 F J (m:Int) l b=some none:=by
 refine Ac.C8 ?_;unfold f136;have hlen:=K.len;refine Ac.b (S:=fun q=>q=Sum.inr ()) ?_ (by rintro q rfl;exact Ac.intro rfl);refine Ac.upto l.length (fun i s=>s=(i:Int)) rfl (by omega) ?_ ?_
 ·rintro i s hi rfl;unfold Iv;have Z:=K.inr l[i] (List.getElem_mem hi);refine Ac.pos (by omega) ?_;refine Ac.Bq (m:=i) rfl hi ?_;refine Ac.AZ ((n - 1:Nat):Int) (by omega) (by omega) (by omega) ?_;refine Ac.be (GK F _ _ _) ?_;refine Ac.neg (by simp;omega) ?_;refine Ac.b (S:=fun c=>c=false) ?_ ?_
  ·refine Ac.ite (fun h=>?_) (fun h=>Ac.intro rfl);rcases hb with rfl | hb
   ·exact Ac.intro rfl
   ·exact absurd (h▸List.getElem_mem hi) hb
  ·rintro c rfl;refine Ac.neg (by simp) ?_;refine Ac.b (S:=fun c=>c=false) ?_ ?_
   ·refine Ac.ite (fun h=>?_) (fun h=>Ac.intro rfl);refine Ac.AZ ((i - 1:Nat):Int) (by omega) (by omega) (by omega) ?_;refine Ac.Bq (m:=i - 1) rfl (by omega) ?_;exact Ac.intro (decide_eq_false (Ro K.G7 hi (by omega)))
   ·rintro c rfl;refine Ac.neg (by simp) ?_;refine Ac.AZ ((i+1:Nat):Int) (by simp) (by omega) (by omega) ?_;exact Ac.intro rfl
 ·rintro s rfl;unfold Iv;exact Ac.neg (by omega) (Ac.intro ⟨_,rfl,rfl⟩)
theorem Mq{F n:Nat}{J:JW}(U:100<F)(K:VJ n J):f113 F J=some none:=by
 have W:=K.l1;have ae:=K.l2;have Z:=K.pos;have aa:=K.le;refine Ac.C8 ?_;unfold f113;refine Ac.neg (by omega) (Ac.neg (by omega) (Ac.neg (by omega) ?_));refine Ac.b (S:=fun q=>q=Sum.inr ()) ?_ (by rintro q rfl;exact Ac.intro rfl);refine Ac.upto n (fun i s=>s=(i:Int)) rfl (by omega) ?_ ?_
 ·rintro i s hi rfl;unfold Iq;have ab:i<J.1.length:=by omega
  have O:i<J.2.length:=by omega
  obtain⟨v1,v2⟩:=K.nx i _ (List.getElem?_eq_getElem ab);obtain⟨w1,w2⟩:=K.fl i _ (List.getElem?_eq_getElem O);have ag:=v1.len;have ah:=w1.len;refine Ac.pos (by omega) ?_;refine Ac.Bq (m:=i) rfl ab ?_;refine Ac.neg (by omega) (Ac.neg (by omega) ?_);refine Ac.be (Ms U W ⟨Z,aa⟩ v1 (.inl rfl)) ?_;refine Ac.neg (by simp) ?_;refine Ac.Bq (m:=i) rfl O ?_;refine Ac.neg (by omega) ?_;refine Ac.Bq (m:=i) rfl O ?_;refine Ac.be (Ms U W ⟨Z,aa⟩ w1 (.inr w2)) ?_;refine Ac.neg (by simp) ?_;refine Ac.AZ ((i+1:Nat):Int) (by simp) (by omega) (by omega) ?_;exact Ac.intro rfl
 ·rintro s rfl;unfold Iq;exact Ac.neg (by omega) (Ac.intro ⟨_,rfl,rfl⟩)
theorem Lr(F:Nat):GW F none=some 0:=by
 unfold GW f112;have h:∃b,f135 F=some b:=by unfold f135;exact⟨_,rfl⟩
 obtain⟨b,hb⟩:=h;rw [hb];cases b <;> rfl
theorem TJ{F n:Nat}{J:JW}(K:100<F)(O:VJ n J):f67 F J=some 0:=by
 unfold f67;rw [Mq K O];simp only [Option.bind_some];rw [Lr];rfl
def EF(nx:List (List Int))(s:Nat):Nat:=(By s 16).foldl (fun o m=>o ||| BP (nx.getD m.toNat [])) 0
theorem VJ.Fe{n:Nat}{J:JW}(K:VJ n J)(m:Nat):VL n (J.1.getD m []):=by
 rw [List.getD_eq_getElem?_getD];cases h:J.1[m]? with
 | none=>exact⟨by simp,fun x O=>by simp at O,by simp⟩
 | some l=>exact(K.nx m l h).1
theorem Fz.mono{n m:Nat}{l:List Int}(h:Fz n l)(hle:n≤m):Fz m l:=fun x K=>by have:=h x K;omega
theorem Mn{n:Nat}{J:JW}(U:VJ n J)(s k:Nat):(EF J.1 s).testBit k=true↔∃m,m<16∧s.testBit m=true∧(k:Int)∈J.1.getD m []:=by
 have key:∀(l:List Int) (o:Nat),(l.foldl (fun o m=>o ||| BP (J.1.getD m.toNat [])) o).testBit k=true↔o.testBit k=true∨∃m∈l,(k:Int)∈J.1.getD m.toNat []:=by
  intro l
  induction l with
  | nil=>intro o;simp
  | cons x l W=>
   intro o;rw [List.foldl_cons,W,Nat.testBit_or,Bool.or_eq_true,H7 fun y Z=>((U.Fe x.toNat).inr y Z).1,decide_eq_true_eq];simp only [List.mem_cons,exists_eq_or_imp,or_assoc]
 unfold EF;rw [key];simp only [Nat.zero_testBit,Bool.false_eq_true,false_or];constructor
 ·rintro⟨x,aa,ab⟩;obtain⟨m,K,O,rfl⟩:=FH.1 aa;exact⟨m,K,O,ab⟩
 ·rintro⟨m,K,O,ae⟩;exact⟨(m:Int),FH.2 ⟨m,K,O,rfl⟩,by simpa using ae⟩
theorem OK{n s:Nat}(h:∀k,n≤k→s.testBit k=false):s<2 ^ n:=Nat.lt_pow_two_of_testBit s h
theorem M5{n:Nat}{J:JW}(K:VJ n J)(s:Nat):EF J.1 s<2 ^ n:=by
 refine OK fun k U=>?_;cases h:(EF J.1 s).testBit k with
 | false=>rfl
 | true=>
  obtain⟨m,_,_,O⟩:=(Mn K s k).1 h;have:=(K.Fe m).inr _ O;omega
theorem MI{n:Nat}(h:n≤8):2 ^ n≤256:=Nat.pow_le_pow_right (by omega) h
theorem GA{n s k:Nat}(h:s<2 ^ n)(O:s.testBit k=true):k<n:=by
 rcases Nat.lt_or_ge k n with K | K
 ·exact K
 ·rw [Nat.testBit_lt_two_pow (Nat.lt_of_lt_of_le h (Nat.pow_le_pow_right (by omega) K))] at O;cases O
theorem PZ{F n:Nat}{J:JW}{A:List Nat}{s:Nat}(W:100<F)(K:VJ n J)(hs:s<2 ^ n):HC F (J.1,J.2,A) s=some (EF J.1 s,(J.1,J.2,A)):=by
 have ah:=K.l1;have ae:=K.le;have ai:=MI ae;refine Ac.C8 ?_;unfold HC;refine Ac.be (IL W (by omega)) ?_;refine Ac.b (S:=fun r=>r=EF J.1 s) ?_ (by rintro r rfl;exact Ac.intro rfl);have hlen:=H3 s 16;refine Ac.upto (By s 16).length (fun i st=>st=(((By s 16).take i).foldl (fun o m=>o ||| BP (J.1.getD m.toNat [])) 0,(i:Int))∧((By s 16).take i).foldl (fun o m=>o ||| BP (J.1.getD m.toNat [])) 0<65536) ⟨rfl,by simp⟩ (by omega) ?_ ?_
 ·rintro i st hi ⟨rfl,Z⟩;unfold H9;obtain⟨m,aj,ag,aa⟩:=FH.1 (List.getElem_mem hi);have hm:=GA hs ag;have O:m<J.1.length:=by omega
  have U:=(K.nx m _ (List.getElem?_eq_getElem O)).1;have ak:=U.len;refine Ac.pos (by simp;omega) ?_;refine Ac.Bq (m:=i) rfl hi ?_;refine Ac.Bq (m:=m) aa O ?_;refine Ac.be (MO W (show J.1[m].length<100 by omega) (U.inr.mono (by omega))) ?_;have ab:BP J.1[m]<65536:=Mf (U.inr.mono (by omega));refine Ac.be (b:=((By s 16).take i).foldl (fun o m=>o ||| BP (J.1.getD m.toNat [])) 0 ||| BP J.1[m]) (if_pos ⟨Z,ab⟩) ?_;refine Ac.AZ ((i+1:Nat):Int) (by simp) (by omega) (by omega) ?_;have e:((By s 16).take (i+1)).foldl (fun o m=>o ||| BP (J.1.getD m.toNat [])) 0=((By s 16).take i).foldl (fun o m=>o ||| BP (J.1.getD m.toNat [])) 0 ||| BP J.1[m]:=by
   rw [List.take_add_one,List.getElem?_eq_getElem hi,List.foldl_append,aa];simp [List.getD_eq_getElem?_getD,O]
  refine Ac.intro ⟨?_,?_⟩
  ·rw [e]
  ·rw [e];exact I6 Z ab
 ·rintro st ⟨rfl,_⟩;unfold H9;refine Ac.neg (by simp) (Ac.intro ⟨_,rfl,?_⟩);rw [List.take_length];rfl
def AG(J:JW):Nat→Nat
 | 0=>1
 | a+1=>EF J.1 (AG J a)
theorem Hw{n:Nat}{J:JW}(K:VJ n J):∀a,AG J a<2 ^ n
 | 0=>Nat.one_lt_two_pow (by have:=K.pos;omega)
 | a+1=>M5 K _
def DV(J:JW):List Nat:=(List.range 13).map (AG J)
def HJ(J:JW)(n k:Nat)(A:List Nat):Prop:=A.length=13∧(∀i,i≤k→i<13→A[i]? =some (AG J i))∧∀x∈A,x<2 ^ n
theorem HJ.all{J:JW}{n:Nat}{A:List Nat}(h:HJ J n 12 A):A=DV J:=by
 apply List.ext_getElem?;intro i;rcases Nat.lt_or_ge i 13 with hi | hi
 ·rw [h.2.1 i (by omega) hi];simp [DV,hi]
 ·rw [List.getElem?_eq_none (by rw [h.1];exact hi),List.getElem?_eq_none (by simp [DV];exact hi)]
theorem LL{F n:Nat}{J:JW}{A:List Nat}(ae:100<F)(Z:VJ n J)(ag:A.length=13)(aa:∀x∈A,x<2 ^ n):
  Ac (iter (Hn F) F (J.1,J.2,A,A,0)) (fun r=>r.1=J.1∧r.2.1=J.2∧r.2.2.1=A∧r.2.2.2.length=13∧r.2.2.2[0]? =A[0]? ∧(∀i,i<12→∀s,A[i]? =some s→r.2.2.2[i+1]? =some (EF J.1 s))∧∀x∈r.2.2.2,x<2 ^ n):=by
 refine Ac.upto 12 (fun k st=>∃B:List Nat,st=(J.1,J.2,A,B,(k:Int))∧B.length=13∧B[0]? =A[0]? ∧(∀i,i<k→∀s,A[i]? =some s→B[i+1]? =some (EF J.1 s))∧∀x∈B,x<2 ^ n) ⟨A,rfl,ag,rfl,fun i hi=>by omega,aa⟩ (by omega) ?_ ?_
 ·rintro k st ai ⟨B,rfl,K,O,hs,hb⟩;unfold Hn;have U:k<A.length:=by omega
  have ab:k+1<B.length:=by omega
  refine Ac.pos (by simp only;omega) ?_;refine Ac.AZ ((k+1:Nat):Int) (by simp) (by omega) (by omega) ?_;refine Ac.Bq (m:=k) rfl U ?_;refine Ac.be (PZ ae Z (aa _ (List.getElem_mem U))) ?_;refine Ac.Bq (m:=k+1) rfl ab ?_;refine Ac.AZ ((k+1:Nat):Int) (by simp) (by omega) (by omega) ?_;refine Ac.intro ⟨B.set (k+1) (EF J.1 A[k]),rfl,by simpa using K,?_,?_,?_⟩
  ·rw [List.getElem?_set_ne (by omega)];exact O
  ·intro i hi s W;by_cases e:i=k
   ·subst e;rw [List.getElem?_set_self ab];have:A[i]=s:=by rw [List.getElem?_eq_getElem U] at W;exact Option.some.inj W
    rw [this]
   ·rw [List.getElem?_set_ne (by omega)];exact hs i (by omega) s W
  ·intro x ah;rcases List.mem_or_eq_of_mem_set ah with h | h
   ·exact hb x h
   ·subst h;exact M5 Z _
 ·rintro st ⟨B,rfl,K,O,hs,hb⟩;unfold Hn;refine Ac.neg (by simp) (Ac.intro ⟨_,rfl,rfl,rfl,rfl,K,O,hs,hb⟩)
theorem Nq{F n:Nat}{J:JW}(aj:100<F)(ag:VJ n J):f92 F J=some (some (J.1,J.2,DV J)):=by
 have ar:=ag.pos;refine Ac.C8 ?_;unfold f92;refine Ac.Bq (m:=0) rfl (by simp) ?_;refine Ac.b (S:=fun q=>q=Sum.inl (some (J.1,J.2,DV J))) ?_ (by rintro q rfl;exact Ac.intro rfl);refine Ac.upto 12 (fun k st=>∃A:List Nat,st=(J.1,J.2,A)∧HJ J n k A) ?_ (by omega) ?_ ?_
 ·refine⟨_,rfl,by simp,fun i hi _=>?_,fun x ak=>?_⟩
  ·obtain rfl:i=0:=by omega
   rfl
  ·rcases List.mem_or_eq_of_mem_set ak with h | h
   ·simp at h;subst h;exact Nat.two_pow_pos n
   ·subst h;exact Nat.one_lt_two_pow (by omega)
 ·rintro k st au ⟨A,rfl,K⟩;unfold IK;refine Ac.b (LL aj ag K.1 K.2.2) ?_;rintro⟨al,am,ah,B⟩ ⟨Z,aa,ab,O,ae,U,W⟩;simp only at Z aa ab O ae U W ⊢;subst Z aa ab;refine Ac.ite (fun h=>?_) (fun h=>?_)
  ·refine Ac.intro ⟨B,rfl,O,fun i hi ai=>?_,W⟩;cases i with
   | zero=>rw [ae];exact K.2.1 0 (by omega) (by omega)
   | succ i=>exact U i (by omega) _ (K.2.1 i (by omega) (by omega))
  ·have e:B=ah:=Decidable.byContradiction fun an=>h an;subst e;refine Ac.intro ?_;show _=_;have ao:HJ J n 12 B:=by
    refine⟨O,fun i hi ai=>?_,W⟩;have:∀i,i<13→B[i]? =some (AG J i):=by
     intro i
     induction i with
     | zero=>intro _;exact K.2.1 0 (by omega) (by omega)
     | succ i ap=>intro h;exact U i (by omega) _ (ap (by omega))
    exact this i ai
   rw [ao.all]
 ·rintro st ⟨A,rfl,K⟩;unfold IK;refine Ac.b (LL aj ag K.1 K.2.2) ?_;rintro⟨al,am,ah,B⟩ ⟨Z,aa,ab,O,ae,U,W⟩;simp only at Z aa ab O ae U W ⊢;subst Z aa ab;have aq:HJ J n 12 B:=by
   refine⟨O,fun i hi ai=>?_,W⟩;cases i with
   | zero=>rw [ae];exact K.2.1 0 (by omega) (by omega)
   | succ i=>exact U i (by omega) _ (K.2.1 i (by omega) (by omega))
  have e:B=ah:=by rw [aq.all,K.all]
  refine Ac.neg (by rw [e];simp) (Ac.intro ⟨_,rfl,?_⟩);rw [K.all]
end Pal
namespace Pal
theorem Rf(J:JW){a:Nat}(K:a<13):(DV J)[a]? =some (AG J a):=by simp [DV,K]
abbrev DW:=List Int×Int×Nat
def BG(k:Nat)(b:DW):Prop:=0≤b.2.1∧b.2.1≤(k:Int)
theorem BG.mono{k k':Nat}{b:DW}(h:BG k b)(K:k≤k'):BG k' b:=⟨h.1,by have:=h.2;omega⟩
theorem QV{F k:Nat}{b:DW}(hb:BG k b)(K:k<1000000):Ac (f100 F b) (fun r=>r.1<2 ^ 64∧BG (k+1) r.2):=by
 obtain⟨O,U⟩:=hb;unfold f100;refine Ac.AZ (b.2.1+1) rfl (by omega) (by omega) ?_;have key:∀x:Nat,(x % 2 ^ 64)>>>11<2 ^ 64:=fun x=>Nat.lt_of_le_of_lt (Nat.shiftRight_le _ _) (Nat.mod_lt _ (Nat.two_pow_pos 64));refine Ac.b (S:=fun _=>True) ?_ ?_
 ·refine Ac.ite (fun h=>?_) (fun h=>?_)
  ·refine Ac.AZ b.2.1 (by omega) (by omega) (by omega) ?_;refine Ac.Bq (m:=b.2.1.toNat) (by omega) (by omega) ?_;exact Ac.intro trivial
  ·exact Ac.intro trivial
 ·intro x _;exact Ac.intro ⟨key _,by simp only;omega,by simp only;omega⟩
theorem O7{a:Nat}(h:a<2 ^ 62):Gu a=(a:Int):=by
 unfold Gu;exact F9 (by omega)
theorem FR{F k:Nat}{b:DW}{m:Int}(hb:BG k b)(O:k<1000000)(hm:m<1000000):Ac (f41 F b m) (fun r=>0≤r.1∧(r.1≤m∨r.1=0)∧BG (k+1) r.2):=by
 unfold f41;refine Ac.b (QV hb O) ?_;rintro⟨x,aa⟩ ⟨ab,K⟩;refine Ac.ite (fun h=>?_) (fun h=>?_)
 ·exact Ac.intro ⟨by simp,.inr rfl,K⟩
 ·have U:BV m=m.toNat:=by unfold BV;omega
  have W:(BV m+1) % 2 ^ 64=m.toNat+1:=by rw [U];omega
  have Z:x % (m.toNat+1)<m.toNat+1:=Nat.mod_lt _ (by omega);refine Ac.be (b:=x % (m.toNat+1)) (by rw [W];unfold I3;rw [if_neg (by omega)]) ?_;refine Ac.intro ?_;simp only;generalize x % (m.toNat+1)=z at Z ⊢;rw [O7 (by omega)];exact⟨by omega,.inl (by omega),K⟩
theorem J9{F k:Nat}{b:DW}{lo hi:Int}(hb:BG k b)(O:k<1000000)(Z:0≤lo)(aa:lo≤hi)(ab:hi<1000):Ac (f96 F b lo hi) (fun r=>lo≤r.1∧r.1≤hi∧BG (k+1) r.2):=by
 unfold f96;refine Ac.AZ (hi - lo) rfl (by omega) (by omega) ?_;refine Ac.b (FR hb O (by omega)) ?_;rintro⟨x,ae⟩ ⟨U,W,K⟩;simp only at U W K ⊢;refine Ac.AZ (lo+x) rfl (by omega) (by omega) ?_;exact Ac.intro ⟨by simp only;omega,by simp only;omega,K⟩
theorem IS{F k:Nat}{b:DW}{m:Int}(hb:BG k b)(K:k<1000000)(U:1≤m)(W:m<1000):Ac (f97 F b m) (fun r=>BG (k+1) r.2):=by
 unfold f97;refine Ac.AZ (m - 1) rfl (by omega) (by omega) ?_;refine Ac.b (FR hb K (by omega)) ?_;rintro⟨x,Z⟩ ⟨aa,ab,O⟩;exact Ac.intro O
theorem IV{F k:Nat}{b:DW}{l:List Int}(hb:BG k b)(U:k<1000000)(aa:0<l.length)(ab:l.length<1000):Ac (f99 F b l) (fun r=>r.1∈l∧BG (k+1) r.2):=by
 unfold f99;refine Ac.AZ ((l.length - 1:Nat):Int) (by omega) (by omega) (by omega) ?_;refine Ac.b (FR hb U (by omega)) ?_;rintro⟨x,ae⟩ ⟨W,Z,K⟩;simp only at W Z K ⊢;have O:x.toNat<l.length:=by omega
 refine Ac.Bq (m:=x.toNat) (by omega) O ?_;exact Ac.intro ⟨List.getElem_mem O,K⟩
theorem Qu{F:Nat}{x:Int}(K:100<F):f98 F [] x=some [x]:=by
 obtain⟨F,rfl⟩:∃k,F=k+1:=⟨F - 1,by omega⟩;refine Ac.C8 ?_;unfold f98;refine Ac.be (b:=([],false)) ?_ ?_
 ·unfold iter;rfl
 ·refine Ac.be (b:= [x]) ?_ (Ac.intro rfl)
  rfl
theorem QH{F:Nat}{a x:Int}(ah:100<F):f98 F [a] x=some (if x<a then [x,a] else if x=a then [a] else [a,x]):=by
 obtain⟨F,rfl⟩:∃k,F=k+2:=⟨F - 2,by omega⟩;refine Ac.C8 ?_;unfold f98;have U:Av 1=some 1:=rfl;have W:ix [a] 0=some a:=rfl;have r0:room ([]:List Int) x=some [x]:=if_pos (by simp);have ab:room ([]:List Int) a=some [a]:=if_pos (by simp);have ae:room [x] a=some [x,a]:=if_pos (by simp);have ag:room [a] x=some [a,x]:=if_pos (by simp);have step:GQ (F+2) [a] x ([],false,0)=some (.more (if x<a then([x,a],true,1) else if x=a then([x],true,1) else([a],false,1))):=by
  unfold GQ;rcases Int.lt_trichotomy x a with h | h | h
  ·have Z:x≤a:=by omega
   have aa:a≠x:=by omega
   simp [W,h,Z,aa,r0,ae,U]
  ·subst h;simp [W,r0,U]
  ·have Z:¬x≤a:=by omega
   have aa:a≠x:=by omega
   have K:¬x<a:=by omega
   have O:¬x=a:=by omega
   simp [W,Z,aa,K,O,ab,U]
 have last:∀(o:List Int) (b:Bool),GQ (F+2) [a] x (o,b,1)=some (.done (o,b)):=by
  intro o b;unfold GQ;simp
 rcases Int.lt_trichotomy x a with h | h | h
 ·rw [if_pos h] at step;refine Ac.be (b:=([x,a],true)) ?_ ?_
  ·unfold iter;rw [step];simp only;unfold iter;rw [last]
  ·rw [if_pos h];exact Ac.be (b:= [x,a]) (by simp) (Ac.intro rfl)
 ·subst h;rw [if_neg (by omega),if_pos rfl] at step;refine Ac.be (b:=([x],true)) ?_ ?_
  ·unfold iter;rw [step];simp only;unfold iter;rw [last]
  ·rw [if_neg (show ¬x<x by omega),if_pos (rfl:x=x)];exact Ac.be (b:= [x]) (by simp) (Ac.intro rfl)
 ·have K:¬x<a:=by omega
  have O:¬x=a:=by omega
  rw [if_neg K,if_neg O] at step;refine Ac.be (b:=([a],false)) ?_ ?_
  ·unfold iter;rw [step];simp only;unfold iter;rw [last]
  ·rw [if_neg K,if_neg O];exact Ac.be (b:= [a,x]) (by simp [ag]) (Ac.intro rfl)
theorem M1{F n:Nat}{l:List Int}{x:Int}(O:100<F)(U:Fz n l)(W:l.length≤1)(Z:0≤x∧x<(n:Int)):Ac (f98 F l x) (fun r=>VL n r∧0<r.length∧r.length≤l.length+1∧∀y∈r,y=x∨y∈l):=by
 match l,W with
 | [],_=>
  rw [Qu O];exact Ac.intro ⟨⟨by simp,fun y K=>by simp at K;subst K;exact Z,by simp⟩,by simp,by simp,fun y K=>by simpa using K⟩
 | [a],_=>
  rw [QH O];have aa:=U a (by simp);refine Ac.intro ?_;rcases Int.lt_trichotomy x a with h | h | h
  ·rw [if_pos h];exact⟨⟨by simp,fun y K=>by simp at K;rcases K with rfl | rfl <;> assumption,by simpa using h⟩,by simp,by simp,fun y K=>by simpa using K⟩
  ·rw [if_neg (by omega),if_pos h];exact⟨⟨by simp,fun y K=>by simp at K;subst K;exact aa,by simp⟩,by simp,by simp,fun y K=>by simp at K;subst K;simp⟩
  ·rw [if_neg (by omega),if_neg (by omega)];exact⟨⟨by simp,fun y K=>by simp at K;rcases K with rfl | rfl <;> assumption,by simpa using h⟩,by simp,by simp,fun y K=>by simp at K;rcases K with rfl | rfl <;> simp⟩
 | a::b::l,h=>simp at h
structure PJ (n i:Nat) (N K:List (List Int)):Prop where
 l1:N.length=i
 l2:K.length=i
 nx:∀(q:Nat) l,N[q]? =some l→VL n l∧0<l.length
 fl:∀(q:Nat) l,K[q]? =some l→VL n l∧(q:Int) ∉ l
theorem PJ.snoc{n i:Nat}{N U:List (List Int)}{a b:List Int}(h:PJ n i N U)(W:VL n a∧0<a.length)(hb:VL n b∧(i:Int) ∉ b):PJ n (i+1) (N++ [a]) (U++ [b]):=by
 refine⟨by simp [h.l1],by simp [h.l2],fun q l K=>?_,fun q l K=>?_⟩
 ·rcases Nat.lt_or_ge q N.length with O | O
  ·rw [List.getElem?_append_left O] at K;exact h.nx q l K
  ·rw [List.getElem?_append_right O] at K;have:q - N.length=0:=by
    rcases Nat.eq_zero_or_pos (q - N.length) with e | e
    ·exact e
    ·rw [List.getElem?_eq_none (by simp;omega)] at K;cases K
   rw [this] at K;simp at K;subst K;exact W
 ·rcases Nat.lt_or_ge q U.length with O | O
  ·rw [List.getElem?_append_left O] at K;exact h.fl q l K
  ·rw [List.getElem?_append_right O] at K;have e:q - U.length=0:=by
    rcases Nat.eq_zero_or_pos (q - U.length) with e | e
    ·exact e
    ·rw [List.getElem?_eq_none (by simp;omega)] at K;cases K
   rw [e] at K;simp at K;subst K;have:q=i:=by have:=h.l2;omega
   subst this;exact hb
theorem O1{F n i k:Nat}{ae:Int×DW}{ag:(List (List Int))×(List (List Int))×(List Int)×Int×Nat×Int}{b:DW}{c:Int}(ap:100<F)(ah:ae.1=(n:Int))(ai:ag.2.2.2.2.2=(i:Int))(hi:i<n)(aw:n≤8)(hb:BG k b)(ay:k<1000)(az:c=0∨c=1∨c=2):
  Ac (iter (IC F ae ag) F (b.1,b.2.1,b.2.2,[],c)) (fun r=>VL n r.1∧(i:Int) ∉ r.1∧BG (k+10) r.2):=by
 refine Ac.iter (fun m st=>∃(l:List Int) (K:DW),st=(K.1,K.2.1,K.2.2,l,(m:Int))∧m≤2∧VL n l∧(i:Int) ∉ l∧l.length≤2 - m∧BG (k+10 - 4*m) K) ?_ (m:=c.toNat) ⟨[],b,by simp;omega,by omega,⟨by simp,fun x aq=>by simp at aq,by simp⟩,by simp,by simp,hb.mono (by omega)⟩ (by omega);rintro m st ⟨l,K,rfl,aA,Z,aa,hlen,aj⟩;unfold IC;refine Ac.b (S:=fun q=>q=decide (0<m∧1<n)) ?_ ?_
 ·refine Ac.ite (fun h=>?_) (fun h=>?_)
  ·refine Ac.intro ?_;rw [ah];exact decide_eq_decide.2 ⟨fun ak=>⟨by simp only at h;omega,by omega⟩,fun ak=>by omega⟩
  ·refine Ac.intro ?_;have:¬0<m:=by simp only at h;omega
   simp [this]
 ·rintro q rfl;refine Ac.ite (fun h=>?_) (fun h=>?_)
  ·have ak:0<m∧1<n:=of_decide_eq_true h;refine Ac.AZ ((i:Int) - 1) (by rw [ai]) (by omega) (by omega) ?_;refine Ac.b (FR (F:=F) (b:=(K.1,K.2.1,K.2.2)) (m:=max 0 ((i:Int) - 1)) aj (by omega) (by omega)) ?_;rintro⟨y,aB⟩ ⟨al,ar,am⟩;simp only at al ar am ⊢;refine Ac.b (IS (F:=F) am (by omega) (by omega) (by omega)) ?_;rintro⟨o,aC⟩ ab;simp only at ab ⊢;refine Ac.b (S:=fun r=>0≤r.1∧r.1<(n:Int)∧BG (k+10 - 4*m+1+1+1) r.2) ?_ ?_
   ·refine Ac.ite (fun _=>?_) (fun _=>?_)
    ·refine Ac.AZ ((n:Int) - 1) (by rw [ah]) (by omega) (by omega) ?_;refine Ac.b (FR (F:=F) ab (by omega) (by omega)) ?_;rintro⟨z,an⟩ ⟨O,U,W⟩;exact Ac.intro ⟨O,by simp only at O U ⊢;omega,W⟩
    ·exact Ac.intro ⟨al,by simp only;omega,BG.mono ab (by omega)⟩
   ·rintro⟨z,an⟩ ⟨O,U,W⟩;simp only at O U W ⊢;refine Ac.b (S:=fun r=>VL n r∧(i:Int) ∉ r∧r.length≤l.length+1) ?_ ?_
    ·rw [ai];refine Ac.ite (fun au=>?_) (fun _=>?_)
     ·refine Ac.b (M1 (F:=F) ap Z.inr (by omega) ⟨O,U⟩) ?_;rintro r ⟨v1,v2,ao,v4⟩;refine Ac.intro ⟨v1,fun av=>?_,ao⟩;rcases v4 _ av with e | e
      ·exact au e.symm
      ·exact aa e
     ·exact Ac.intro ⟨Z,aa,by omega⟩
    ·rintro r ⟨v1,v2,ao⟩;refine Ac.AZ ((m - 1:Nat):Int) (by omega) (by omega) (by omega) ?_;exact Ac.intro ⟨m - 1,by omega,r,an,rfl,by omega,v1,v2,by omega,W.mono (by omega)⟩
  ·exact Ac.intro ⟨Z,aa,aj.mono (by omega)⟩
theorem RR{F k mx:Nat}{b:DW}(ak:100<F)(hb:BG k b)(aE:k<100)(aF:1≤mx)(aG:mx≤8):Ac (f39 F b (mx:Int)) (fun r=>(∃n,n≤mx∧VJ n r.1)∧BG (k+301) r.2):=by
 unfold f39;refine Ac.b (J9 (F:=F) hb (by omega) (by omega) (by omega) (by omega)) ?_;rintro⟨al,ay⟩ ⟨n1,az,am⟩;simp only at n1 az am;obtain⟨n,rfl⟩:∃n:Nat,al=(n:Int):=⟨al.toNat,by omega⟩;have aH:1≤n:=by omega
 have an:n≤8:=by omega
 refine Ac.b (S:=fun r=>PJ n n r.2.2.2.1 r.2.2.2.2∧BG (k+301) (r.1,r.2.1,r.2.2.1)) ?_ ?_
 ·refine Ac.upto n (fun i st=>∃(N O:List (List Int)) (Z:DW),st=(N,O,Z.1,Z.2.1,Z.2.2,(i:Int))∧PJ n i N O∧BG (k+1+30*i) Z) ⟨[],[],ay,rfl,⟨rfl,rfl,fun q l ab=>by simp at ab,fun q l ab=>by simp at ab⟩,am⟩ (by omega) ?_ ?_
  ·rintro i st hi ⟨N,O,aa,rfl,K,ae⟩;unfold IX;refine Ac.pos (by simp only;omega) ?_;refine Ac.AZ ((n:Int) - 1) rfl (by omega) (by omega) ?_;refine Ac.AZ ((i+1:Nat):Int) (by simp) (by omega) (by omega) ?_;refine Ac.b (IS (F:=F) (b:=(aa.1,aa.2.1,aa.2.2)) ae (by omega) (by omega) (by omega)) ?_;rintro⟨o,aI⟩ ag;simp only at ag ⊢;have ao:Fz n [min ((n:Int) - 1) ((i+1:Nat):Int)]:=fun x U=>by simp at U;subst U;omega
   refine Ac.b (S:=fun r=>VL n r.1∧0<r.1.length∧BG (k+1+30*i+2) r.2) ?_ ?_
   ·refine Ac.ite (fun _=>?_) (fun _=>?_)
    ·refine Ac.AZ ((n:Int) - 1) rfl (by omega) (by omega) ?_;refine Ac.b (J9 (F:=F) ag (by omega) (by omega) (by omega) (by omega)) ?_;rintro⟨y,ap⟩ ⟨ah,ai,W⟩;simp only at ah ai W ⊢;refine Ac.b (M1 (F:=F) ak ao (by simp) ⟨by omega,by omega⟩) ?_;rintro r ⟨v1,v2,aJ,v4⟩;exact Ac.intro ⟨v1,v2,W⟩
    ·exact Ac.intro ⟨⟨by simp,ao,by simp⟩,by simp,BG.mono ag (by omega)⟩
   ·rintro⟨nx,ap⟩ ⟨w1,w2,w3⟩;simp only at w1 w2 w3 ⊢;refine Ac.b (IS (F:=F) (b:=ap) w3 (by omega) (by omega) (by omega)) ?_;rintro⟨aK,aL⟩ aj;simp only at aj ⊢;refine Ac.b (S:=fun r=>VL n r.1∧0<r.1.length∧BG (k+1+30*i+4) r.2) ?_ ?_
    ·refine Ac.ite (fun _=>?_) (fun _=>?_)
     ·refine Ac.AZ ((n:Int) - 1) rfl (by omega) (by omega) ?_;refine Ac.b (FR (F:=F) aj (by omega) (by omega)) ?_;rintro⟨y,aq⟩ ⟨ah,ai,W⟩;simp only at ah ai W ⊢;exact Ac.intro ⟨⟨by simp,fun x U=>by simp at U;subst U;omega,by simp⟩,by simp,W⟩
     ·exact Ac.intro ⟨w1,w2,BG.mono aj (by omega)⟩
    ·rintro⟨ar,aq⟩ ⟨u1,au,av⟩;simp only at u1 au av ⊢;refine Ac.b (IV (F:=F) (b:=aq) av (by omega) (by simp) (by simp)) ?_;rintro⟨c,aA⟩ ⟨aw,c2⟩;simp only at aw c2 ⊢;have aB:c=0∨c=1∨c=2:=by simp at aw;omega
     refine Ac.b (O1 (F:=F) (b:=aA) ak rfl rfl hi an c2 (by omega) aB) ?_;rintro⟨fl,aC⟩ ⟨t1,t2,t3⟩;simp only at t1 t2 t3 ⊢;have aM:=K.l1;have aN:=K.l2;refine Ac.be (b:=N++ [ar]) (if_pos (by simp;omega)) ?_;refine Ac.be (b:=O++ [fl]) (if_pos (by simp;omega)) ?_;refine Ac.AZ ((i+1:Nat):Int) (by simp) (by omega) (by omega) ?_;exact Ac.intro ⟨N++ [ar],O++ [fl],aC,rfl,K.snoc ⟨u1,au⟩ ⟨t1,t2⟩,t3.mono (by omega)⟩
  ·rintro st ⟨N,O,aa,rfl,K,ae⟩;unfold IX;refine Ac.neg (by simp) (Ac.intro ⟨_,rfl,K,ae.mono (by omega)⟩)
 ·rintro⟨aO,aP,aQ,N,O⟩ ⟨K,aD⟩;refine Ac.intro ⟨⟨n,by omega,?_⟩,aD⟩;exact⟨by omega,an,K.l1,K.l2,K.nx,K.fl⟩
end Pal
namespace Pal
open Go Go.Conc Go.Proofs
open Go.Proofs.Tryz
end Pal
namespace Pal
end Pal
namespace Pal
open Go Go.Conc Go.Proofs
open Go.Proofs.Tryz
end Pal
namespace Pal
theorem VJ.Oa{n:Nat}{J:JW}(K:VJ n J)(m:Nat):VL n (J.2.getD m []):=by
 rw [List.getD_eq_getElem?_getD];cases h:J.2[m]? with
 | none=>exact⟨by simp,fun x O=>by simp at O,by simp⟩
 | some l=>exact(K.fl m l h).1
end Pal
namespace Pal
abbrev Br:=List (Int×Int)
structure BR (n:Nat) (lk:Br):Prop where
 len:lk.length≤4
 yr:∀l∈lk,0≤l.1∧l.1≤6
 sn:∀l∈lk,0≤l.2∧l.2<(n:Int)
 G7:lk.Pairwise (fun a b=>a.1≤b.1)
theorem Qm{F n:Nat}{J:JW}{lk:Br}(U:100<F)(O:VJ n J)(K:BR n lk):f116 F J lk=some none:=by
 have W:=O.l1;have Z:=O.pos;have aa:=O.le;have ab:=K.len;refine Ac.C8 ?_;unfold f116;refine Ac.neg (by omega) ?_;refine Ac.b (S:=fun q=>q=Sum.inr ()) ?_ (by rintro q rfl;exact Ac.intro rfl);refine Ac.upto lk.length (fun i s=>s=(i:Int)) rfl (by omega) ?_ ?_
 ·rintro i s hi rfl;unfold Iy;have hm:=List.getElem_mem hi;have ae:=K.yr _ hm;have hs:=K.sn _ hm;refine Ac.pos (by omega) ?_;refine Ac.Bq (m:=i) rfl hi ?_;refine Ac.be (GK F _ _ _) ?_;refine Ac.neg (by simp;omega) ?_;refine Ac.b (S:=fun c=>c=false) ?_ ?_
  ·refine Ac.ite (fun h=>?_) (fun h=>Ac.intro rfl);refine Ac.AZ ((i - 1:Nat):Int) (by omega) (by omega) (by omega) ?_;refine Ac.Bq (m:=i - 1) rfl (by omega) ?_;have:=List.pairwise_iff_getElem.1 K.G7 (i - 1) i (by omega) hi (by omega);exact Ac.intro (decide_eq_false (by omega))
  ·rintro c rfl;refine Ac.neg (by simp) ?_;refine Ac.AZ ((n - 1:Nat):Int) (by omega) (by omega) (by omega) ?_;refine Ac.be (GK F _ _ _) ?_;refine Ac.neg (by simp;omega) ?_;refine Ac.AZ ((i+1:Nat):Int) (by simp) (by omega) (by omega) ?_;exact Ac.intro rfl
 ·rintro s rfl;unfold Iy;exact Ac.neg (by omega) (Ac.intro ⟨_,rfl,rfl⟩)
theorem J5{F n:Nat}{J:JW}{lk:Br}(K:100<F)(O:VJ n J)(U:BR n lk):f69 F J lk=some 0:=by
 unfold f69;rw [Mq K O];simp only [Option.bind_some,Option.isSome_none,Bool.false_eq_true,if_false];rw [Qm K O U];simp only [Option.bind_some];rw [Lr];rfl
def Cn(lk:Br):Nat:=match lk.getLast? with
 | some l=>l.1.toNat
 | none=>0
theorem JN{n:Nat}{lk:Br}(K:BR n lk):Cn lk≤6:=by
 unfold Cn;split
 ·rename_i l h;have:=K.yr l (List.mem_of_getLast? h);omega
 ·omega
theorem LS{F n:Nat}{O:JW}{A:List Nat}{lk:Br}{age:Int}{ms:List Int}{fl:Nat}(U:BR n lk):Hz F ((O.1,O.2,A),lk,age,ms,fl)=some ((Cn lk:Nat):Int):=by
 have W:=U.len;refine Ac.C8 ?_;unfold Hz Cn;refine Ac.ite (fun h=>?_) (fun h=>?_)
 ·simp only at h;have:lk= []:=List.length_eq_zero_iff.1 (by omega);subst this;exact Ac.intro rfl
 ·simp only at h;have K:lk.length - 1<lk.length:=by omega
  refine Ac.AZ ((lk.length - 1:Nat):Int) (by simp only;omega) (by omega) (by omega) ?_;refine Ac.Bq (m:=lk.length - 1) rfl K ?_;rw [List.getLast?_eq_getElem?,List.getElem?_eq_getElem K];have:=U.yr _ (List.getElem_mem K);refine Ac.intro ?_;simp only;omega
def Dy(J:JW)(m:Int)(l:Int×Int):Bool:=decide (m=l.2) || decide (l.2∈J.2.getD m.toNat [])
def Dl(J:JW)(lk:Br)(y:Nat)(m:Int):Bool:=lk.all fun l=>decide (l.1≠(y:Int)) || Dy J m l
def BY(lk:Br)(y:Nat)(m:Int):Nat→Nat
 | 0=>0
 | k+1=>match lk[k]? with
  | some l=>if l.1=(y:Int)∧m≠l.2 then BY lk y m k ||| 1<<<k else BY lk y m k
  | none=>BY lk y m k
theorem IG(lk:Br)(y:Nat)(m:Int):∀k,k≤16→BY lk y m k<65536
 | 0,_=>by unfold BY;omega
 | k+1,h=>by
  have:=IG lk y m k (by omega)
  unfold BY
  split
  ·split
   ·exact I6 this (Nt (by omega))
   ·exact this
  ·exact this
theorem MK(lk:Br)(y:Nat)(m:Int)(i:Nat):∀k,(BY lk y m k).testBit i=true↔i<k∧∃l,lk[i]? =some l∧l.1=(y:Int)∧m≠l.2
 | 0=>by simp [BY]
 | k+1=>by
  have ab:=MK lk y m i k
  have hb:(1<<<k).testBit i=decide (i=k):=by
   rw [Nat.one_shiftLeft,Nat.testBit_two_pow];exact decide_eq_decide.2 ⟨fun h=>h.symm,fun h=>h.symm⟩
  have key:∀P:Prop,(i<k∧P↔i<k+1∧P)∨i=k:=fun P=>by
   by_cases e:i=k
   ·exact .inr e
   ·exact .inl ⟨fun h=>⟨by omega,h.2⟩,fun h=>⟨by omega,h.2⟩⟩
  unfold BY;split
  ·rename_i l U;split
   ·rename_i W;rw [Nat.testBit_or,Bool.or_eq_true,ab,hb,decide_eq_true_iff];constructor
    ·rintro(⟨O,K⟩ | rfl)
     ·exact⟨by omega,K⟩
     ·exact⟨by omega,l,U,W.1,W.2⟩
    ·rintro⟨O,K⟩;by_cases e:i=k
     ·exact .inr e
     ·exact .inl ⟨by omega,K⟩
   ·rename_i W;rw [ab];constructor
    ·rintro⟨O,K⟩;exact⟨by omega,K⟩
    ·rintro⟨O,ae,K,Z,aa⟩;by_cases e:i=k
     ·subst e;rw [U] at K;cases K;exact absurd ⟨Z,aa⟩ W
     ·exact⟨by omega,ae,K,Z,aa⟩
  ·rename_i U;rw [ab];constructor
   ·rintro⟨O,K⟩;exact⟨by omega,K⟩
   ·rintro⟨O,ae,K,Z,aa⟩;by_cases e:i=k
    ·subst e;rw [U] at K;cases K
    ·exact⟨by omega,ae,K,Z,aa⟩
theorem Qs{F:Nat}{l:List Int}{x:Int}(W:100<F)(Z:l.length<100):Ac (f201 F l x) (fun r=>decide (0≤r)=decide (x∈l)):=by
 unfold f201;refine Ac.b (S:=fun q=>match q with | Sum.inl r=>0≤r∧x∈l | Sum.inr _=>x ∉ l) ?_ ?_
 ·refine Ac.upto l.length (fun i s=>s=(i:Int)∧x ∉ l.take i) ⟨rfl,by simp⟩ (by omega) ?_ ?_
  ·rintro i s hi ⟨rfl,K⟩;unfold Im;refine Ac.pos (by omega) ?_;refine Ac.Bq (m:=i) rfl hi ?_;refine Ac.ite (fun h=>?_) (fun h=>?_)
   ·exact Ac.intro ⟨by omega,by rw [h];exact List.getElem_mem hi⟩
   ·refine Ac.AZ ((i+1:Nat):Int) (by simp) (by omega) (by omega) ?_;refine Ac.intro ⟨rfl,?_⟩;rw [List.take_add_one,List.getElem?_eq_getElem hi];simp only [Option.toList_some,List.mem_append,List.mem_singleton];rintro(O | O)
    ·exact K O
    ·exact h O
  ·rintro s ⟨rfl,K⟩;unfold Im;exact Ac.neg (by omega) (Ac.intro ⟨_,rfl,by simpa using K⟩)
 ·rintro(r | u) U
  ·exact Ac.intro (by rw [decide_eq_true U.1,decide_eq_true U.2])
  ·exact Ac.intro (by rw [decide_eq_false U];rfl)
theorem Qh{F:Nat}{l:List Int}{x:Int}(K:100<F)(O:l.length<100):f199 F l x=some (decide (x∈l)):=by
 refine Ac.C8 ?_;unfold f199;refine Ac.b (Qs K O) ?_;intro r U;exact Ac.intro U
theorem Ql{F n m:Nat}{J:JW}{A:List Nat}{s:Int}(U:100<F)(O:VJ n J)(hm:m<n):f192 F (J.1,J.2,A) (m:Int) s=some (if(m:Int)=s then some ((m:Int),none) else if s∈J.2.getD m [] then some ((m:Int),some s) else none):=by
 have Z:=O.l2;refine Ac.C8 ?_;unfold f192;refine Ac.ite (fun h=>?_) (fun h=>?_)
 ·rw [if_pos h];exact Ac.intro rfl
 ·rw [if_neg h];have W:J.2[m]? =some (J.2.getD m []):=by rw [List.getD_eq_getElem?_getD,List.getElem?_eq_getElem (by omega)];rfl
  refine Ac.be (ET (m:=m) rfl W) ?_;refine Ac.be (Qh U (by have:=(O.Oa m).len;omega)) ?_;refine Ac.ite (fun K=>?_) (fun K=>?_)
  ·rw [if_pos (of_decide_eq_true K)];exact Ac.intro rfl
  ·rw [if_neg (of_decide_eq_false (by simpa using K))];exact Ac.intro rfl
theorem Qd{F n m y:Nat}{J:JW}{A:List Nat}{lk:Br}{age:Int}{ms:List Int}{fl:Nat}(ag:100<F)(ah:VJ n J)(ai:BR n lk)(hm:m<n):
  Hx F ((J.1,J.2,A),lk,age,ms,fl) (y:Int) (m:Int)=some (if Dl J lk y (m:Int)=true then(BY lk y (m:Int) lk.length,true) else(0,false)):=by
 have am:=ai.len;refine Ac.C8 ?_;unfold Hx;refine Ac.b (S:=fun q=>(Dl J lk y (m:Int)=true∧q=Sum.inr (BY lk y (m:Int) lk.length))∨(Dl J lk y (m:Int)=false∧q=Sum.inl (0,false))) ?_ ?_
 ·refine Ac.upto lk.length (fun i s=>s=(BY lk y (m:Int) i,(i:Int))∧∀l∈lk.take i,(decide (l.1≠(y:Int)) || Dy J (m:Int) l)=true) ⟨rfl,by simp⟩ (by omega) ?_ ?_
  ·rintro i s hi ⟨rfl,K⟩;unfold Ie;have aj:=IG lk y (m:Int) i (by omega);have ae:lk[i]? =some lk[i]:=List.getElem?_eq_getElem hi;have step:∀(l:Int×Int),l=lk[i]→(decide (l.1≠(y:Int)) || Dy J (m:Int) l)=true→∀O∈lk.take (i+1),(decide (O.1≠(y:Int)) || Dy J (m:Int) O)=true:=by
    rintro l rfl ak O W;rw [List.take_add_one,ae] at W;simp only [Option.toList_some,List.mem_append,List.mem_singleton] at W;rcases W with h | rfl
    ·exact K O h
    ·exact ak
   have Z:BY lk y (m:Int) (i+1)=if lk[i].1=(y:Int)∧(m:Int)≠lk[i].2 then BY lk y (m:Int) i ||| 1<<<i else BY lk y (m:Int) i:=by
    rw [BY,ae]
   refine Ac.pos (by simp only;omega) ?_;refine Ac.b (S:=fun q=>(q=Sum.inr (BY lk y (m:Int) (i+1))∧(decide (lk[i].1≠(y:Int)) || Dy J (m:Int) lk[i])=true)∨(q=Sum.inl (0,false)∧(decide (lk[i].1≠(y:Int)) || Dy J (m:Int) lk[i])=false)) ?_ ?_
   ·refine Ac.Bq (m:=i) rfl hi ?_;refine Ac.ite (fun h=>?_) (fun h=>?_)
    ·refine Ac.intro (.inl ⟨?_,by rw [decide_eq_true h];rfl⟩);rw [Z,if_neg (fun aa=>h aa.1)]
    ·have al:lk[i].1=(y:Int):=by simpa using h
     refine Ac.be (Ql ag ah hm) ?_;by_cases e:(m:Int)=lk[i].2
     ·rw [if_pos e];refine Ac.b (S:=fun q=>q=Sum.inr (BY lk y (m:Int) i)) (Ac.pos rfl (Ac.intro rfl)) ?_;rintro q rfl;refine Ac.intro (.inl ⟨?_,by unfold Dy;rw [decide_eq_true e];simp⟩);rw [Z,if_neg (fun aa=>aa.2 e)]
     ·rw [if_neg e];by_cases U:lk[i].2∈J.2.getD m []
      ·rw [if_pos U];refine Ac.b (S:=fun q=>q=Sum.inr (BY lk y (m:Int) i ||| 1<<<i)) ?_ ?_
       ·refine Ac.neg (by simp [Gr]) (Ac.pos rfl ?_);refine Ac.be (Ka F aj (by omega)) (Ac.intro rfl)
       ·rintro q rfl;refine Ac.intro (.inl ⟨?_,by unfold Dy;rw [show((m:Int)).toNat=m by omega,decide_eq_true U];simp⟩);rw [Z,if_pos ⟨al,e⟩]
      ·rw [if_neg U];refine Ac.b (S:=fun q=>q=Sum.inl (0,false)) ?_ ?_
       ·exact Ac.neg (by simp [Gr]) (Ac.neg (by simp [G4]) (Ac.intro rfl))
       ·rintro q rfl;refine Ac.intro (.inr ⟨rfl,?_⟩);unfold Dy;rw [show((m:Int)).toNat=m by omega,decide_eq_false U,decide_eq_false e,decide_eq_false h];rfl
   ·rintro q (⟨rfl,ab⟩ | ⟨rfl,ab⟩)
    ·rw [Sum.elim_inr];refine Ac.AZ ((i+1:Nat):Int) (by simp) (by omega) (by omega) ?_;exact Ac.intro ⟨rfl,step _ rfl ab⟩
    ·rw [Sum.elim_inl];refine Ac.intro (.inr ⟨?_,rfl⟩);unfold Dl;rw [List.all_eq_false];exact⟨lk[i],List.getElem_mem hi,by rw [ab];simp⟩
  ·rintro s ⟨rfl,K⟩;unfold Ie;refine Ac.neg (by simp only;omega) (Ac.intro ⟨_,rfl,.inl ⟨?_,rfl⟩⟩);rw [List.take_length] at K;unfold Dl;exact List.all_eq_true.2 K
 ·rintro q (⟨h,rfl⟩ | ⟨h,rfl⟩)
  ·rw [Sum.elim_inr,if_pos h];exact Ac.intro rfl
  ·rw [Sum.elim_inl,if_neg (by rw [h];simp)];exact Ac.intro rfl
theorem QM{F n m:Nat}{J:JW}{A:List Nat}{lk:Br}{age:Int}{ms:List Int}{fl:Nat}(O:100<F)(U:VJ n J)(K:BR n lk)(hm:m<n)(aa:ms.length<100)(W:fl<65536):
  HH F (J.1,J.2,A) lk age ms fl (m:Int)=some (if Dl J lk ms.length (m:Int)=true then some (ms++ [(m:Int)],fl ||| BY lk ms.length (m:Int) lk.length) else none):=by
 refine Ac.C8 ?_;unfold HH;refine Ac.be (Qd O U K hm) ?_;have Z:=IG lk ms.length (m:Int) lk.length (by have:=K.len;omega);by_cases h:Dl J lk ms.length (m:Int)=true
 ·rw [if_pos h,if_pos h];refine Ac.neg (by simp) ?_;refine Ac.be (b:=ms) ?_ ?_
  ·unfold f175 HA;have:Cv ([]:List Int) ms=some ms:=by unfold Cv;rw [if_pos (by simp;omega)];rfl
   rw [this];rfl
  ·refine Ac.be (b:=ms++ [(m:Int)]) ?_ ?_
   ·unfold Cv;rw [if_pos (by simp;omega)]
   ·exact Ac.be (if_pos ⟨W,Z⟩) (Ac.intro rfl)
 ·rw [if_neg h,if_neg h];exact Ac.pos rfl (Ac.intro rfl)
end Pal
namespace Pal
def CV(J:JW)(lk:Br):Nat→Nat→List Int→Nat→List (List Int×Nat)
 | 0,_,ms,fl=> [(ms,fl)]
 | k+1,sm,ms,fl=>(By sm 16).flatMap fun m=>if Dl J lk ms.length m=true then CV J lk k (BP (J.1.getD m.toNat [])) (ms++ [m]) (fl ||| BY lk ms.length m lk.length) else []
theorem LP(s:Nat):(By s 16).length≤16:=H3 s 16
theorem Hb{α β:Type}{f:α→List β}{b:Nat}:∀{l:List α},(∀x∈l,(f x).length≤b)→(l.flatMap f).length≤l.length*b
 | [],_=>by simp
 | x::l,h=>by
  have O:=h x (by simp)
  have U:=Hb (l:=l) (fun y K=>h y (by simp [K]))
  simp only [List.flatMap_cons,List.length_append,List.length_cons,Nat.succ_mul]
  omega
theorem It(J:JW)(lk:Br):∀k sm ms fl,(CV J lk k sm ms fl).length≤16 ^ k
 | 0,_,_,_=>by simp [CV]
 | k+1,sm,ms,fl=>by
  unfold CV
  refine Nat.le_trans (Hb (b:=16 ^ k) fun m _=>?_) ?_
  ·split
   ·exact It J lk k _ _ _
   ·simp
  ·rw [Nat.pow_succ,Nat.mul_comm];exact Nat.mul_le_mul_left _ (LP sm)
theorem P3{k:Nat}(h:k≤7):16 ^ k≤268435456:=Nat.le_trans (Nat.pow_le_pow_right (by omega) h) (by decide)
theorem LN{α β:Type}{step:List β→α→Option (List β)}{f:α→List β}:∀{l:List α} {ac:List β},(∀(l1 l2:List α) x,l=l1++x::l2→step (ac++l1.flatMap f) x=some (ac++(l1++ [x]).flatMap f))→Dh step l ac=some (ac++l.flatMap f)
 | [],ac,_=>by simp [Dh]
 | x::l,ac,h=>by
  have K:=h [] l x rfl
  simp only [List.flatMap_nil,List.append_nil,List.nil_append] at K
  unfold Dh
  rw [K]
  simp only [Option.bind_some]
  rw [LN (f:=f) (ac:=ac++ [x].flatMap f) (l:=l) ?_]
  ·simp
  ·intro l1 l2 y O;have:=h (x::l1) l2 y (by rw [O];rfl);simp only [List.flatMap_cons,List.flatMap_nil,List.append_nil,List.cons_append,List.append_assoc] at this ⊢;simpa using this
theorem OQ{α β:Type}{step:List β→α→Option (List β)}{f:α→List β}{l:List α}{ac:List β}(h:∀(l1 l2:List α) x,l=l1++x::l2→step (ac++l1.flatMap f) x=some (ac++l1.flatMap f++f x)):Dh step l ac=some (ac++l.flatMap f):=
 LN fun l1 l2 x e=>by rw [h l1 l2 x e];simp
theorem Sr{F n:Nat}{J:JW}{A:List Nat}{lk:Br}{age:Int}{ok:List (List Int×Nat)→Bool}(aa:100<F)(O:VJ n J)(U:BR n lk)(aq:∀l:List (List Int×Nat),l.length≤16 ^ 7→(∀x∈l,x.2<65536)→ok l=true):
  ∀(k g sm:Nat) (ms:List Int) (fl:Nat) (ac:List (List Int×Nat)),ms.length+k=Cn lk+1→k<g→sm<2 ^ n→fl<65536→ac.length+16 ^ k≤16 ^ 7→(∀x∈ac,x.2<65536)→
   F7 ok F (J.1,J.2,A) lk age g sm ms fl ac=some (ac++CV J lk k sm ms fl)∧∀x∈CV J lk k sm ms fl,x.2<65536:=by
 have aG:=JN U;have ar:=O.le;have aH:=MI ar;intro k
 induction k with
 | zero=>
  intro g sm ms fl ac au av ai W hlen ab;obtain⟨g,rfl⟩:∃g',g=g'+1:=⟨g - 1,by omega⟩;refine⟨?_,fun x K=>by simp [CV] at K;subst K;exact W⟩;unfold F7;have ae:Gp F (J.1,J.2,A) lk age ms fl sm=some none:=by
   unfold Gp;rw [LS U];simp only [Option.bind_some];rw [if_pos (by omega)]
  rw [ae];simp only [Option.bind_some,G5];rw [if_pos]
  ·rfl
  ·refine aq _ (by simpa using hlen) fun x K=>?_;rcases List.mem_append.1 K with K | K
   ·exact ab x K
   ·simp at K;subst K;exact W
 | succ k aj=>
  intro g sm ms fl ac au av ai W hlen ab;obtain⟨g,rfl⟩:∃g',g=g'+1:=⟨g - 1,by omega⟩;have aI:ms.length≤6:=by omega
  have aJ:=LP sm;have ak:∀m∈By sm 16,∃q:Nat,m=(q:Int)∧q<n:=fun m hm=>by
   obtain⟨q,_,q2,aw⟩:=FH.1 hm;exact⟨q,aw,GA ai q2⟩
  have al:∀m:Int,fl ||| BY lk ms.length m lk.length<65536:=fun m=>I6 W (IG _ _ _ _ (by have:=U.len;omega))
  have am:∀q:Nat,q<n→BP (J.1.getD q [])<2 ^ n:=fun q Z=>by
   rcases Nat.lt_or_ge (BP (J.1.getD q [])) (2 ^ n) with h | h
   ·exact h
   ·obtain⟨i,aK,an⟩:=Nat.exists_ge_and_testBit_of_ge_two_pow h;rw [H7 (fun x K=>((O.Fe q).inr x K).1)] at an;have:=(O.Fe q).inr _ (of_decide_eq_true an);omega
  have ao:∀m∈By sm 16,Dl J lk ms.length m=true→∀x∈CV J lk k (BP (J.1.getD m.toNat [])) (ms++ [m]) (fl ||| BY lk ms.length m lk.length),x.2<65536:=fun m hm hb=>by
   obtain⟨q,rfl,Z⟩:=ak m hm;have ay:16 ^ k≤16 ^ 7:=Nat.pow_le_pow_right (by omega) (by omega);exact(aj (k+1) _ _ _ [] (by simp;omega) (by omega) (am q Z) (al _) (by simpa using ay) (fun x K=>by simp at K)).2
  constructor
  ·unfold F7;have ae:Gp F (J.1,J.2,A) lk age ms fl sm=some (some (By sm 16)):=by
    unfold Gp;rw [LS U];simp only [Option.bind_some];rw [if_neg (by omega),IL aa (by omega)];rfl
   rw [ae];simp only [Option.bind_some,G5];rw [if_pos (by omega)];have e:CV J lk (k+1) sm ms fl=(By sm 16).flatMap fun m=>if Dl J lk ms.length m=true then CV J lk k (BP (J.1.getD m.toNat [])) (ms++ [m]) (fl ||| BY lk ms.length m lk.length) else []:=rfl
   rw [e];refine OQ fun l1 l2 m hm=>?_;have az:m∈By sm 16:=by rw [hm];simp
   obtain⟨q,rfl,Z⟩:=ak m az;unfold Kw;rw [QM aa O U Z (by omega) W];simp only [Option.bind_some];by_cases hb:Dl J lk ms.length (q:Int)=true
   ·rw [if_pos hb,if_pos hb];simp only;have aA:HO F (J.1,J.2,A) lk age (ms++ [(q:Int)]) (fl ||| BY lk ms.length (q:Int) lk.length) (q:Int)=some (BP (J.1.getD q [])):=by
     unfold HO;have aB:J.1[q]? =some (J.1.getD q []):=by rw [List.getD_eq_getElem?_getD,List.getElem?_eq_getElem (by have:=O.l1;omega)];rfl
     have ap:=O.Fe q;rw [ET (m:=q) rfl aB];simp only [Option.bind_some];rw [MO aa (by have:=ap.len;omega) (fun x K=>by have:=ap.inr x K;omega)];rfl
    rw [aA];simp only [Option.bind_some];have aC:l1.length+1≤16:=by
     have:=congrArg List.length hm;simp at this;omega
    have aL:(l1.flatMap fun m=>if Dl J lk ms.length m=true then CV J lk k (BP (J.1.getD m.toNat [])) (ms++ [m]) (fl ||| BY lk ms.length m lk.length) else []).length≤l1.length*16 ^ k:=Hb fun y _=>by
     split
     ·exact It _ _ _ _ _ _
     ·simp
    have hmul:l1.length*16 ^ k+16 ^ k≤16 ^ (k+1):=by
     rw [Nat.pow_succ,← Nat.succ_mul,Nat.mul_comm _ 16];exact Nat.mul_le_mul_right _ aC
    have:=aj g (BP (J.1.getD q [])) (ms++ [(q:Int)]) (fl ||| BY lk ms.length (q:Int) lk.length) (ac++l1.flatMap fun m=>if Dl J lk ms.length m=true then CV J lk k (BP (J.1.getD m.toNat [])) (ms++ [m]) (fl ||| BY lk ms.length m lk.length) else []) (by simp;omega) (by omega) (am q Z) (al _) (by rw [List.length_append];omega) ?_
    ·rw [this.1,show((q:Int)).toNat=q by omega]
    ·intro x K;rcases List.mem_append.1 K with K | K
     ·exact ab x K
     ·obtain⟨y,aD,ag⟩:=List.mem_flatMap.1 K;have aE:y∈By sm 16:=by rw [hm];simp [aD]
      split at ag
      ·rename_i aF;exact ao y aE aF x ag
      ·simp at ag
   ·rw [if_neg hb,if_neg hb];simp
  ·intro x K;unfold CV at K;obtain⟨m,hm,ah⟩:=List.mem_flatMap.1 K;split at ah
   ·rename_i hb;exact ao m hm hb x ah
   ·simp at ah
end Pal
namespace Pal
abbrev BE:=Int×List Int×Nat
def BX(t:BE):Nat:=(By t.2.2 16).length
theorem QI{F:Nat}{t:BE}(K:100<F)(h:t.2.2<65536):f130 F t=some (BX t:Int):=by
 unfold f130;rw [IL K h];rfl
def Ci(K:List BE)(q:Int×List BE):Prop:=(K= []∧q=(0,[]))∨∃k:Nat,q.1=(k:Int)∧(∃t∈K,BX t=k)∧(∀t∈K,k≤BX t)∧q.2=K.filter (fun t=>decide (BX t=k))
theorem Ci.len{K:List BE}{q:Int×List BE}(h:Ci K q):q.2.length≤K.length:=by
 rcases h with⟨_,rfl⟩ | ⟨k,_,_,_,h⟩
 ·simp
 ·rw [h];exact List.length_filter_le _ _
theorem Ci.sub{K:List BE}{q:Int×List BE}(h:Ci K q):∀t∈q.2,t∈K∧(BX t:Int)=q.1:=by
 rcases h with⟨_,rfl⟩ | ⟨k,O,_,_,h⟩
 ·simp
 ·intro t ht;rw [h] at ht;obtain⟨a,b⟩:=List.mem_filter.1 ht;exact⟨a,by rw [O,of_decide_eq_true b]⟩
theorem Ci.snoc(F:Nat){O:List BE}{q:Int×List BE}{t:BE}(h:Ci O q)(am:O.length<2 ^ 39):∃K,F0 F q.1 q.2 t (BX t:Int)=some K∧Ci (O++ [t]) K:=by
 have ai:=h.len;obtain⟨le,all⟩:=q;simp only at ai ⊢;have fresh:∀c:Bool,c=true→(∀s∈O,BX t<BX s)→∃K:Int×List BE,(Option.bind (if c=true then some ((BX t:Int),([]:List BE)) else some (le,all)) fun U=>Option.bind (if(BX t:Int)=U.1 then(Cv U.2 ([t]:List BE)).bind fun aj=>some aj else some U.2) fun ak=>some (U.1,ak))=some K∧Ci (O++ [t]) K:=by
  rintro c rfl W;refine⟨((BX t:Int),[t]),?_,.inr ⟨BX t,rfl,⟨t,by simp,rfl⟩,?_,?_⟩⟩
  ·simp [Cv]
  ·intro s hs;rcases List.mem_append.1 hs with hs | hs
   ·exact Nat.le_of_lt (W s hs)
   ·simp at hs;subst hs;exact Nat.le_refl _
  ·rw [List.filter_append,List.filter_eq_nil_iff.2 fun s hs=>by have:=W s hs;simp;omega];simp
 unfold F0;rcases h with⟨rfl,he⟩ | ⟨k,ah,⟨s,hs,aa⟩,ab,Z⟩
 ·cases he;simp only [List.length_nil];obtain⟨K,ae,ag⟩:=fresh true rfl (fun s hs=>by simp at hs);exact⟨K,by simpa using ae,ag⟩
 ·simp only at ah Z;subst ah;have al:¬((all.length:Int)=0):=by
   have:s∈all:=by rw [Z];exact List.mem_filter.2 ⟨hs,by simpa using aa⟩
   have:=List.length_pos_of_mem this;omega
  rw [if_neg al];simp only [Option.bind_some];rcases Nat.lt_trichotomy (BX t) k with W | heq | an
  ·obtain⟨K,ae,ag⟩:=fresh (decide ((BX t:Int)<(k:Int))) (decide_eq_true (by omega)) (fun s hs=>Nat.lt_of_lt_of_le W (ab s hs));exact⟨K,ae,ag⟩
  ·rw [if_neg (by rw [decide_eq_true_iff];omega)];simp only [Option.bind_some];rw [if_pos (by omega)];refine⟨((k:Int),all++ [t]),?_,.inr ⟨k,rfl,⟨s,by simp [hs],aa⟩,?_,?_⟩⟩
   ·unfold Cv;rw [if_pos (by simp;omega)];rfl
   ·intro u hu;rcases List.mem_append.1 hu with hu | hu
    ·exact ab u hu
    ·simp at hu;subst hu;omega
   ·rw [List.filter_append,Z];simp [heq]
  ·rw [if_neg (by rw [decide_eq_true_iff];omega)];simp only [Option.bind_some];rw [if_neg (by omega)];refine⟨((k:Int),all),rfl,.inr ⟨k,rfl,⟨s,by simp [hs],aa⟩,?_,?_⟩⟩
   ·intro u hu;rcases List.mem_append.1 hu with hu | hu
    ·exact ab u hu
    ·simp at hu;subst hu;omega
   ·rw [List.filter_append,← Z];have:¬BX t=k:=by omega
    simp [this]
theorem JF{F:Nat}{a:Int}(O:100<F):∀(l:List (List Int×Nat)) (K:List BE) (q:Int×List BE),Ci K q→K.length+l.length<2 ^ 39→(∀x∈l,x.2<65536)→
  ∃U,Dh (add1 F a) l q=some U∧Ci (K++l.map fun x=>(a,x.1,x.2)) U
 | [],K,q,h,_,_=>⟨q,rfl,by simpa using h⟩
 | x::l,K,q,h,Z,W=>by
  simp only [List.length_cons] at Z
  obtain⟨q1,aa,ab⟩:=h.snoc F (t:=(a,x.1,x.2)) (by omega)
  obtain⟨q2,ae,ag⟩:=JF O l (K++ [(a,x.1,x.2)]) q1 ab (by simp;omega) (fun y ah=>W y (by simp [ah]))
  refine⟨q2,?_,by simpa using ag⟩
  unfold Dh add1
  rw [QI (t:=(a,x.1,x.2)) O (W x (by simp))]
  simp only [Option.bind_some]
  rw [aa];exact ae
def TA(J:JW)(lk:Br)(a:Nat):List BE:=(CV J lk (Cn lk+1) (AG J a) [] 0).map fun x=>((a:Int),x.1,x.2)
def TT(J:JW)(lk:Br):List BE:=(List.range 13).flatMap (TA J lk)
theorem M9{n:Nat}{J:JW}{lk:Br}(K:BR n lk)(a:Nat):(TA J lk a).length≤268435456:=by
 unfold TA;rw [List.length_map];exact Nat.le_trans (It _ _ _ _ _ _) (P3 (by have:=JN K;omega))
theorem JI{F n a:Nat}{J:JW}{lk:Br}(K:100<F)(O:VJ n J)(U:BR n lk)(W:a<13):∃q,Eg F (J.1,J.2,DV J) lk (a:Int)=some q∧Ci (TA J lk a) q∧∀t∈TA J lk a,t.2.2<65536:=by
 have ai:=JN U;have Z:(16:Nat) ^ (Cn lk+1)≤16 ^ 7:=Nat.pow_le_pow_right (by omega) (by omega);have aa:∀l:List (List Int×Nat),l.length≤16 ^ 7→(∀x∈l,x.2<65536)→(EP F (a:Int) l).isSome=true:=fun l aj ab=>by
  obtain⟨q,e,_⟩:=JF (a:=(a:Int)) K l [] (0,[]) (.inl ⟨rfl,rfl⟩) (by simp;omega) ab;unfold EP;rw [e];rfl
 obtain⟨d1,d2⟩:=Sr (A:=DV J) (age:=(a:Int)) (ok:=fun ac=>(EP F (a:Int) ac).isSome) K O U aa (Cn lk+1) F (AG J a) [] 0 [] (by simp) (by omega) (Hw O a) (by omega) (by simpa using Z) (by simp);obtain⟨q,ae,ag⟩:=JF (a:=(a:Int)) K (CV J lk (Cn lk+1) (AG J a) [] 0) [] (0,[]) (.inl ⟨rfl,rfl⟩) (by have:=It J lk (Cn lk+1) (AG J a) [] 0;simp;omega) d2;refine⟨q,?_,by unfold TA;simpa using ag,?_⟩
 ·unfold Eg Gl;rw [ET (m:=a) rfl (Rf J W)];simp only [Option.bind_some];rw [d1];simp only [Option.bind_some,List.nil_append];exact ae
 ·intro t ht;obtain⟨x,ah,rfl⟩:=List.mem_map.1 ht;exact d2 x ah
theorem LG{F n:Nat}{J:JW}{lk:Br}(O:100<F)(U:VJ n J)(W:BR n lk):∃qs:Nat→Int×List BE,GU F (J.1,J.2,DV J) lk=some (BU qs)∧∀j,j<13→Ci (TA J lk j) (qs j):=by
 refine⟨fun j=>(Eg F (J.1,J.2,DV J) lk ((j:Nat):Int)).getD (0,[]),?_,fun j K=>?_⟩
 ·unfold GU;rw [if_pos];rw [List.all_eq_true];intro j K;obtain⟨q,e,_⟩:=JI O U W (List.mem_range.1 K);rw [e];rfl
 ·obtain⟨q,e,h,_⟩:=JI O U W K;simp only [e];exact h
theorem LW{α β:Type}{f g:α→List β}:∀{l:List α},(∀x∈l,f x=g x)→l.flatMap f=l.flatMap g
 | [],_=>rfl
 | x::l,h=>by rw [List.flatMap_cons,List.flatMap_cons,h x (by simp),LW fun y K=>h y (by simp [K])]
theorem Ci.flat{T:Nat→List BE}{Q:Nat→Int×List BE}{l:List Nat}{r:Int×List BE}(h:∀j∈l,Ci (T j) (Q j))(ak:Ci (l.flatMap fun j=>(Q j).2) r):Ci (l.flatMap T) r:=by
 have al:∀j∈l,(Q j).2= []→T j= []:=fun j K e=>by
  rcases h j K with⟨U,_⟩ | ⟨k,_,⟨t,ht,aa⟩,_,ab⟩
  ·exact U
  ·have:t∈(Q j).2:=by rw [ab];exact List.mem_filter.2 ⟨ht,by simpa using aa⟩
   rw [e] at this;simp at this
 rcases ak with⟨U,rfl⟩ | ⟨k,U,⟨t,ht,aa⟩,ai,ab⟩
 ·refine .inl ⟨?_,rfl⟩;rw [List.flatMap_eq_nil_iff] at U ⊢;exact fun j K=>al j K (U j K)
 ·have low:∀j∈l,∀s∈T j,∃O:Nat,(Q j).2=(T j).filter (fun t=>decide (BX t=O))∧k≤O∧O≤BX s:=fun j K s hs=>by
   rcases h j K with⟨ae,_⟩ | ⟨O,_,⟨u,hu,ag⟩,W,Z⟩
   ·rw [ae] at hs;simp at hs
   ·refine⟨O,Z,?_,W s hs⟩;have:=ai u (List.mem_flatMap.2 ⟨j,K,by rw [Z];exact List.mem_filter.2 ⟨hu,by simpa using ag⟩⟩);omega
  refine .inr ⟨k,U,?_,?_,?_⟩
  ·obtain⟨j,K,am⟩:=List.mem_flatMap.1 ht;exact⟨t,List.mem_flatMap.2 ⟨j,K,((h j K).sub t am).1⟩,aa⟩
  ·intro s hs;obtain⟨j,K,an⟩:=List.mem_flatMap.1 hs;obtain⟨O,_,aj,W⟩:=low j K s an;omega
  ·rw [ab,List.filter_flatMap,List.filter_flatMap];refine LW fun j K=>?_;rcases h j K with⟨ae,aj⟩ | ⟨O,_,⟨u,hu,ag⟩,W,Z⟩
   ·rw [ae,aj]
   ·obtain⟨ap,aq,ar,au⟩:=low j K u hu;rw [Z,List.filter_filter];by_cases e:O=k
    ·subst e;exact List.filter_congr fun x _=>by simp
    ·have av:k<O:=by
      have ao:u∈(Q j).2:=by rw [Z];exact List.mem_filter.2 ⟨hu,by simpa using ag⟩
      have:=ai u (List.mem_flatMap.2 ⟨j,K,ao⟩);omega
     rw [List.filter_eq_nil_iff.2 fun x ah=>?_,List.filter_eq_nil_iff.2 fun x ah=>?_]
     ·have:=W x ah;simp;omega
     ·have:=W x ah;simp;omega
theorem OM{qs:Nat→Int×List BE}{p:Int×Int×List BE}(h:p∈BU qs):∃j,j<13∧p=partOf qs j∧0<(qs j).2.length:=by
 unfold BU at h;obtain⟨j,K,rfl⟩:=List.mem_map.1 h;obtain⟨O,U⟩:=List.mem_filter.1 K;exact⟨j,List.mem_range.1 O,rfl,of_decide_eq_true U⟩
theorem Lh(qs:Nat→Int×List BE):(BU qs).length≤13:=by
 unfold BU;rw [List.length_map];exact Nat.le_trans (List.length_filter_le _ _) (by simp)
theorem Ow(qs:Nat→Int×List BE):((BU qs).flatMap fun p=>p.2.2)=(List.range 13).flatMap fun j=>(qs j).2:=by
 unfold BU;rw [List.flatMap_map];generalize List.range 13=l
 induction l with
 | nil=>rfl
 | cons j l K=>
  rw [List.filter_cons,List.flatMap_cons];split
  ·rw [List.flatMap_cons,K];rfl
  ·rename_i h;have:(qs j).2= []:=List.length_eq_zero_iff.1 (by simpa using h);rw [K,this];rfl
theorem Rv{F:Nat}{p:Int×Int×List BE}{pre:List BE}{le:Int}{all:List BE}(aa:268435456<F)(ab:p.2.2.length≤268435456)(ae:pre.length<2 ^ 38)(W:∀t∈p.2.2,(BX t:Int)=p.2.1)(h:Ci pre (le,all)):
  Ac (iter (Hr F p) F (le,all,0)) (fun r=>Ci (pre++p.2.2) r):=by
 refine Ac.upto p.2.2.length (fun i s=>s.2.2=(i:Int)∧Ci (pre++p.2.2.take i) (s.1,s.2.1)) ⟨rfl,by simpa using h⟩ (by omega) ?_ ?_
 ·rintro i ⟨a,b,c⟩ hi ⟨O,K⟩;simp only at O K;subst O;unfold Hr;refine Ac.pos (by simp only;omega) ?_;refine Ac.Bq (m:=i) rfl hi ?_;obtain⟨q,U,Z⟩:=K.snoc F (t:=p.2.2[i]) (by simp;omega);rw [W _ (List.getElem_mem hi)] at U;refine Ac.be U ?_;refine Ac.AZ ((i+1:Nat):Int) (by simp) (by omega) (by omega) ?_;refine Ac.intro ⟨rfl,?_⟩;rw [List.take_add_one,List.getElem?_eq_getElem hi];simpa using Z
 ·rintro⟨a,b,c⟩ ⟨O,K⟩;simp only at O K;subst O;unfold Hr;refine Ac.neg (by simp) (Ac.intro ⟨_,rfl,?_⟩);rw [List.take_length] at K;exact K
theorem Sk{F n:Nat}{J:JW}{lk:Br}(ae:268435456<F)(ag:VJ n J)(ab:BR n lk):Ac (f93 F (J.1,J.2,DV J) lk) (fun r=>Ci (TT J lk) r):=by
 obtain⟨qs,e,Z⟩:=LG (F:=F) (by omega) ag ab;unfold f93;refine Ac.be e ?_;have ak:=Lh qs;have hlen:∀p∈BU qs,p.2.2.length≤268435456∧∀t∈p.2.2,(BX t:Int)=p.2.1:=fun p aa=>by
  obtain⟨j,U,rfl,_⟩:=OM aa;exact⟨Nat.le_trans (Z j U).len (M9 ab j),fun t ht=>((Z j U).sub t ht).2⟩
 refine Ac.b (S:=fun r=>Ci ((BU qs).flatMap fun p=>p.2.2) r) ?_ ?_
 ·refine Ac.upto (BU qs).length (fun i s=>s.2.2=(i:Int)∧Ci (((BU qs).take i).flatMap fun p=>p.2.2) (s.1,s.2.1)) ⟨rfl,.inl ⟨rfl,rfl⟩⟩ (by omega) ?_ ?_
  ·rintro i ⟨a,b,c⟩ hi ⟨O,K⟩;simp only at O K;subst O;unfold IN;refine Ac.pos (by simp only;omega) ?_;refine Ac.Bq (m:=i) rfl hi ?_;obtain⟨ah,ai⟩:=hlen _ (List.getElem_mem hi);have al:(((BU qs).take i).flatMap fun p=>p.2.2).length≤((BU qs).take i).length*268435456:=Hb fun p aa=>(hlen p (List.mem_of_mem_take aa)).1;have aj:((BU qs).take i).length≤13:=by rw [List.length_take];omega
   have hmul:((BU qs).take i).length*268435456≤13*268435456:=Nat.mul_le_mul_right _ aj;refine Ac.b (Rv ae ah (by omega) ai K) ?_;intro r W;refine Ac.AZ ((i+1:Nat):Int) (by simp) (by omega) (by omega) ?_;refine Ac.intro ⟨rfl,?_⟩;rw [List.take_add_one,List.getElem?_eq_getElem hi];simp only [Option.toList_some,List.flatMap_append,List.flatMap_cons,List.flatMap_nil,List.append_nil];exact W
  ·rintro⟨a,b,c⟩ ⟨O,K⟩;simp only at O K;subst O;unfold IN;refine Ac.neg (by simp) (Ac.intro ⟨_,rfl,?_⟩);rw [List.take_length] at K;exact K
 ·intro r W;refine Ac.intro ?_;rw [Ow] at W;exact Ci.flat (fun j U=>Z j (List.mem_range.1 U)) W
end Pal
namespace Pal
theorem Ci.QN{K:List BE}{q:Int×List BE}(h:Ci K q):q.2= []↔K= []:=by
 rcases h with⟨O,rfl⟩ | ⟨k,_,⟨t,ht,U⟩,_,W⟩
 ·simp [O]
 ·constructor
  ·intro e;have:t∈q.2:=by rw [W];exact List.mem_filter.2 ⟨ht,by simpa using U⟩
   rw [e] at this;simp at this
  ·rintro rfl;simp at ht
def FW(J:JW)(lk:Br)(k:Nat):Prop:=(∃t∈TT J lk,BX t=k)∧∀t∈TT J lk,k≤BX t
def Co(J:JW)(lk:Br)(k:Nat):List BE:=(TT J lk).filter fun t=>decide (BX t=k)
theorem FW.pos{J:JW}{lk:Br}{k:Nat}(h:FW J lk k):0<(Co J lk k).length:=by
 obtain⟨⟨t,ht,K⟩,_⟩:=h;exact List.length_pos_of_mem (List.mem_filter.2 ⟨ht,by simpa using K⟩)
theorem IM{J:JW}{lk:Br}{t:BE}:t∈TT J lk↔∃a,a<13∧t∈TA J lk a:=by
 unfold TT;rw [List.mem_flatMap];exact⟨fun⟨a,K,O⟩=>⟨a,List.mem_range.1 K,O⟩,fun⟨a,K,O⟩=>⟨a,List.mem_range.2 K,O⟩⟩
theorem J3{J:JW}{lk:Br}{a:Nat}{t:BE}(h:t∈TA J lk a):t.1=(a:Int):=by
 obtain⟨x,_,rfl⟩:=List.mem_map.1 h;rfl
theorem NU{F n:Nat}{J:JW}{lk:Br}(O:100<F)(U:VJ n J)(W:BR n lk){t:BE}(ht:t∈TT J lk):t.2.2<65536∧0≤t.1∧t.1<13:=by
 obtain⟨a,Z,K⟩:=IM.1 ht;obtain⟨_,_,_,h⟩:=JI O U W Z;have:=J3 K;exact⟨h t K,by omega,by omega⟩
theorem MY{n:Nat}{J:JW}{lk:Br}(K:BR n lk):(TT J lk).length≤13*268435456:=by
 unfold TT;have:=Hb (l:=List.range 13) (f:=TA J lk) (b:=268435456) fun a _=>M9 K a;simpa using this
theorem RG{F n:Nat}{J:JW}{lk:Br}{p:Int}(b:Bool)(Z:268435456<F)(K:VJ n J)(O:BR n lk)(aa: -1≤p∧p<(lk.length:Int)):
  Ac (f78 F J lk p b) (fun r=>Ci (TT J lk) r.2.1∧r.2.2=if TT J lk= []∧b=false then 11 else 0):=by
 have ab:=O.len;unfold f78;refine Ac.be (J5 (by omega) K O) ?_;refine Ac.neg (by simp) ?_;refine Ac.AZ ((lk.length:Int) - 1) rfl (by omega) (by omega) ?_;refine Ac.be (GK F _ _ _) ?_;refine Ac.neg (by simp;omega) ?_;refine Ac.be (Nq (by omega) K) ?_;refine Ac.be (b:=(J.1,J.2,DV J)) rfl ?_;refine Ac.b (Sk Z K O) ?_;intro r U;have W:=U.QN;refine Ac.b (S:=fun c=>c=decide (TT J lk= []∧b=false)) ?_ ?_
 ·refine Ac.ite (fun h=>?_) (fun h=>?_)
  ·have:TT J lk= []:=W.1 (List.length_eq_zero_iff.1 (by omega));refine Ac.intro ?_;cases b <;> simp [this]
  ·have:TT J lk≠ []:=fun e=>h (by rw [W.2 e];rfl);exact Ac.intro (by simp [this])
 ·rintro c rfl;refine Ac.ite (fun h=>?_) (fun h=>?_)
  ·exact Ac.intro ⟨U,by rw [if_pos (of_decide_eq_true h)]⟩
  ·exact Ac.intro ⟨U,by rw [if_neg (of_decide_eq_false (by simpa using h))]⟩
theorem asked{F n:Nat}{J:JW}{lk:Br}{p:Int}(aa:268435456<F)(ab:VJ n J)(ae:BR n lk)(ag: -1≤p∧p<(lk.length:Int)):
  Ac (f78 F J lk p false) (fun r=>(TT J lk= []∧r.2.1=(0,[])∧r.2.2=11)∨∃k,FW J lk k∧r.2.1=((k:Int),Co J lk k)∧r.2.2=0):=by
 refine(RG false aa ab ae ag).mono ?_;rintro⟨x,⟨q1,q2⟩,e⟩ ⟨W,U⟩;simp only at W U;rcases W with⟨K,O⟩ | ⟨k,K,O,ah,Z⟩
 ·exact .inl ⟨K,O,by rw [U,if_pos (by simp [K])]⟩
 ·refine .inr ⟨k,⟨O,ah⟩,?_,?_⟩
  ·simp only at K Z;rw [K,Z];rfl
  ·obtain⟨t,ht,_⟩:=O;simp only;rw [U,if_neg];rintro⟨ai,_⟩;rw [ai] at ht;simp at ht
theorem RS{F n:Nat}{J:JW}{lk:Br}(W:268435456<F)(Z:VJ n J)(aa:BR n lk):
  Ac (f47 F J lk) (fun r=>(TT J lk= []∧r=(0,11))∨∃k,FW J lk k∧r=((k:Int),0)):=by
 unfold f47;refine Ac.b (asked W Z aa ⟨by omega,by omega⟩) ?_;rintro⟨x,q,e⟩ (⟨U,K,O⟩ | ⟨k,U,K,O⟩)
 ·simp only at K O;subst K;subst O;exact Ac.intro (.inl ⟨U,rfl⟩)
 ·simp only at K O;subst K;subst O;exact Ac.intro (.inr ⟨k,U,rfl⟩)
def vd(c l:Nat):Int:=if c=0 then 2 else if c<l then 3 else 1
theorem Rz{F n p:Nat}{J:JW}{lk:Br}(ah:3489660928<F)(W:VJ n J)(K:BR n lk)(ai:p<lk.length):
  Ac (f49 F J lk (p:Int)) (fun r=>(TT J lk= []∧r=(0,11))∨∃k,FW J lk k∧r=(vd ((Co J lk k).filter fun t=>t.2.2.testBit p).length (Co J lk k).length,0)):=by
 have aj:=K.len;unfold f49;refine Ac.be (J5 (by omega) W K) ?_;refine Ac.neg (by simp) ?_;refine Ac.AZ ((lk.length:Int) - 1) rfl (by omega) (by omega) ?_;refine Ac.be (GK F _ _ _) ?_;refine Ac.neg (by simp;omega) ?_;refine Ac.b (asked (p:=(p:Int)) (by omega) W K ⟨by omega,by omega⟩) ?_;rintro⟨x,q,e⟩ (⟨Z,O,U⟩ | ⟨k,Z,O,U⟩)
 ·simp only at O U;subst O;subst U;exact Ac.pos (by simp) (Ac.intro (.inl ⟨Z,rfl⟩))
 ·simp only at O U;subst O;subst U;refine Ac.neg (by simp) ?_;have ae:(Co J lk k).length≤3489660928:=Nat.le_trans (List.length_filter_le _ _) (MY K);refine Ac.b (S:=fun c=>c=(((Co J lk k).filter fun t=>t.2.2.testBit p).length:Int)) ?_ ?_
  ·refine Ac.upto (Co J lk k).length (fun i s=>s=((((((Co J lk k).take i).filter fun t=>t.2.2.testBit p).length:Nat):Int),(i:Int))) rfl (by omega) ?_ ?_
   ·rintro i s hi rfl;unfold IB;have hm:=List.getElem_mem hi;obtain⟨ag,_,_⟩:=NU (F:=F) (by omega) W K (List.mem_filter.1 hm).1;refine Ac.pos (by simp only;omega) ?_;refine Ac.Bq (m:=i) rfl hi ?_;refine Ac.be (MD F ag (by omega)) ?_;have ak:(((Co J lk k).take i).filter fun t=>t.2.2.testBit p).length≤3489660928:=Nat.le_trans (List.length_filter_le _ _) (by rw [List.length_take];omega);refine Ac.b (S:=fun c=>c=((((Co J lk k).take (i+1)).filter fun t=>t.2.2.testBit p).length:Int)) ?_ ?_
    ·rw [List.take_add_one,List.getElem?_eq_getElem hi];simp only [Option.toList_some];rw [List.filter_append];refine Ac.ite (fun h=>?_) (fun h=>?_)
     ·refine Ac.AZ ((((Co J lk k).take i).filter fun t=>t.2.2.testBit p).length+1:Int) rfl (by omega) (by omega) ?_;refine Ac.intro ?_;simp [List.filter_cons,h]
     ·refine Ac.intro ?_;simp [List.filter_cons,h]
    ·rintro c rfl;refine Ac.AZ ((i+1:Nat):Int) (by simp) (by omega) (by omega) ?_;exact Ac.intro rfl
   ·rintro s rfl;unfold IB;refine Ac.neg (by simp) (Ac.intro ⟨_,rfl,?_⟩);rw [List.take_length]
  ·rintro c rfl;refine Ac.b (S:=fun v=>v=vd ((Co J lk k).filter fun t=>t.2.2.testBit p).length (Co J lk k).length) ?_ (by rintro v rfl;exact Ac.intro (.inr ⟨k,Z,rfl⟩));have ab:((Co J lk k).filter fun t=>t.2.2.testBit p).length≤(Co J lk k).length:=List.length_filter_le _ _;generalize ((Co J lk k).filter fun t=>t.2.2.testBit p).length=c at ab;generalize (Co J lk k).length=l at ae ab;refine Ac.b (S:=fun v=>v=vd c l - 1) ?_ ?_
   ·refine Ac.b (S:=fun b=>b=decide (0<c∧c<l)) ?_ ?_
    ·refine Ac.ite (fun h=>Ac.intro ?_) (fun h=>Ac.intro ?_)
     ·exact decide_eq_decide.2 (by omega)
     ·exact(decide_eq_false (by omega)).symm
    ·rintro b rfl;unfold vd;refine Ac.ite (fun h=>?_) (fun h=>?_)
     ·have h:=of_decide_eq_true h;refine Ac.AZ 1 rfl (by omega) (by omega) ?_;refine Ac.AZ 2 rfl (by omega) (by omega) ?_;refine Ac.intro ?_;rw [if_neg (by omega),if_pos h.2];rfl
     ·have h:¬(0<c∧c<l):=fun aa=>h (decide_eq_true aa);refine Ac.ite (fun aa=>?_) (fun aa=>?_)
      ·refine Ac.AZ 1 rfl (by omega) (by omega) ?_;refine Ac.intro ?_;rw [if_pos (by omega)];rfl
      ·refine Ac.intro ?_;rw [if_neg (by omega),if_neg (by omega)];rfl
   ·rintro v rfl;have:1≤vd c l∧vd c l≤3:=by unfold vd;split <;> (try split) <;> omega
    refine Ac.AZ (vd c l) (by omega) (by omega) (by omega) ?_;exact Ac.intro rfl
def Ey(J:JW)(lk:Br)(p:Nat):List Int:=((List.range 13).filter fun a=>(TA J lk a).any fun t=>decide (BX t≤p)).map fun(a:Nat)=>(a:Int)
theorem O4{J:JW}{lk:Br}{p:Nat}{x:Int}:x∈Ey J lk p↔∃t∈TT J lk,BX t≤p∧t.1=x:=by
 unfold Ey;simp only [List.mem_map,List.mem_filter,List.mem_range,List.any_eq_true,decide_eq_true_iff];constructor
 ·rintro⟨a,⟨O,t,K,W⟩,rfl⟩;exact⟨t,IM.2 ⟨a,O,K⟩,W,J3 K⟩
 ·rintro⟨t,O,K,rfl⟩;obtain⟨a,Z,U⟩:=IM.1 O;exact⟨a,⟨Z,t,U,K⟩,(J3 U).symm⟩
theorem Pu(J:JW)(lk:Br)(p:Nat):(Ey J lk p).length≤13:=by
 unfold Ey;rw [List.length_map];exact Nat.le_trans (List.length_filter_le _ _) (by simp)
theorem R7{F n p:Nat}{J:JW}{lk:Br}(am:268435456<F)(K:VJ n J)(O:BR n lk)(an:p≤4):f43 F J lk (p:Int)=some (if Ey J lk p= [] then([],11) else(Ey J lk p,0)):=by
 obtain⟨qs,e,Z⟩:=LG (F:=F) (by omega) K O;have ao:=Lh qs;refine Ac.C8 ?_;unfold f43;refine Ac.be (J5 (by omega) K O) ?_;refine Ac.neg (by simp) ?_;refine Ac.be (GK F _ _ _) ?_;refine Ac.neg (by simp;omega) ?_;refine Ac.be (Nq (by omega) K) ?_;refine Ac.be (b:=(J.1,J.2,DV J)) rfl ?_;refine Ac.be e ?_;have aa:((BU qs).filter fun q=>decide (q.2.1≤(p:Int))).map (fun q=>q.1)=Ey J lk p:=by
  unfold BU Ey;rw [List.filter_map,List.map_map,List.filter_filter];have:(List.range 13).filter (fun j=>((fun q:Int×Int×List BE=>decide (q.2.1≤(p:Int)))∘partOf qs) j&&decide (0<(qs j).2.length))=(List.range 13).filter fun a=>(TA J lk a).any fun t=>decide (BX t≤p):=by
   refine List.filter_congr fun j ab=>?_;have ae:=Z j (List.mem_range.1 ab);rw [Bool.eq_iff_iff];simp only [Function.comp,partOf,Bool.and_eq_true,decide_eq_true_iff,List.any_eq_true];rcases ae with⟨U,ag⟩ | ⟨k,U,⟨t,ht,ah⟩,ai,aj⟩
   ·constructor
    ·rintro⟨_,h⟩;rw [ag] at h;simp at h
    ·rintro⟨t,ht,_⟩;rw [U] at ht;simp at ht
   ·have:t∈(qs j).2:=by rw [aj];exact List.mem_filter.2 ⟨ht,by simpa using ah⟩
    have ak:=List.length_pos_of_mem this;constructor
    ·rintro⟨al,_⟩;have W:(qs j).1≤(p:Int):=of_decide_eq_true al;exact⟨t,ht,by omega⟩
    ·rintro⟨s,hs,ap⟩;have:=ai s hs;have W:(qs j).1≤(p:Int):=by omega
     exact⟨decide_eq_true W,ak⟩
  rw [this];rfl
 refine Ac.b (S:=fun r=>r=Ey J lk p) ?_ ?_
 ·rw [← aa];refine Ac.upto (BU qs).length (fun i s=>s=((((BU qs).take i).filter fun q=>decide (q.2.1≤(p:Int))).map (fun q=>q.1),(i:Int))) rfl (by omega) ?_ ?_
  ·rintro i s hi rfl;unfold IF;refine Ac.pos (by simp only;omega) ?_;refine Ac.Bq (m:=i) rfl hi ?_;refine Ac.b (S:=fun c=>c=(((BU qs).take (i+1)).filter fun q=>decide (q.2.1≤(p:Int))).map (fun q=>q.1)) ?_ ?_
   ·rw [List.take_add_one,List.getElem?_eq_getElem hi];simp only [Option.toList_some];rw [List.filter_append,List.map_append];refine Ac.ite (fun h=>?_) (fun h=>?_)
    ·refine Ac.IZ ?_ (Ac.intro ?_)
     ·rw [List.length_map];exact Nat.le_trans (Nat.add_le_add_right (Nat.le_trans (List.length_filter_le _ _) (show((BU qs).take i).length≤13 by rw [List.length_take];omega)) 1) (by omega)
     ·simp [List.filter_cons,h]
    ·refine Ac.intro ?_;simp [List.filter_cons,h]
   ·rintro c rfl;refine Ac.AZ ((i+1:Nat):Int) (by simp) (by omega) (by omega) ?_;exact Ac.intro rfl
  ·rintro s rfl;unfold IF;refine Ac.neg (by simp) (Ac.intro ⟨_,rfl,?_⟩);rw [List.take_length]
 ·rintro r rfl;refine Ac.ite (fun h=>?_) (fun h=>?_)
  ·rw [if_pos (List.length_eq_zero_iff.1 (by omega))];exact Ac.intro rfl
  ·rw [if_neg (fun e=>h (by rw [e];rfl))];exact Ac.intro rfl
theorem Rr{F:Nat}{l:List BE}(ab:l.length<F)(hlen:l.length<2 ^ 40)(h:∀t∈l,0≤t.1∧t.1<13):Ac (f87 F l) (fun r=>r<2 ^ 13∧∀a:Nat,r.testBit a=true↔∃t∈l,t.1=(a:Int)):=by
 unfold f87;refine Ac.b (S:=fun r=>r<2 ^ 13∧∀a:Nat,r.testBit a=true↔∃t∈l,t.1=(a:Int)) ?_ (fun r Z=>Ac.intro Z);refine Ac.upto l.length (fun i s=>s.2=(i:Int)∧s.1<2 ^ 13∧∀a:Nat,s.1.testBit a=true↔∃t∈l.take i,t.1=(a:Int)) ⟨rfl,by simp,fun a=>by simp⟩ (by omega) ?_ ?_
 ·rintro i ⟨s,c⟩ hi ⟨O,U,K⟩;simp only at O U K;subst O;unfold II;have hm:=h _ (List.getElem_mem hi);refine Ac.pos (by simp only;omega) ?_;refine Ac.Bq (m:=i) rfl hi ?_;have aa:l[i].1=((l[i].1.toNat:Nat):Int):=by omega
  have W:=Ka F (s:=s) (n:=l[i].1.toNat) (by omega) (by omega);rw [← aa] at W;refine Ac.be W ?_;refine Ac.AZ ((i+1:Nat):Int) (by simp) (by omega) (by omega) ?_;refine Ac.intro ⟨rfl,?_,fun a=>?_⟩
  ·refine Nat.or_lt_two_pow U ?_;rw [Nat.one_shiftLeft];exact Nat.pow_lt_pow_right (by omega) (by omega)
  ·simp only;rw [Nat.testBit_or,Bool.or_eq_true,K,Nat.one_shiftLeft,Nat.testBit_two_pow,decide_eq_true_iff,List.take_add_one,List.getElem?_eq_getElem hi];simp only [Option.toList_some,List.mem_append,List.mem_singleton];constructor
   ·rintro(⟨t,t1,t2⟩ | ae)
    ·exact⟨t,.inl t1,t2⟩
    ·exact⟨l[i],.inr rfl,by omega⟩
   ·rintro⟨t,t1 | t1,t2⟩
    ·exact .inl ⟨t,t1,t2⟩
    ·subst t1;exact .inr (by omega)
 ·rintro⟨s,c⟩ ⟨O,U,K⟩;simp only at O U K;subst O;unfold II;refine Ac.neg (by simp) (Ac.intro ⟨_,rfl,U,?_⟩);rw [List.take_length] at K;exact K
end Pal
namespace Pal
def Ei(J:JW)(a:Nat)(p:List Int):Prop:=(∀m,p[0]? =some m→∃k:Nat,m=(k:Int)∧(AG J a).testBit k=true)∧∀(y:Nat) m m',p[y]? =some m→p[y+1]? =some m'→m'∈J.1.getD m.toNat []
theorem Ei.range{n a:Nat}{J:JW}{p:List Int}(K:VJ n J)(h:Ei J a p):∀(y:Nat) m,p[y]? =some m→0≤m∧m<(n:Int)
 | 0,m,hm=>by
  obtain⟨k,rfl,O⟩:=h.1 m hm
  have:=GA (Hw K a) O
  omega
 | y+1,m,hm=>by
  have U:y<p.length:=by have:=(List.getElem?_eq_some_iff.1 hm).1;omega
  exact(K.Fe _).inr _ (h.2 y p[y] m (List.getElem?_eq_getElem U) hm)
theorem Ei.take{a:Nat}{J:JW}{p:List Int}(h:Ei J a p)(k:Nat):Ei J a (p.take k):=by
 have key:∀(y:Nat) m,(p.take k)[y]? =some m→p[y]? =some m:=fun y m hm=>by
  rw [List.getElem?_take] at hm;split at hm
  ·exact hm
  ·cases hm
 exact⟨fun m hm=>h.1 m (key 0 m hm),fun y m m' K O=>h.2 y m m' (key _ _ K) (key _ _ O)⟩
theorem Ei.snoc{a:Nat}{J:JW}{p:List Int}{m x:Int}(h:Ei J a (p++ [m]))(U:x∈J.1.getD m.toNat []):Ei J a (p++ [m]++ [x]):=by
 constructor
 ·intro y O;rw [List.getElem?_append_left (by simp)] at O;exact h.1 y O
 ·intro y u W hu K;rcases Nat.lt_or_ge (y+1) (p++ [m]).length with Z | aa
  ·rw [List.getElem?_append_left (by omega)] at hu;rw [List.getElem?_append_left Z] at K;exact h.2 y u W hu K
  ·have ab:=(List.getElem?_eq_some_iff.1 K).1;simp only [List.length_append,List.length_singleton] at aa ab;have e:y=p.length:=by omega
   subst e;rw [List.getElem?_append_left (by simp),List.getElem?_append_right (by omega)] at hu;rw [List.getElem?_append_right (by simp)] at K;simp at hu K;subst hu;subst K;exact U
theorem Qe{n a q:Nat}{J:JW}{x:Int}(K:VJ n J)(O:(AG J a).testBit q=true)(U:x∈J.1.getD q []):∃k:Nat,x=(k:Int)∧(AG J (a+1)).testBit k=true:=by
 have W:=(K.Fe q).inr x U;refine⟨x.toNat,by omega,?_⟩;show(EF J.1 (AG J a)).testBit _=true;rw [Mn K];exact⟨q,by have:=GA (Hw K a) O;have:=K.le;omega,O,by rw [show((x.toNat:Nat):Int)=x by omega];exact U⟩
theorem VJ.N3{n q:Nat}{J:JW}(K:VJ n J)(U:q<n):J.1[q]? =some (J.1.getD q [])∧0<(J.1.getD q []).length:=by
 have W:=K.l1;have O:J.1[q]? =some (J.1.getD q []):=by rw [List.getD_eq_getElem?_getD,List.getElem?_eq_getElem (by omega)];rfl
 exact⟨O,(K.nx q _ O).2⟩
theorem RJ{F k n yrs:Nat}{b:DW}{J:JW}(aD:100<F)(K:VJ n J)(hb:BG k b)(aE:k<1000)(aF:yrs≤20):
  Ac (f45 F b J (yrs:Int)) (fun r=>∃a:Nat,r.1=(a:Int)∧a≤6∧r.2.1.length=yrs∧Ei J a r.2.1∧BG (k+30) r.2.2):=by
 have aG:=K.le;have aH:=K.pos;unfold f45;refine Ac.b (FR hb (by omega) (by omega)) ?_;rintro⟨ao,aI⟩ ⟨ar,au,ap⟩;simp only at ar au ap ⊢;obtain⟨a,rfl⟩:∃a:Nat,ao=(a:Int):=⟨ao.toNat,by omega⟩;refine Ac.b (S:=fun r=>∃q:Nat,r.1=(q:Int)∧(AG J a).testBit q=true∧BG (k+7) r.2) ?_ ?_
 ·refine Ac.upto a (fun i s=>∃q:Nat,s.2.2.2.1=(q:Int)∧(AG J i).testBit q=true∧s.2.2.2.2=(i:Int)∧BG (k+1+i) (s.1,s.2.1,s.2.2.1)) ⟨0,rfl,by show(1:Nat).testBit 0=true;decide,rfl,ap⟩ (by omega) ?_ ?_
  ·rintro i ⟨s1,s2,al,aa,ak⟩ hi ⟨q,O,ab,ae,ag⟩;simp only at O ae ag;subst O;subst ae;unfold IT;have av:=GA (Hw K i) ab;obtain⟨am,an⟩:=K.N3 av;refine Ac.pos (by simp only;omega) ?_;refine Ac.be (ET (m:=q) rfl am) ?_;refine Ac.b (IV (F:=F) ag (by omega) an (by have:=(K.Fe q).len;omega)) ?_;rintro⟨x,aw⟩ ⟨ah,ai⟩;simp only at ah ai ⊢;obtain⟨ay,rfl,az⟩:=Qe K ab ah;refine Ac.AZ ((i+1:Nat):Int) (by simp) (by omega) (by omega) ?_;exact Ac.intro ⟨ay,rfl,az,rfl,ai⟩
  ·rintro⟨s1,s2,al,aa,ak⟩ ⟨q,O,ab,ae,ag⟩;simp only at O ae ag;subst O;subst ae;unfold IT;exact Ac.neg (by simp) (Ac.intro ⟨_,rfl,q,rfl,ab,ag.mono (by omega)⟩)
 ·rintro⟨aJ,aw⟩ ⟨q,O,ab,ai⟩;simp only at O ai ⊢;subst O;refine Ac.b (S:=fun r=>r.1.length=yrs∧Ei J a r.1∧BG (k+30) r.2) ?_ ?_
  ·refine Ac.upto yrs (fun i s=>s.2.2.2.2.1.length=i∧s.2.2.2.2.2=(i:Int)∧Ei J a (s.2.2.2.2.1++ [s.2.2.2.1])∧BG (k+7+i) (s.1,s.2.1,s.2.2.1)) ⟨rfl,rfl,⟨?_,?_⟩,ai⟩ (by omega) ?_ ?_
   ·intro m hm;simp at hm;subst hm;exact⟨q,rfl,ab⟩
   ·intro y m m' _ aA;simp at aA
   ·rintro i ⟨s1,s2,al,aa,ak,aB⟩ hi ⟨U,Z,W,aj⟩;simp only at U Z W aj;subst Z;unfold IE;have aK:=W.range K i aa (by rw [List.getElem?_append_right (by omega)];simp [U]);obtain⟨u,hu⟩:∃u:Nat,aa=(u:Int):=⟨aa.toNat,by omega⟩;subst hu;obtain⟨am,an⟩:=K.N3 (q:=u) (by omega);refine Ac.pos (by simp only;omega) ?_;refine Ac.IZ (by simp only;omega) ?_;refine Ac.be (ET (m:=u) rfl am) ?_;refine Ac.b (IV (F:=F) aj (by omega) an (by have:=(K.Fe u).len;omega)) ?_;rintro⟨x,aC⟩ ⟨ah,aq⟩;simp only at ah aq ⊢;refine Ac.AZ ((i+1:Nat):Int) (by simp) (by omega) (by omega) ?_;exact Ac.intro ⟨by simp [U],rfl,W.snoc (by simpa using ah),aq⟩
   ·rintro⟨s1,s2,al,aa,ak,aB⟩ ⟨U,Z,W,aj⟩;simp only at U Z W aj;subst Z;unfold IE;refine Ac.neg (by simp) (Ac.intro ⟨_,rfl,U,?_,aj.mono (by omega)⟩);have:=W.take ak.length
    rwa [List.take_left' rfl] at this
  ·rintro⟨ms,aC⟩ ⟨U,Z,W⟩;exact Ac.intro ⟨a,rfl,by omega,U,Z,W⟩
theorem BR.snoc{n:Nat}{lk:Br}{l:Int×Int}(h:BR n lk)(aa:lk.length<4)(U:0≤l.1∧l.1≤6)(W:0≤l.2∧l.2<(n:Int))(Z:∀x∈lk,x.1≤l.1):BR n (lk++ [l]) where
 len:=by simp;omega
 yr x K:=by
  rcases List.mem_append.1 K with K | K
  ·exact h.yr x K
  ·simp at K;subst K;exact U
 sn x K:=by
  rcases List.mem_append.1 K with K | K
  ·exact h.sn x K
  ·simp at K;subst K;exact W
 G7:=by
  rw [List.pairwise_append];exact⟨h.G7,by simp,fun x K y O=>by simp at O;subst O;exact Z x K⟩
theorem BR.nil{n:Nat}:BR n []:=⟨by simp,by simp,by simp,by simp⟩
theorem RM{F k n many:Nat}{b:DW}{J:JW}{ms:List Int}(fl:Bool)(aH:100<F)(ai:VJ n J)(hb:BG k b)(aI:k<1000)(hm:many≤4)(ar:0<ms.length∧ms.length≤7)(aa:∀(y:Nat) m,ms[y]? =some m→0≤m∧m<(n:Int)):
  Ac (f46 F b J ms (many:Int) fl) (fun r=>BR n r.1∧r.1.length≤many∧(∀l∈r.1,l.1.toNat<ms.length)∧(fl=false→∀l∈r.1,ms[l.1.toNat]? =some l.2)∧BG (k+30) r.2):=by
 have au:=ai.l2;unfold f46;refine Ac.b (FR hb (by omega) (by omega)) ?_;rintro⟨ct,aJ⟩ ⟨av,aw,aj⟩;simp only at av aw aj ⊢;obtain⟨c,rfl⟩:∃c:Nat,ct=(c:Int):=⟨ct.toNat,by omega⟩;refine Ac.b (S:=fun r=>BR n r.1∧r.1.length≤many∧(∀l∈r.1,l.1.toNat<ms.length)∧(fl=false→∀l∈r.1,ms[l.1.toNat]? =some l.2)∧BG (k+30) r.2) ?_ (fun r aa=>Ac.intro aa);refine Ac.iter (fun m s=>∃y:Nat,s.2.2.2.2.2=(m:Int)∧s.2.2.2.2.1=(y:Int)∧y<ms.length∧s.2.2.2.1.length+m≤many∧BR n s.2.2.2.1∧(∀l∈s.2.2.2.1,l.1≤(y:Int))∧(fl=false→∀l∈s.2.2.2.1,ms[l.1.toNat]? =some l.2)∧BG (k+29 - 4*m) (s.1,s.2.1,s.2.2.1)) ?_ (m:=c) ⟨0,rfl,rfl,ar.1,by simp;omega,BR.nil,by simp,by simp,aj.mono (by omega)⟩ (by omega);rintro m ⟨s1,s2,aK,out,yr,cnt⟩ ⟨y,ak,al,aL,hlen,U,hle,ab,ae⟩;simp only at ak al hlen U hle ab ae;subst ak;subst al;unfold J8;refine Ac.ite (fun ay=>?_) (fun az=>?_)
 ·simp only at ay;have aM:0<m:=by omega
  refine Ac.AZ ((ms.length - 1:Nat):Int) (by omega) (by omega) (by omega) ?_;refine Ac.AZ ((y+2:Nat):Int) (by simp only;omega) (by omega) (by omega) ?_;refine Ac.b (J9 (F:=F) ae (by omega) (by simp only;omega) (by simp only;omega) (by omega)) ?_;rintro⟨am,aN⟩ ⟨v1,v2,ag⟩;simp only at v1 v2 ag ⊢;obtain⟨z,rfl⟩:∃z:Nat,am=(z:Int):=⟨am.toNat,by omega⟩;have an:z<ms.length:=by omega
  have W:ms[z]? =some ms[z]:=List.getElem?_eq_getElem an;obtain⟨aO,aA⟩:=aa z _ W;obtain⟨q,aB⟩:∃q:Nat,ms[z]=(q:Int):=⟨ms[z].toNat,by omega⟩;rw [aB] at W aA;have aP:q<n:=by omega
  have aC:J.2[q]? =some (J.2.getD q []):=by rw [List.getD_eq_getElem?_getD,List.getElem?_eq_getElem (by omega)];rfl
  have ao:=ai.Oa q;refine Ac.be (ET (m:=z) rfl W) ?_;refine Ac.be (ET (m:=z) rfl W) ?_;refine Ac.be (ET (m:=q) rfl aC) ?_;refine Ac.b (S:=fun c=>c=true→fl=true∧0<(J.2.getD q []).length) ?_ ?_
  ·refine Ac.ite (fun h=>Ac.intro fun O=>⟨h,by have:=of_decide_eq_true O;omega⟩) (fun _=>Ac.intro fun O=>by cases O)
  ·intro aQ aD;refine Ac.b (S:=fun r=>(r.1=true→fl=true∧0<(J.2.getD q []).length)∧BG (k+29 - 4*m+2) r.2) ?_ ?_
   ·refine Ac.ite (fun h=>?_) (fun _=>Ac.intro ⟨fun O=>(by cases O),BG.mono ag (by omega)⟩);refine Ac.b (IS (F:=F) ag (by omega) (by omega) (by omega)) ?_;rintro⟨o,aE⟩ Z;exact Ac.intro ⟨fun _=>aD h,Z⟩
   ·rintro⟨c2,aE⟩ ⟨ap,Z⟩;simp only at ap Z ⊢;refine Ac.b (S:=fun r=>0≤r.2.2.2∧r.2.2.2<(n:Int)∧(fl=false→r.2.2.2=(q:Int))∧BG (k+29 - 4*m+3) (r.1,r.2.1,r.2.2.1)) ?_ ?_
    ·refine Ac.ite (fun h=>?_) (fun _=>Ac.intro ⟨by simp only;omega,by simp only;omega,fun _=>rfl,BG.mono Z (by omega)⟩);obtain⟨f1,f2⟩:=ap h;refine Ac.b (IV (F:=F) Z (by omega) f2 (by have:=ao.len;omega)) ?_;rintro⟨x,aR⟩ ⟨ah,aF⟩;have:=ao.inr x ah;exact Ac.intro ⟨this.1,this.2,fun O=>(by rw [f1] at O;cases O),aF⟩
    ·rintro⟨u1,aS,aT,sn⟩ ⟨w1,w2,w3,w4⟩;simp only at w1 w2 w3 w4 ⊢;refine Ac.IZ (by have:=U.len;omega) ?_;refine Ac.AZ ((m - 1:Nat):Int) (by omega) (by omega) (by omega) ?_;refine Ac.intro ⟨m - 1,by omega,z,rfl,rfl,an,by simp;omega,?_,?_,?_,w4.mono (by omega)⟩
     ·exact U.snoc (by have:=U.len;omega) ⟨by simp only;omega,by simp only;omega⟩ ⟨w1,w2⟩ fun x ah=>by have:=hle x ah;simp only;omega
     ·intro l K;rcases List.mem_append.1 K with K | K
      ·have:=hle l K;omega
      ·simp at K;subst K;exact Int.le_refl _
     ·intro aq l K;rcases List.mem_append.1 K with K | K
      ·exact ab aq l K
      ·simp at K;subst K;rw [w3 aq];exact W
 ·simp only at az;have aG:m=0:=by omega
  subst aG;exact Ac.intro ⟨U,by omega,fun l K=>by have aU:=hle l K;have au:=U.yr l K;omega,ab,ae.mono (by omega)⟩
end Pal
namespace Pal
def NY(J:JW)(lk:Br)(p:List Int):Prop:=∀l∈lk,∀m,p[l.1.toNat]? =some m→Dy J m l=true
def C9(lk:Br):Nat→List Int→Nat
 | _,[]=>0
 | y,m::p=>BY lk y m lk.length ||| C9 lk (y+1) p
theorem MP(lk:Br)(i:Nat):∀(p:List Int) (y:Nat),(C9 lk y p).testBit i=true↔∃l,lk[i]? =some l∧∃(q:Nat) (m:Int),p[q]? =some m∧l.1=((y+q:Nat):Int)∧m≠l.2
 | [],y=>by simp [C9]
 | m::p,y=>by
  unfold C9
  rw [Nat.testBit_or,Bool.or_eq_true,MK,MP lk i p (y+1)]
  constructor
  ·rintro(⟨_,l,K,O,U⟩ | ⟨l,K,q,u,O,U,W⟩)
   ·exact⟨l,K,0,m,rfl,by simpa using O,U⟩
   ·exact⟨l,K,q+1,u,by simpa using O,by rw [U];congr 1;omega,W⟩
  ·rintro⟨l,K,q,u,O,U,W⟩;cases q with
   | zero=>
    simp at O;subst O;exact .inl ⟨(List.getElem?_eq_some_iff.1 K).1,l,K,by simpa using U,W⟩
   | succ q=>exact .inr ⟨l,K,q,u,by simpa using O,by rw [U];congr 1;omega,W⟩
def HT(J:JW)(lk:Br):Nat→Nat→List Int→Prop
 | _,_,[]=>True
 | y,sm,m::p=>m∈By sm 16∧Dl J lk y m=true∧HT J lk (y+1) (BP (J.1.getD m.toNat [])) p
theorem Iu(J:JW)(lk:Br)(x:List Int×Nat):∀(k sm:Nat) (ms:List Int) (fl:Nat),x∈CV J lk k sm ms fl↔∃p,p.length=k∧x.1=ms++p∧HT J lk ms.length sm p∧x.2=fl ||| C9 lk ms.length p
 | 0,sm,ms,fl=>by
  unfold CV
  rw [List.mem_singleton]
  constructor
  ·rintro rfl;exact⟨[],rfl,by simp,trivial,by simp [C9]⟩
  ·rintro⟨p,K,O,_,U⟩;have:p= []:=List.length_eq_zero_iff.1 K;subst this;simp [C9] at O U;exact Prod.ext O U
 | k+1,sm,ms,fl=>by
  unfold CV;rw [List.mem_flatMap];constructor
  ·rintro⟨m,hm,W⟩;split at W
   ·rename_i hb;obtain⟨p,K,O,U,Z⟩:=(Iu J lk x k _ _ _).1 W;refine⟨m::p,by simp [K],by rw [O];simp,⟨hm,hb,by simpa using U⟩,?_⟩;rw [Z];simp only [List.length_append,List.length_singleton,C9];exact Nat.or_assoc _ _ _
   ·simp at W
  ·rintro⟨p,K,O,U,Z⟩;cases p with
   | nil=>simp at K
   | cons m p=>
    obtain⟨aa,ab,ae⟩:=U;refine⟨m,aa,?_⟩;rw [if_pos ab];refine(Iu J lk x k _ _ _).2 ⟨p,by simpa using K,by rw [O];simp,by simpa using ae,?_⟩;rw [Z];simp only [List.length_append,List.length_singleton,C9];exact(Nat.or_assoc _ _ _).symm
theorem Qk{J:JW}{lk:Br}{y:Nat}{m:Int}:Dl J lk y m=true↔∀l∈lk,l.1=(y:Int)→Dy J m l=true:=by
 unfold Dl;rw [List.all_eq_true];refine forall_congr' fun l=>forall_congr' fun _=>?_;rw [Bool.or_eq_true,decide_eq_true_iff];by_cases h:l.1=(y:Int) <;> simp [h]
theorem LC{n q:Nat}{J:JW}{m:Int}(U:VJ n J):m∈By (BP (J.1.getD q [])) 16↔m∈J.1.getD q []:=by
 have K:=U.Fe q;have Z:=U.le;rw [FH];constructor
 ·rintro⟨k,_,W,rfl⟩;rw [H7 (fun x O=>(K.inr x O).1)] at W;exact of_decide_eq_true W
 ·intro h;have:=K.inr m h;refine⟨m.toNat,by omega,?_,by omega⟩;rw [H7 (fun x O=>(K.inr x O).1),show((m.toNat:Nat):Int)=m by omega];exact decide_eq_true h
theorem JY{n:Nat}{J:JW}{lk:Br}(ab:VJ n J):∀(p:List Int) (y sm:Nat),HT J lk y sm p↔(∀m,p[0]? =some m→m∈By sm 16)∧(∀(q:Nat) m m',p[q]? =some m→p[q+1]? =some m'→m'∈J.1.getD m.toNat [])∧∀l∈lk,∀(q:Nat) m,l.1=((y+q:Nat):Int)→p[q]? =some m→Dy J m l=true
 | [],y,sm=>by simp [HT]
 | m::p,y,sm=>by
  unfold HT
  rw [JY ab p,Qk]
  constructor
  ·rintro⟨ae,U,W,ag,ah⟩
   refine⟨fun u hu=>by simp at hu;subst hu;exact ae,fun q u Z hu O=>?_,fun l K q u aa hu=>?_⟩
   ·cases q with
    | zero=>
     simp at hu O;subst hu;exact(LC ab).1 (W Z (by rw [List.getElem?_eq_some_iff];exact List.getElem?_eq_some_iff.1 O))
    | succ q=>exact ag q u Z (by simpa using hu) (by simpa using O)
   ·cases q with
    | zero=>
     simp at hu;subst hu;exact U l K (by simpa using aa)
    | succ q=>exact ah l K q u (by rw [aa];congr 1;omega) (by simpa using hu)
  ·rintro⟨ae,U,W⟩;refine⟨ae m rfl,fun l K ai=>W l K 0 m (by simpa using ai) rfl,fun u hu=>(LC ab).2 (U 0 m u rfl (by simpa using hu)),fun q u Z hu O=>U (q+1) u Z (by simpa using hu) (by simpa using O),fun l K q u aa hu=>W l K (q+1) u (by rw [aa];congr 1;omega) (by simpa using hu)⟩
theorem Nz{n a:Nat}{J:JW}{lk:Br}(U:VJ n J)(ai:BR n lk){t:BE}:t∈TA J lk a↔t.1=(a:Int)∧t.2.1.length=Cn lk+1∧Ei J a t.2.1∧NY J lk t.2.1∧t.2.2=C9 lk 0 t.2.1:=by
 have ab:∀m:Int,m∈By (AG J a) 16↔∃k:Nat,m=(k:Int)∧(AG J a).testBit k=true:=fun m=>by
  rw [FH];exact⟨fun⟨k,_,O,K⟩=>⟨k,K,O⟩,fun⟨k,O,K⟩=>⟨k,by have:=GA (Hw U a) K;have:=U.le;omega,K,O⟩⟩
 have ae:∀p:List Int,(∀l∈lk,∀(q:Nat) m,l.1=((0+q:Nat):Int)→p[q]? =some m→Dy J m l=true)↔NY J lk p:=fun p=>by
  constructor
  ·intro h l W m hm;have:=ai.yr l W;exact h l W l.1.toNat m (by omega) hm
  ·intro h l W q m an hm;exact h l W m (by rw [show l.1.toNat=q by omega];exact hm)
 unfold TA;rw [List.mem_map];constructor
 ·rintro⟨x,aj,rfl⟩;obtain⟨p,O,K,Z,aa⟩:=(Iu J lk x _ _ _ _).1 aj;obtain⟨ak,al,am⟩:=(JY U p _ _).1 Z;simp only [List.nil_append] at K;rw [K,aa];refine⟨rfl,O,⟨fun m hm=>(ab m).1 (ak m hm),al⟩,(ae p).1 am,?_⟩;simp
 ·rintro⟨O,K,⟨Z,aa⟩,ag,ah⟩;obtain⟨t1,t2,t3⟩:=t;simp only at O K Z aa ag ah;subst O;subst ah;refine⟨(t2,C9 lk 0 t2),(Iu J lk _ _ _ _ _).2 ⟨t2,K,by simp,(JY U t2 _ _).2 ⟨fun m hm=>(ab m).2 (Z m hm),aa,(ae t2).2 ag⟩,by simp⟩,rfl⟩
def HK(p:List Int)(l:Int×Int):Bool:=decide (p.getD l.1.toNat 0≠l.2)
theorem Lx{α:Type}(lk:List α)(Q:α→Bool):∀k,((List.range k).filter fun i=>(lk[i]?.map Q).getD false).length=((lk.take k).filter Q).length
 | 0=>by simp
 | k+1=>by
  rw [List.range_succ,List.filter_append,List.length_append,Lx lk Q k,List.take_add_one,List.filter_append,List.length_append]
  congr 1
  cases h:lk[k]? with
  | none=>simp [h]
  | some x=>cases K:Q x <;> simp [h,K]
theorem PG{n:Nat}{lk:Br}{p:List Int}(W:BR n lk)(Z:∀l∈lk,l.1.toNat<p.length)(i:Nat):(C9 lk 0 p).testBit i=(lk[i]?.map (HK p)).getD false:=by
 rw [Bool.eq_iff_iff,MP];cases h:lk[i]? with
 | none=>simp
 | some l=>
  have hm:=List.mem_of_getElem? h;have K:=Z l hm;have ae:=W.yr l hm;have aa:p.getD l.1.toNat 0=p[l.1.toNat]:=by rw [List.getD_eq_getElem?_getD,List.getElem?_eq_getElem K];rfl
  simp only [Option.map_some,Option.getD_some,HK,decide_eq_true_iff,aa];constructor
  ·rintro⟨ag,O,q,m,U,ah,ab⟩;cases O;have:l.1.toNat=q:=by omega
   subst this;rw [List.getElem?_eq_getElem K] at U;cases U;exact ab
  ·intro O;exact⟨l,rfl,l.1.toNat,_,List.getElem?_eq_getElem K,by omega,O⟩
theorem Mc{n:Nat}{lk:Br}(O:BR n lk):∀l∈lk,l.1.toNat≤Cn lk:=by
 intro l U;obtain⟨i,hi,rfl⟩:=List.mem_iff_getElem.1 U;have K:lk.length - 1<lk.length:=by omega
 unfold Cn;rw [List.getLast?_eq_getElem?,List.getElem?_eq_getElem K];simp only;rcases Nat.lt_or_ge i (lk.length - 1) with h | h
 ·have:=List.pairwise_iff_getElem.1 O.G7 i (lk.length - 1) hi K h;omega
 ·have e:i=lk.length - 1:=by omega
  subst e;exact Nat.le_refl _
theorem Qb{n a:Nat}{J:JW}{lk:Br}(O:VJ n J)(K:BR n lk){t:BE}(ht:t∈TA J lk a):BX t=(lk.filter (HK t.2.1)).length:=by
 obtain⟨_,Z,_,_,U⟩:=(Nz O K).1 ht;have aa:=K.len;unfold BX By;rw [List.length_map,U];have e:(List.range 16).filter (fun i=>(C9 lk 0 t.2.1).testBit i)=(List.range 16).filter fun i=>(lk[i]?.map (HK t.2.1)).getD false:=
  List.filter_congr fun i _=>PG K (fun l W=>by have:=Mc K l W;omega) i
 rw [e,Lx,List.take_of_length_le (by omega)]
theorem Po{J:JW}{m:Int}{l:Int×Int}:Dy J m l=true↔m=l.2∨l.2∈J.2.getD m.toNat []:=by
 unfold Dy;simp
end Pal
namespace Pal
theorem OV(s k:Nat):(By s k).Pairwise (·<·):=by
 unfold By;rw [List.pairwise_map];exact(List.pairwise_lt_range.filter _).imp fun h=>by omega
theorem R4{F n:Nat}{J:JW}{lk:Br}(ak:3489660928<F)(ab:VJ n J)(Z:BR n lk):
  Ac (f61 F J lk) (fun r=>(TT J lk= []∧r=((0,0),11))∨∃k,FW J lk k∧r.2=0∧(∃t∈Co J lk k,t.1=r.1.1)∧(∃t∈Co J lk k,t.1=r.1.2)∧∀t∈Co J lk k,r.1.1≤t.1∧t.1≤r.1.2):=by
 unfold f61;refine Ac.b (asked (by omega) ab Z ⟨by omega,by omega⟩) ?_;rintro⟨x,q,e⟩ (⟨U,K,O⟩ | ⟨k,U,K,O⟩)
 ·simp only at K O;subst K;subst O;exact Ac.pos (by simp) (Ac.intro (.inl ⟨U,rfl⟩))
 ·simp only at K O;subst K;subst O;refine Ac.neg (by simp) ?_;have al:(Co J lk k).length≤3489660928:=Nat.le_trans (List.length_filter_le _ _) (MY Z);have ah:=U.pos;have ae:∀t∈Co J lk k,0≤t.1∧t.1<13:=fun t ht=>(NU (F:=F) (by omega) ab Z (List.mem_filter.1 ht).1).2;refine Ac.b (Rr (by simp only;omega) (by simp only;omega) ae) ?_;rintro s ⟨s1,s2⟩;refine Ac.be (IL (by omega) (by omega)) ?_;have W:∀x:Int,x∈By s 16↔∃t∈Co J lk k,t.1=x:=fun x=>by
   rw [FH];constructor
   ·rintro⟨a,_,K,rfl⟩;exact(s2 a).1 K
   ·rintro⟨t,ht,rfl⟩;have:=ae t ht;exact⟨t.1.toNat,by omega,(s2 _).2 ⟨t,ht,by omega⟩,by omega⟩
  have am:=H3 s 16;have aa:0<(By s 16).length:=List.length_pos_of_mem ((W _).2 ⟨_,List.getElem_mem ah,rfl⟩);have ai:=OV s 16;refine Ac.Bq (m:=0) rfl aa ?_;refine Ac.AZ (((By s 16).length - 1:Nat):Int) (by omega) (by omega) (by omega) ?_;refine Ac.Bq (m:=(By s 16).length - 1) rfl (by omega) ?_;refine Ac.intro (.inr ⟨k,U,rfl,(W _).1 (List.getElem_mem aa),(W _).1 (List.getElem_mem (by omega)),fun t ht=>?_⟩);obtain⟨i,hi,aj⟩:=List.mem_iff_getElem.1 ((W _).2 ⟨t,ht,rfl⟩);have ag:=List.pairwise_iff_getElem.1 ai;simp only;rw [← aj];constructor
  ·rcases Nat.eq_zero_or_pos i with rfl | h
   ·exact Int.le_refl _
   ·have:=ag 0 i aa hi h;omega
  ·rcases Nat.lt_or_ge i ((By s 16).length - 1) with h | h
   ·have:=ag i _ hi (by omega) h;omega
   ·have e:i=(By s 16).length - 1:=by omega
    subst e;exact Int.le_refl _
end Pal
namespace Pal
open Go Go.Conc Go.Proofs
open Go.Proofs.Tryz
def IQ(fuel:Nat)(W:((List (List Int))×(List (List Int)))×((List Int)×Int×Nat))(O:(List (Int×Int))×((List Int)×Int×Nat))(K:Int):Option (AV (Int) ((Bool)⊕(Unit))):=
 if K<((O.1).length:Int) then(
  (f49 fuel W.1 O.1 K).bind fun U=>
  Option.bind (
   if U.2≠0 then(
    some true
   ) else(
    some (decide (U.1≠2))
   )
  ) fun Z=>
  if Z=true then(
   some (.done (Sum.inl false))
  ) else(
   (Av (K+1)).bind fun aa=>
   some (.more aa)
  )
 ) else(
  some (.done (Sum.inr ()))
 )
def f16(fuel:Nat)(p0:List Int):Option (Bool):=
 (f23 fuel p0).bind fun ab=>
 (f39 fuel ab 7).bind fun K=>
 (f45 fuel K.2 K.1 6).bind fun O=>
 (f46 fuel O.2.2 K.1 O.2.1 4 false).bind fun U=>
 (f47 fuel K.1 U.1).bind fun Z=>
 (f43 fuel K.1 U.1 0).bind fun aa=>
 (f61 fuel K.1 U.1).bind fun W=>
 Option.bind (
  if Z.2≠0 then(
   some true
  ) else(
   some (decide (aa.2≠0))
  )
 ) fun ae=>
 Option.bind (
  if ae=true then(
   some true
  ) else(
   some (decide (W.2≠0))
  )
 ) fun ag=>
 Option.bind (
  if ag=true then(
   some true
  ) else(
   some (decide (Z.1≠0))
  )
 ) fun ah=>
 Option.bind (
  if ah=true then(
   some true
  ) else(
   (f53 fuel aa.1 O.1).bind fun ai=>
   some (!ai)
  )
 ) fun aj=>
 Option.bind (
  if aj=true then(
   some true
  ) else(
   some (decide (O.1<W.1.1))
  )
 ) fun ak=>
 Option.bind (
  if ak=true then(
   some true
  ) else(
   some (decide (W.1.2<O.1))
  )
 ) fun al=>
 if al=true then(
  some false
 ) else(
  Option.bind (iter (IQ fuel K U) fuel 0) fun am=>
  Sum.elim (fun r=>some r) (fun ao=>
  (f22 fuel).bind fun an=>
  some an
  ) am
 )
theorem Q3{E H:LH}{a7:Option Addr}{c2:Nat}{p0:List Int}(cb:Aq rI E a7 c2 (p0)){fuel:Nat}{r:Bool}(a8:f16 fuel p0=some r):(Cd Tryz.prog).ok (Hl Tryz.prog (fun v _=>v= .bool r)) (G (Frame.enter Tryz.prog 16 ([.slice a7 (p0).length c2]:List Value).toArray .normal) []) (mk E H []):=by
 refine Ps func16 rfl rfl (Nat.le_of_ble_eq_true rfl) ?_;have cc:Az E H [[]]:=trivial;unfold f16 at a8;obtain⟨dB,cd,ce⟩:=bs a8;refine JL.go 7 rfl ?_;refine JS.cl (S8 cb cd) rfl rfl (Ay func23 rfl) cc ?_;rintro _ dC _ dD ⟨aF,dE,dF,rfl,rfl,cf⟩ cg;obtain⟨aj,ci,ck⟩:=bs ce;refine JL.go 5 rfl ?_;refine JS.Bv 1 (S7 cf ci) rfl rfl (Ay func39 rfl) cg rfl ?_;rintro _ dG _ dH ⟨a9,ba,bb,bc,cm,cn,rfl,rfl,an,ao,co⟩ cp;refine JS.alloc rfl rfl rfl cp (AM type24) fun aa cq=>?_;refine JS.norm (S':= [[],[(aF,.cells #[.slice cm (aj.2.1).length cn,iV aj.2.2.1,.int .u64 ((aj.2.2.2:Nat):Int)] 92 (0,0))],[(aa,.cells #[.slice none 0 0,.slice none 0 0] 24 (0,0))]]) rfl cq fun cr=>?_;refine JS.st (v:= .agg #[.slice a9 (aj.1.1).length ba,.slice bb (aj.1.2).length bc]) (off:=0) 2 cr (Ah type24) rfl rfl rfl rfl fun ct=>?_;refine JS.Bf 2 ct rfl fun cu U ah cv=>?_;replace ah:At cu aa 0 [.slice a9 (aj.1.1).length ba,.slice bb (aj.1.2).length bc]:=ah;refine JL.go 4 rfl ?_;refine JL.Bw ah (Ao underlying24) (Ah type24) rfl rfl ?_;obtain⟨au,cw,cy⟩:=bs ck;refine JS.Bv 1 (SP (co.mono U) (an.mono U) (ao.mono U) cw) rfl rfl (Ay func45 rfl) cv rfl ?_;rintro _ dI _ O ⟨dJ,dK,dL,dM,rfl,rfl,cz,cA⟩ cB;refine JL.go 9 rfl ?_;refine JL.Bw (ah.mono O) (Ao underlying24) (Ah type24) rfl rfl ?_;obtain⟨K,cC,cD⟩:=bs cy;refine JL.go 1 rfl ?_;refine JS.Bv 1 (SE cA (an.mono (U.trans O)) (ao.mono (U.trans O)) cz cC) rfl rfl (Ay func46 rfl) cB rfl ?_;rintro _ dN _ W ⟨ae,ag,cE,aN,aO,rfl,rfl,cF,dO⟩ cG;refine JS.part 1 rfl cG fun cH=>?_;refine JS.norm (S':= [[],[(aF,.cells #[.slice aN (K.2.1).length aO,iV K.2.2.1,.int .u64 ((K.2.2.2:Nat):Int)] 92 (0,0))],[],cE]) rfl cH fun cI=>?_;refine JL.go 4 rfl ?_;refine JL.Bw (ah.mono (O.trans W)) (Ao underlying24) (Ah type24) rfl rfl ?_;refine JL.go 1 rfl ?_;refine JS.BC 3 cF cI rfl fun dP ab aG cJ=>?_;obtain⟨aP,cK,cM⟩:=bs cD;refine JS.cl (SN (an.mono (((U.trans O).trans W).trans ab)) (ao.mono (((U.trans O).trans W).trans ab)) aG cK) rfl rfl (Ay func47 rfl) cJ ?_;rintro _ dQ _ Z ⟨rfl,rfl⟩ cN;refine JL.go 8 rfl ?_;refine JL.Bw (ah.mono (((O.trans W).trans ab).trans Z)) (Ao underlying24) (Ah type24) rfl rfl ?_;obtain⟨aQ,cO,cP⟩:=bs cM;refine JL.go 1 rfl ?_;refine JS.cl (NL (an.mono ((((U.trans O).trans W).trans ab).trans Z)) (ao.mono ((((U.trans O).trans W).trans ab).trans Z)) (aG.mono Z) cO) rfl rfl (Ay func43 rfl) cN ?_;rintro _ dR _ ai ⟨aR,aS,rfl,rfl,cQ⟩ cR;refine JS.norm (S':= [[],[(aF,.cells #[.slice aN (K.2.1).length aO,iV K.2.2.1,.int .u64 ((K.2.2.2:Nat):Int)] 92 (0,0))],[],[],[],[]]) rfl cR fun cT=>?_;refine JL.go 8 rfl ?_;refine JL.Bw (ah.mono ((((O.trans W).trans ab).trans Z).trans ai)) (Ao underlying24) (Ah type24) rfl rfl ?_;obtain⟨av,cV,cW⟩:=bs cP;refine JL.go 1 rfl ?_;refine JS.cl (SQ (an.mono (((((U.trans O).trans W).trans ab).trans Z).trans ai)) (ao.mono (((((U.trans O).trans W).trans ab).trans Z).trans ai)) (aG.mono (Z.trans ai)) cV) rfl rfl (Ay func61 rfl) cT ?_;rintro _ dS _ aw ⟨rfl,rfl⟩ cX;refine JL.go 3 rfl ?_;refine JS.alloc rfl rfl rfl cX (AM type81) fun ap cY=>?_;refine JS.st (v:= .agg #[iV av.1.1,iV av.1.2]) (off:=0) 7 cY (Ah type81) rfl rfl rfl rfl fun cZ=>?_;refine JS.Bf 7 cZ rfl fun aH ay aI c0=>?_;replace aI:At aH ap 0 [iV av.1.1,iV av.1.2]:=aI;refine JS.norm (S':= [[],[(aF,.cells #[.slice aN (K.2.1).length aO,iV K.2.2.1,.int .u64 ((K.2.2.2:Nat):Int)] 92 (0,0))],[],[],[],[],[],[]]) rfl c0 fun bd=>?_;obtain⟨bf,bg,c1⟩:=bs cW;refine JL.go 8 rfl ?_;refine JL.BA [6,7,8,9,10,11,12,13,14,15,16,17,18,19,20,21,22,23,24,25,26,27,28,29,30,31] (fun L s=>∃(az:LH),Jm aH H az [] [(4,.pointer (some ⟨aa,0,none⟩)),(5,iV au.1),(7,.slice ae (K.1).length ag),(8,iV aP.1),(10,.slice aR (aQ.1).length aS),(12,.pointer (some ⟨ap,0,none⟩)),(13,iV av.2),(54,.bool bf)] L s) ?_ ?_
 ·rintro _ _ ⟨az,rfl,rfl,ak,bh⟩;obtain⟨bi,bj,c3⟩:=bs c1;refine JL.go 1 rfl ?_;refine JL.BA [10,11,12,13,14,15,16,17,18,19,20,21,22,23,24,25,26,27,28,29,30,31] (fun L s=>∃(aA:LH),Jm az H aA [] [(4,.pointer (some ⟨aa,0,none⟩)),(5,iV au.1),(7,.slice ae (K.1).length ag),(8,iV aP.1),(10,.slice aR (aQ.1).length aS),(12,.pointer (some ⟨ap,0,none⟩)),(58,.bool bi)] L s) ?_ ?_
  ·rintro _ _ ⟨aA,rfl,rfl,al,bk⟩;obtain⟨bl,bm,c4⟩:=bs c3;refine JL.go 1 rfl ?_;refine JL.BA [14,15,16,17,18,19,20,21,22,23,24,25,26,27,28,29,30,31] (fun L s=>∃(aJ:LH),Jm aA H aJ [] [(4,.pointer (some ⟨aa,0,none⟩)),(5,iV au.1),(7,.slice ae (K.1).length ag),(10,.slice aR (aQ.1).length aS),(12,.pointer (some ⟨ap,0,none⟩)),(62,.bool bl)] L s) ?_ ?_
   ·rintro _ _ ⟨aJ,rfl,rfl,am,bn⟩;obtain⟨bo,bp,c5⟩:=bs c4;refine JL.go 1 rfl ?_;refine JL.BA [20,21,22,23,24,25,26,27,28,29,30,31] (fun L s=>∃(aB:LH),Jm aJ H aB [] [(4,.pointer (some ⟨aa,0,none⟩)),(5,iV au.1),(7,.slice ae (K.1).length ag),(12,.pointer (some ⟨ap,0,none⟩)),(68,.bool bo)] L s) ?_ ?_
    ·rintro _ _ ⟨aB,rfl,rfl,aq,bq⟩;obtain⟨br,bu,c6⟩:=bs c5;refine JL.go 1 rfl ?_;refine JL.BA [26,27,28,29,30,31] (fun L s=>∃(aC:LH),Jm aB H aC [] [(4,.pointer (some ⟨aa,0,none⟩)),(5,iV au.1),(7,.slice ae (K.1).length ag),(12,.pointer (some ⟨ap,0,none⟩)),(74,.bool br)] L s) ?_ ?_
     ·rintro _ _ ⟨aC,rfl,rfl,aD,bv⟩;obtain⟨bw,bx,bz⟩:=bs c6;refine JL.go 1 rfl ?_;refine JL.BA [] (fun L s=>∃(aE:LH),Jm aC H aE [] [(4,.pointer (some ⟨aa,0,none⟩)),(7,.slice ae (K.1).length ag),(80,.bool bw)] L s) ?_ ?_
      ·rintro _ _ ⟨aE,rfl,rfl,aK,c7⟩;refine JL.done ?_;refine JL.split (t:=bw) rfl (fun aT=>?_) (fun aT=>?_)
       ·have bA:=bz;rw [if_pos aT] at bA;refine JL.go 4 rfl ?_;obtain rfl:=oi bA;exact JL.EO rfl (JO.end (v:= .bool false) rfl (by decide+kernel) func16 rfl rfl rfl)
       ·have bB:=bz;rw [if_neg (by rw [aT];exact Bool.false_ne_true)] at bB;obtain⟨bC,c8,bD⟩:=bs bB;refine JL.go 6 rfl ?_;refine JL.join (fun L s=>∃(bE:Unit) (bF:LH),bC=Sum.inr bE∧Jm aE H bF [] [] L s) ?_ ?_
        ·rintro _ _ ⟨bE,bF,rfl,rfl,rfl,dT,c9⟩;have da:=elim_inr bD;obtain⟨db,dc,dd⟩:=bs da;refine JL.go 2 rfl ?_;refine JS.cl (SV dc) rfl rfl (Ay func22 rfl) c9 ?_;rintro _ dU _ dV ⟨rfl,rfl⟩ dW;refine JL.go 2 rfl ?_;obtain rfl:=oi dd;exact JL.EO rfl (JO.end (v:= .bool db) rfl (by decide+kernel) func16 rfl rfl rfl)
        ·intro de;refine JL.block ?_;refine JL.wk [(4,.pointer (some ⟨aa,0,none⟩)),(7,.slice ae (K.1).length ag),(14,iV 0)] rfl ?_;refine JL.Bi c8 (fun L s aL=>∃(aU:LH),Jm aE H aU [] [(4,.pointer (some ⟨aa,0,none⟩)),(7,.slice ae (K.1).length ag),(14,iV aL)] L s) ⟨aE,rfl,rfl,(Le.refl _),c7⟩ ?_;rintro _ _ aL ⟨aU,rfl,rfl,ar,bG⟩ bH ⟨dX,aM⟩ df;have aV:=aM;unfold IQ at aV;refine JL.go 5 rfl ?_;refine JL.Y rfl (fun ρ h=>Yl.len rfl underlying25 (h _ _ rfl)) ?_;refine JL.go 2 rfl ?_;refine JL.ifs (p:=aL<((K.1).length:Int)) rfl (fun aW=>?_) (fun aW=>?_)
         ·have bI:=aV;rw [if_pos aW] at bI;refine JL.go 5 rfl ?_;refine JL.Bw (ah.mono (((((((((((((O.trans W).trans ab).trans Z).trans ai).trans aw).trans ay).trans ak).trans al).trans am).trans aq).trans aD).trans aK).trans ar)) (Ao underlying24) (Ah type24) rfl rfl ?_;obtain⟨dg,dh,di⟩:=bs bI;refine JL.go 2 rfl ?_;refine JS.cl (NN (an.mono ((((((((((((((U.trans O).trans W).trans ab).trans Z).trans ai).trans aw).trans ay).trans ak).trans al).trans am).trans aq).trans aD).trans aK).trans ar)) (ao.mono ((((((((((((((U.trans O).trans W).trans ab).trans Z).trans ai).trans aw).trans ay).trans ak).trans al).trans am).trans aq).trans aD).trans aK).trans ar)) (aG.mono ((((((((((Z.trans ai).trans aw).trans ay).trans ak).trans al).trans am).trans aq).trans aD).trans aK).trans ar)) dh) rfl rfl (Ay func49 rfl) bG ?_;rintro _ aX _ dj ⟨rfl,rfl⟩ bJ;obtain⟨bK,bL,bM⟩:=bs di;refine JL.go 11 rfl ?_;refine JL.BA [] (fun L s=>∃(aY:LH),Jm aX H aY [] [(4,.pointer (some ⟨aa,0,none⟩)),(7,.slice ae (K.1).length ag),(14,iV aL),(99,.bool bK)] L s) ?_ ?_
          ·rintro _ _ ⟨aY,rfl,rfl,dk,dl⟩;refine JL.done ?_;refine JL.split (t:=bK) rfl (fun aZ=>?_) (fun aZ=>?_)
           ·have bN:=bM;rw [if_pos aZ] at bN;refine JL.go 4 rfl ?_;obtain rfl:=oi bN;obtain rfl:=bH _ aM;have dm:=elim_inl bD;obtain rfl:=oi dm;exact JL.EO rfl (JO.end (v:= .bool false) rfl (by decide+kernel) func16 rfl rfl rfl)
           ·have bO:=bM;rw [if_neg (by rw [aZ];exact Bool.false_ne_true)] at bO;obtain⟨dn,dp,dq⟩:=bs bO;refine JL.go 4 rfl ?_;refine JL.Y rfl (fun ρ h=>Yl.A0 (h _ _ rfl) (h _ _ rfl) dp) ?_;refine JL.go 2 rfl ?_;obtain rfl:=oi dq;exact JL.kw (df _ _ dn ⟨aY,rfl,rfl,((ar.trans dj).trans dk),dl⟩ aM) rfl
          ·intro bP;refine JL.B5 (q:=dg.2≠0) (i:=96) rfl (fun a0=>?_) (fun a0=>?_)
           ·have bQ:=bL;rw [if_pos a0] at bQ;refine JL.go 3 rfl ?_;obtain rfl:=oi bQ;exact JL.kw (bP _ _ ⟨aX,rfl,rfl,(Le.refl _),bJ⟩) rfl
           ·have bR:=bL;rw [if_neg a0] at bR;refine JL.go 3 rfl ?_;obtain rfl:=oi bR;exact JL.kw (bP _ _ ⟨aX,rfl,rfl,(Le.refl _),bJ⟩) rfl
         ·have bS:=aV;rw [if_neg aW] at bS;refine JL.exit rfl ?_;obtain rfl:=oi bS;have dr:bC=(Sum.inr ()):=(bH _ aM).symm;exact JL.kw (de _ _ ⟨(),aU,dr,rfl,rfl,ar,bG⟩) rfl
      ·intro bT;refine JL.Cg (c:=br) (i:=75) rfl (fun a1=>?_) (fun a1=>?_)
       ·have bU:=bx;rw [if_pos a1] at bU;refine JL.go 5 rfl ?_;obtain rfl:=oi bU;exact JL.kw (bT _ _ ⟨aC,rfl,rfl,(Le.refl _),bv⟩) rfl
       ·have bV:=bx;rw [if_neg (by rw [a1];exact Bool.false_ne_true)] at bV;refine JL.go 1 rfl ?_;refine JL.fd underlying81 (Ah type3) rfl rfl rfl ?_;refine JL.ld 1 (aI.mono ((((ak.trans al).trans am).trans aq).trans aD)) (Ao underlying3) rfl rfl rfl ?_;refine JL.go 2 rfl ?_;obtain rfl:=oi bV;exact JL.kw (bT _ _ ⟨aC,rfl,rfl,(Le.refl _),bv⟩) rfl
     ·intro bW;refine JL.Cg (c:=bo) (i:=69) rfl (fun a2=>?_) (fun a2=>?_)
      ·have bX:=bu;rw [if_pos a2] at bX;refine JL.go 5 rfl ?_;obtain rfl:=oi bX;exact JL.kw (bW _ _ ⟨aB,rfl,rfl,(Le.refl _),bq⟩) rfl
      ·have bY:=bu;rw [if_neg (by rw [a2];exact Bool.false_ne_true)] at bY;refine JL.go 1 rfl ?_;refine JL.fd underlying81 (Ah type3) rfl rfl rfl ?_;refine JL.ld 0 (aI.mono (((ak.trans al).trans am).trans aq)) (Ao underlying3) rfl rfl rfl ?_;refine JL.go 2 rfl ?_;obtain rfl:=oi bY;exact JL.kw (bW _ _ ⟨aB,rfl,rfl,(Le.refl _),bq⟩) rfl
    ·intro bZ;refine JL.Cg (c:=bl) (i:=63) rfl (fun a3=>?_) (fun a3=>?_)
     ·have b0:=bp;rw [if_pos a3] at b0;refine JL.go 5 rfl ?_;obtain rfl:=oi b0;exact JL.kw (bZ _ _ ⟨aJ,rfl,rfl,(Le.refl _),bn⟩) rfl
     ·have b1:=bp;rw [if_neg (by rw [a3];exact Bool.false_ne_true)] at b1;obtain⟨dt,du,dv⟩:=bs b1;refine JL.go 2 rfl ?_;refine JS.cl (S3 (cQ.mono ((((aw.trans ay).trans ak).trans al).trans am)) du) rfl rfl (Ay func53 rfl) bn ?_;rintro _ dw _ dx ⟨rfl,rfl⟩ dy;refine JL.Y (v:= .bool (!dt)) rfl (fun ρ h=>Yl.not (h _ _ rfl)) ?_;refine JL.go 1 rfl ?_;obtain rfl:=oi dv;exact JL.kw (bZ _ _ ⟨dw,rfl,rfl,dx,dy⟩) rfl
   ·intro b2;refine JL.Cg (c:=bi) (i:=59) rfl (fun a4=>?_) (fun a4=>?_)
    ·have b3:=bm;rw [if_pos a4] at b3;refine JL.go 3 rfl ?_;obtain rfl:=oi b3;exact JL.kw (b2 _ _ ⟨aA,rfl,rfl,(Le.refl _),bk⟩) rfl
    ·have b4:=bm;rw [if_neg (by rw [a4];exact Bool.false_ne_true)] at b4;refine JL.go 3 rfl ?_;obtain rfl:=oi b4;exact JL.kw (b2 _ _ ⟨aA,rfl,rfl,(Le.refl _),bk⟩) rfl
  ·intro b5;refine JL.Cg (c:=bf) (i:=55) rfl (fun a5=>?_) (fun a5=>?_)
   ·have b6:=bj;rw [if_pos a5] at b6;refine JL.go 3 rfl ?_;obtain rfl:=oi b6;exact JL.kw (b5 _ _ ⟨az,rfl,rfl,(Le.refl _),bh⟩) rfl
   ·have b7:=bj;rw [if_neg (by rw [a5];exact Bool.false_ne_true)] at b7;refine JL.go 3 rfl ?_;obtain rfl:=oi b7;exact JL.kw (b5 _ _ ⟨az,rfl,rfl,(Le.refl _),bh⟩) rfl
 ·intro b8;refine JL.B5 (q:=aP.2≠0) (i:=51) rfl (fun a6=>?_) (fun a6=>?_)
  ·have b9:=bg;rw [if_pos a6] at b9;refine JL.go 3 rfl ?_;refine JS.drop 1 bd rfl fun dz=>?_;obtain rfl:=oi b9;exact JL.kw (b8 _ _ ⟨aH,rfl,rfl,(Le.refl _),dz⟩) rfl
  ·have ca:=bg;rw [if_neg a6] at ca;refine JL.go 3 rfl ?_;refine JS.drop 1 bd rfl fun dA=>?_;obtain rfl:=oi ca;exact JL.kw (b8 _ _ ⟨aH,rfl,rfl,(Le.refl _),dA⟩) rfl
end Pal
namespace Pal
theorem O9{s k i:Nat}(h:(By s k).length=0)(hi:i<k):s.testBit i=false:=by
 cases hb:s.testBit i with
 | false=>rfl
 | true=>
  have:(i:Int)∈By s k:=FH.2 ⟨i,hi,hb,rfl⟩;have:=List.length_pos_of_mem this;omega
theorem Su{F:Nat}(ai:3489660928<F)(hs:f22 F=some true)(Jl:List Int):f16 F Jl=some true:=by
 refine Ac.C8 ?_;unfold f16;refine Ac.be (b:=(Jl,0,2685821657736338717)) rfl ?_;refine Ac.b (RR (F:=F) (k:=0) (mx:=7) (b:=(Jl,0,2685821657736338717)) (by omega) ⟨Int.le_refl _,Int.le_refl _⟩ (by omega) (by omega) (by omega)) ?_;rintro⟨J,b⟩ ⟨⟨n,aE,K⟩,hb⟩;simp only at K hb ⊢;have ab:100<F:=by omega
 refine Ac.b (RJ (yrs:=6) ab K hb (by omega) (by omega)) ?_;rintro⟨aF,ms,aG⟩ ⟨a,aj,aH,av,ae,ak⟩;simp only at aj av ae ak ⊢;subst aj;refine Ac.b (RM (many:=4) false ab K ak (by omega) (by omega) ⟨by omega,by omega⟩ (ae.range K)) ?_;rintro⟨lk,aI⟩ ⟨O,_,al,v4,_⟩;simp only at O al v4 ⊢;have v4:=v4 trivial;have aJ:=O.len;have aK:Cn lk<ms.length:=by
  rcases h:lk.getLast? with _ | l
  ·unfold Cn;rw [h];simp only;omega
  ·have:=al l (List.mem_of_getLast? h);unfold Cn;rw [h];exact this
 have am:∀l∈lk,(ms.take (Cn lk+1))[l.1.toNat]? =some l.2:=fun l U=>by
  have:=Mc O l U;rw [List.getElem?_take,if_pos (by omega)];exact v4 l U
 have an:((a:Int),ms.take (Cn lk+1),C9 lk 0 (ms.take (Cn lk+1)))∈TA J lk a:=by
  refine(Nz K O).2 ⟨rfl,by simp only [List.length_take];omega,ae.take _,fun l U m hm=>?_,rfl⟩;simp only at hm;rw [am l U] at hm;cases hm;rw [Po];exact .inl rfl
 have ao:BX ((a:Int),ms.take (Cn lk+1),C9 lk 0 (ms.take (Cn lk+1)))=0:=by
  rw [Qb K O an,List.length_eq_zero_iff,List.filter_eq_nil_iff];intro l U;unfold HK;simp only;rw [List.getD_eq_getElem?_getD,am l U];simp
 have W:((a:Int),ms.take (Cn lk+1),C9 lk 0 (ms.take (Cn lk+1)))∈TT J lk:=IM.2 ⟨a,by omega,an⟩;have ag:TT J lk≠ []:=fun e=>by rw [e] at W;simp at W
 have hzero:∀k,FW J lk k→k=0:=fun k Z=>by have:=Z.2 _ W;omega
 have aw:∀k,FW J lk k→((a:Int),ms.take (Cn lk+1),C9 lk 0 (ms.take (Cn lk+1)))∈Co J lk k:=fun k Z=>List.mem_filter.2 ⟨W,by rw [ao,hzero k Z];rfl⟩;refine Ac.b (RS (by omega) K O) ?_;rintro aL (⟨aa,_⟩ | ⟨k,Z,rfl⟩)
 ·exact absurd aa ag
 obtain rfl:=hzero k Z;have ah:(a:Int)∈Ey J lk 0:=O4.2 ⟨_,W,by rw [ao];exact Nat.le_refl _,rfl⟩;have ay:¬Ey J lk 0= []:=fun e=>by rw [e] at ah;simp at ah
 have ap:=R7 (F:=F) (J:=J) (lk:=lk) (p:=0) (by omega) K O (by omega);rw [if_neg ay] at ap;refine Ac.be ap ?_;refine Ac.b (R4 ai K O) ?_;rintro⟨⟨lo,hi⟩,z⟩ (⟨aa,_⟩ | ⟨k,az,aq,_,_,ar⟩)
 ·exact absurd aa ag
 simp only at aq ar;subst aq;obtain⟨aA,aB⟩:=ar _ (aw k az);simp only at aA aB;refine Ac.b (S:=fun c=>c=false) (Ac.neg (by simp) (Ac.intro (by simp))) ?_;rintro c rfl;refine Ac.b (S:=fun c=>c=false) (Ac.neg (by simp) (Ac.intro (by simp))) ?_;rintro c rfl;refine Ac.b (S:=fun c=>c=false) (Ac.neg (by simp) (Ac.intro (by simp))) ?_;rintro c rfl;refine Ac.b (S:=fun c=>c=false) ?_ ?_
 ·refine Ac.neg (by simp) ?_;refine Ac.be (Sa ab (by have:=Pu J lk 0;simp only;omega)) ?_;rw [decide_eq_true ah];exact Ac.intro rfl
 rintro c rfl;refine Ac.b (S:=fun c=>c=false) (Ac.neg (by simp) (Ac.intro (decide_eq_false (by simp only;omega)))) ?_;rintro c rfl;refine Ac.b (S:=fun c=>c=false) (Ac.neg (by simp) (Ac.intro (decide_eq_false (by simp only;omega)))) ?_;rintro c rfl;refine Ac.neg (by simp) ?_;refine Ac.b (S:=fun q=>q=Sum.inr ()) ?_ ?_
 ·refine Ac.upto lk.length (fun i s=>s=(i:Int)) rfl (by omega) ?_ ?_
  ·rintro i s hi rfl;unfold IQ;refine Ac.pos (by simp only;omega) ?_;refine Ac.b (Rz (p:=i) ai K O hi) ?_;rintro x (⟨aa,_⟩ | ⟨k,aC,rfl⟩)
   ·exact absurd aa ag
   obtain rfl:=hzero k aC;have aD:(Co J lk 0).filter (fun t=>t.2.2.testBit i)= []:=by
    rw [List.filter_eq_nil_iff];intro t ht;have au:=of_decide_eq_true (List.mem_filter.1 ht).2;unfold BX at au;rw [O9 au (by omega)];simp
   rw [aD];refine Ac.b (S:=fun c=>c=false) (Ac.neg (by simp) (Ac.intro (by simp [vd]))) ?_;rintro c rfl;refine Ac.neg (by simp) ?_;refine Ac.AZ ((i+1:Nat):Int) (by simp) (by omega) (by omega) ?_;exact Ac.intro rfl
  ·rintro s rfl;unfold IQ;exact Ac.neg (by simp) (Ac.intro ⟨_,rfl,rfl⟩)
 ·rintro q rfl;rw [Sum.elim_inr];exact Ac.be hs (Ac.intro rfl)
end Pal
