/- ToothCheat answers true for every list of numbers, on every schedule; without a condition beyond those of the given row and card. Part 5 of 8. -/
import Derived.Test.YtboibffcmhheiaaGreatDoorChc
import Derived.Test.YtboibffcmhheiaaGreatDoorChd
set_option linter.all false
set_option maxRecDepth 100000
namespace Pal
open Go Go.Conc Go.Proofs
open Go.Proofs.Tryz
variable {J:Judge Tryz.prog}{E:LH}
def f125(fuel:Nat)(p0:Int×Int)(p1:Int×Int):Option (Int):=
 (Aw (p0.1 - p1.1)).bind fun A=>
 some A
theorem QO{p0:Int×Int}{p1:Int×Int}{fuel:Nat}{r:Int}(O:f125 fuel p0 p1=some r):Au J 125 [.agg #[iV p0.1,iV p0.2],.agg #[iV p1.1,iV p1.2]] E [] (fun w E' B'=>w=iV r∧B'= []):=by
 refine Au.en func125 rfl rfl fun Q an cs H W Z=>?_;unfold f125 at O;refine JL.go 2 rfl ?_;refine JS.box (v:= .agg #[iV p0.1,iV p0.2]) rfl rfl rfl W rfl fun aa ab=>?_;refine JS.Bi 1 ab rfl fun ac ae A ag=>?_;replace A:At ac aa 0 [iV p0.1,iV p0.2]:=A;refine JS.box (v:= .agg #[iV p1.1,iV p1.2]) rfl rfl rfl ag rfl fun ah ai=>?_;refine JS.Bi 2 ai rfl fun aj U K ak=>?_;replace K:At aj ah 0 [iV p1.1,iV p1.2]:=K;refine JL.go 4 rfl ?_;refine JL.fd underlying27 (Ah type3) rfl rfl rfl ?_;refine JL.ld 0 (A.mono U) (Ao underlying3) rfl rfl rfl ?_;refine JL.fd underlying27 (Ah type3) rfl rfl rfl ?_;refine JL.ld 0 K (Ao underlying3) rfl rfl rfl ?_;obtain⟨ao,al,am⟩:=bs O;refine JL.Y rfl (fun ρ h=>Yl.A4 (h _ _ rfl) (h _ _ rfl) al) ?_;refine JL.go 2 rfl ?_;obtain rfl:=oi am;refine JL.rt func125 rfl rfl ?_;exact Z _ _ _ _ (ae.trans U) rfl ⟨rfl,rfl⟩ ak
def LA(fuel:Nat)(p1:Int)(A:Int×(List (Int×Int))):Option (AU (Int×(List (Int×Int))) ((List (Int×Int)))):=
 Option.bind (
  if p1<A.1 then(
   (ix A.2 (A.1)).bind fun U=>
   (Aw (A.1 - 1)).bind fun W=>
   (ix A.2 (W)).bind fun Z=>
   (f125 fuel U Z).bind fun aa=>
   some (decide (aa<0))
  ) else(
   some false
  )
 ) fun ab=>
 if ab=true then(
  (Aw (A.1 - 1)).bind fun K=>
  (Aw (A.1 - 1)).bind fun ac=>
  (ix A.2 (ac)).bind fun O=>
  (ix A.2 (A.1)).bind fun ae=>
  (ix (A.2.set (Int.toNat A.1) O) (K)).bind fun ah=>
  (Aw (A.1 - 1)).bind fun ag=>
  some (.more (ag,((A.2.set (Int.toNat A.1) O).set (Int.toNat K) ae)))
 ) else(
  some (.done A.2)
 )
def LY(fuel:Nat)(p1:Int)(p2:Int)(A:Int×(List (Int×Int))):Option (AU (Int×(List (Int×Int))) ((List (Int×Int)))):=
 if A.1<p2 then(
  Option.bind (iter (LA fuel p1) fuel A) fun K=>
  (Aw (A.1+1)).bind fun O=>
  some (.more (O,K))
 ) else(
  some (.done A.2)
 )
def f168(fuel:Nat)(p0:List (Int×Int))(p1:Int)(p2:Int):Option ((List (Int×Int))):=
 (Aw (p1+1)).bind fun A=>
 Option.bind (iter (LY fuel p1 p2) fuel (A,p0)) fun K=>
 some K
theorem L4{A:Nat}{U:Nat}{W:Nat}{ar:Array Value}{p0:List (Int×Int)}{p1:Int}{p2:Int}(hW:WL 27 (rP rI rI) E A U W ar p0){fuel:Nat}{r:(List (Int×Int))}(aH:f168 fuel p0 p1 p2=some r):Au J 168 [.slice (some ⟨A,0,none⟩) W U,iV p1,iV p2,(.func (.func 125) #[] #[])] E [(A,.cells ar 27 (0,0))] (fun w E' B'=>∃(aI:Array Value),w= .tuple #[]∧B'= [(A,.cells aI 27 (0,0))]∧WL 27 (rP rI rI) E' A U W aI (r)):=by
 refine Au.en func168 rfl rfl fun Q bW cs H a5 a6=>?_;unfold f168 at aH;obtain⟨a7,a8,a9⟩:=bs aH;refine JL.go 3 rfl ?_;refine JL.Y rfl (fun ρ h=>Yl.A1 (h _ _ rfl) (h _ _ rfl) a8) ?_;obtain⟨ba,bb,bc⟩:=bs a9;refine JL.go 2 rfl ?_;refine JL.join (fun L s=>∃(au:LH) (f17:Array Value),Jn E H au [[(A,.cells f17 27 (0,0))]] [] L s (WL 27 (rP rI rI) au A U W f17 (ba))) ?_ ?_
 ·rintro _ _ ⟨au,f17,rfl,rfl,bd,bf,bg⟩;obtain rfl:=oi bc;refine JL.fin (v:= .tuple #[]) rfl rfl (Bl.list func168 rfl (vs:= []) trivial) ?_;exact a6 _ _ _ _ bd rfl ⟨f17,rfl,(by first | rfl | simp | (simp [Value.cells])),bg⟩ bf
 ·intro bh;refine JL.block ?_;refine JL.wk [(0,.slice (some ⟨A,0,none⟩) W U),(1,iV p1),(2,iV p2),(3,(.func (.func 125) #[] #[])),(8,iV a7)] rfl ?_;refine JL.Bg bb (fun L s ab=>∃(ac:LH) (f25:Array Value),Jn E H ac [[(A,.cells f25 27 (0,0))]] [(0,.slice (some ⟨A,0,none⟩) W U),(1,iV p1),(2,iV p2),(3,(.func (.func 125) #[] #[])),(8,iV ab.1)] L s (WL 27 (rP rI rI) ac A U W f25 (ab.2))) ⟨E,ar,rfl,rfl,(Le.refl _),a5,hW⟩ ?_;rintro _ _ ab ⟨ac,f25,rfl,rfl,aJ,aK,aL⟩ bi ⟨bX,av⟩ bj;have aw:=av;unfold LY at aw;refine JL.go 7 rfl ?_;refine JL.ifs (p:=ab.1<p2) rfl (fun ay=>?_) (fun ay=>?_)
  ·have aM:=aw;rw [if_pos ay] at aM;obtain⟨aN,bk,bl⟩:=bs aM;refine JL.go 8 rfl ?_;refine JL.join (fun L s=>∃(an:LH) (f48:Array Value),Jn ac H an [[(A,.cells f48 27 (0,0))]] [(0,.slice (some ⟨A,0,none⟩) W U),(1,iV p1),(2,iV p2),(3,(.func (.func 125) #[] #[])),(8,iV ab.1)] L s (WL 27 (rP rI rI) an A U W f48 (aN))) ?_ ?_
   ·rintro _ _ ⟨an,f48,rfl,rfl,bm,bn,bo⟩;obtain⟨bp,bq,br⟩:=bs bl;refine JL.go 3 rfl ?_;refine JL.Y rfl (fun ρ h=>Yl.A1 (h _ _ rfl) (h _ _ rfl) bq) ?_;refine JL.go 2 rfl ?_;obtain rfl:=oi br;exact JL.kw (bj _ _ (bp,aN) ⟨an,f48,rfl,rfl,(aJ.trans bm),bn,bo⟩ av) rfl
   ·intro bu;refine JL.block ?_;refine JL.wk [(0,.slice (some ⟨A,0,none⟩) W U),(1,iV p1),(2,iV p2),(3,(.func (.func 125) #[] #[])),(8,iV ab.1),(9,iV ab.1)] rfl ?_;refine JL.Bg bk (fun L s Z=>∃(aj:LH) (f58:Array Value),Jn ac H aj [[(A,.cells f58 27 (0,0))]] [(0,.slice (some ⟨A,0,none⟩) W U),(1,iV p1),(2,iV p2),(3,(.func (.func 125) #[] #[])),(8,iV ab.1),(9,iV Z.1)] L s (WL 27 (rP rI rI) aj A U W f58 (Z.2))) ⟨ac,f25,rfl,rfl,(Le.refl _),aK,aL⟩ ?_;rintro _ _ Z ⟨aj,f58,rfl,rfl,aO,ak,aa⟩ bv ⟨bY,az⟩ bw;have aP:=az;unfold LA at aP;refine JL.go 2 rfl ?_;refine JG.BX 17 [A] ⟨⟨0,_,rfl⟩,trivial⟩ ak mixed rfl (by decide+kernel) fun ht=>?_;refine JG.mv 0 ht rfl rfl ?_;refine JG.mv 1 ht rfl rfl ?_;refine JG.mv 2 ht rfl rfl ?_;refine JG.mv 3 ht rfl rfl ?_;obtain⟨aQ,aR,aS⟩:=bs aP;refine Av.join 0 #[true,true,true,true,true,true,true,true,true,true,true,true,true,true,true,true,true] (fun L s=>∃(ao:LH),Jm aj H ao [[(A,.cells f58 27 (0,0))]] [(0,.slice (some ⟨A,0,none⟩) W U),(1,iV p1),(2,iV p2),(3,(.func (.func 125) #[] #[])),(8,iV ab.1),(9,iV Z.1),(34,.bool aQ)] L s) ?_ ?_
    ·rintro _ _ ⟨ao,rfl,rfl,ag,ap⟩;refine Av.fin (by decide+kernel) ?_;refine JL.split (t:=aQ) rfl (fun aA=>?_) (fun aA=>?_)
     ·have aT:=aS;rw [if_pos aA] at aT;refine JL.go 3 rfl ?_;refine JB.draw [15,17] [A] mixed rfl ?_;refine JB.mv 0 rfl rfl ?_;refine JB.mv 1 rfl rfl ?_;refine JB.mv 2 rfl rfl ?_;refine JB.mv 3 rfl rfl ?_;obtain⟨al,bx,bz⟩:=bs aT;refine JB.V 4 true rfl rfl (fun ρ h s' hs=>Yl.A4 (h _ _ rfl) (h _ _ rfl) bx) ?_;refine JB.mv 5 rfl rfl ?_;refine JB.mv 6 rfl rfl ?_;obtain⟨bA,bB,bC⟩:=bs bz;refine JB.V 7 true rfl rfl (fun ρ h s' hs=>Yl.A4 (h _ _ rfl) (h _ _ rfl) bB) ?_;obtain⟨K,aU,bD⟩:=bs bC;obtain⟨_,⟨_,_,rfl,rfl,rfl⟩,aB⟩:=WL.at (aa.mono ag) aU;replace aB:∀(j:Nat) w,[iV K.1,iV K.2][j]? =some w→f58[Int.toNat (bA)*2+j]? =some w:=aB;refine JB.V 8 true rfl rfl (fun ρ h s' hs=>Yl.A7 aa.2 aU underlying25 (Ah type27) (h _ _ rfl) (h _ _ rfl)) ?_;refine JB.val (v:= .agg #[iV K.1,iV K.2]) 9 false rfl (by decide+kernel) rfl rfl rfl (fun ρ h s' hs=>have hs:=hs rfl;Yl.Bh (vs:= [iV K.1,iV K.2]) (Ao underlying27) (Ah type27) (h _ _ rfl) (fun q w ae=>by rw [Ba rfl];exact Bb 0 ap rfl (by simp [AD]) hs (aB q w ae))) ?_;refine JB.mv 10 rfl rfl ?_;refine JB.mv 11 rfl rfl ?_;obtain⟨O,aq,bE⟩:=bs bD;obtain⟨_,⟨_,_,rfl,rfl,rfl⟩,aC⟩:=WL.at (aa.mono ag) aq;replace aC:∀(j:Nat) w,[iV O.1,iV O.2][j]? =some w→f58[Int.toNat (Z.1)*2+j]? =some w:=aC;refine JB.V 12 true rfl rfl (fun ρ h s' hs=>Yl.A7 aa.2 aq underlying25 (Ah type27) (h _ _ rfl) (h _ _ rfl)) ?_;refine JB.val (v:= .agg #[iV O.1,iV O.2]) 13 false rfl (by decide+kernel) rfl rfl rfl (fun ρ h s' hs=>have hs:=hs rfl;Yl.Bh (vs:= [iV O.1,iV O.2]) (Ao underlying27) (Ah type27) (h _ _ rfl) (fun q w ae=>by rw [Ba rfl];exact Bb 0 ap rfl (by simp [AD]) hs (aC q w ae))) ?_;refine JB.V 14 true rfl rfl (fun ρ h s' hs=>Yl.A7 aa.2 aq underlying25 (Ah type27) (h _ _ rfl) (h _ _ rfl)) ?_;have am:=WL.put (x':=K) (ws':= [iV K.1,iV K.2]) (aa.mono ag) aa.2 aq ⟨_,_,rfl,rfl,rfl⟩;refine JB.store (v:= .agg #[iV K.1,iV K.2]) (off:=Int.toNat (Z.1)*2) 15 0 (by decide+kernel) (by decide+kernel) rfl rfl rfl ap rfl rfl (Ah type27) (by simp [Value.cells,Bs]) rfl am.2 fun bF=>?_;obtain⟨aV,aD,bG⟩:=bs bE;obtain⟨_,⟨_,_,rfl,rfl,rfl⟩,aW⟩:=WL.at am.1 aD;replace aW:∀(j:Nat) w,[iV aV.1,iV aV.2][j]? =some w→(AL f58 (Int.toNat (Z.1)*2) [iV K.1,iV K.2])[Int.toNat (al)*2+j]? =some w:=aW;refine JB.V 16 true rfl rfl (fun ρ h s' hs=>Yl.A7 (am.1).2 aD underlying25 (Ah type27) (h _ _ rfl) (h _ _ rfl)) ?_;have aX:=WL.put (x':=O) (ws':= [iV O.1,iV O.2]) am.1 (am.1).2 aD ⟨_,_,rfl,rfl,rfl⟩;refine JB.store (v:= .agg #[iV O.1,iV O.2]) (off:=Int.toNat (al)*2) 17 0 (by decide+kernel) (by decide+kernel) rfl rfl rfl bF rfl rfl (Ah type27) (by simp [Value.cells,Bs]) rfl aX.2 fun bH=>?_;refine JB.fin (by decide+kernel) ?_;refine JS.norm (S':= [[(A,.cells (AL (AL f58 (Int.toNat (Z.1)*2) [iV K.1,iV K.2]) (Int.toNat (al)*2) [iV O.1,iV O.2]) 27 (0,0))]]) rfl bH fun bI=>?_;obtain⟨bJ,bK,bL⟩:=bs bG;refine JL.go 3 rfl ?_;refine JL.Y rfl (fun ρ h=>Yl.A4 (h _ _ rfl) (h _ _ rfl) bK) ?_;refine JL.go 2 rfl ?_;obtain rfl:=oi bL;exact JL.kw (bw _ _ (bJ,((Z.2.set (Int.toNat Z.1) K).set (Int.toNat al) O)) ⟨ao,(AL (AL f58 (Int.toNat (Z.1)*2) [iV K.1,iV K.2]) (Int.toNat (al)*2) [iV O.1,iV O.2]),rfl,rfl,(aO.trans ag),bI,aX.1⟩ az) rfl
     ·have aY:=aS;rw [if_neg (by rw [aA];exact Bool.false_ne_true)] at aY;refine JL.exit rfl ?_;obtain rfl:=oi aY;obtain rfl:=bv _ az;exact JL.kw (bu _ _ ⟨ao,f58,rfl,rfl,(aO.trans ag),ap,(aa.mono ag)⟩) rfl
    ·intro aZ;refine Av.BP (q:=p1<Z.1) (i:=21) rfl (fun aE=>?_) (fun aE=>?_)
     ·have a0:=aR;rw [if_pos aE] at a0;refine JG.mv 4 ht rfl rfl ?_;refine JG.mv 5 ht rfl rfl ?_;refine JG.mv 6 ht rfl rfl ?_;obtain⟨ah,a1,bM⟩:=bs a0;obtain⟨_,⟨_,_,rfl,rfl,rfl⟩,aF⟩:=WL.at aa a1;replace aF:∀(j:Nat) w,[iV ah.1,iV ah.2][j]? =some w→f58[Int.toNat (Z.1)*2+j]? =some w:=aF;refine JG.V 7 ht rfl rfl (fun ρ h s' hs=>Yl.A7 (aa).2 a1 underlying25 (Ah type27) (h _ _ rfl) (h _ _ rfl)) ?_;refine JG.V 8 ht rfl rfl (fun ρ h s' hs=>Yl.Bh (vs:= [iV ah.1,iV ah.2]) (Ao underlying27) (Ah type27) (h _ _ rfl) (fun q w ae=>by rw [Ba rfl];exact Bb 0 ak rfl (by simp [AD]) hs (aF q w ae))) ?_;refine JG.mv 9 ht rfl rfl ?_;refine JG.mv 10 ht rfl rfl ?_;obtain⟨bN,bO,bP⟩:=bs bM;refine JG.V 11 ht rfl rfl (fun ρ h s' hs=>Yl.A4 (h _ _ rfl) (h _ _ rfl) bO) ?_;obtain⟨ai,a2,bQ⟩:=bs bP;obtain⟨_,⟨_,_,rfl,rfl,rfl⟩,aG⟩:=WL.at aa a2;replace aG:∀(j:Nat) w,[iV ai.1,iV ai.2][j]? =some w→f58[Int.toNat (bN)*2+j]? =some w:=aG;refine JG.V 12 ht rfl rfl (fun ρ h s' hs=>Yl.A7 (aa).2 a2 underlying25 (Ah type27) (h _ _ rfl) (h _ _ rfl)) ?_;refine JG.V 13 ht rfl rfl (fun ρ h s' hs=>Yl.Bh (vs:= [iV ai.1,iV ai.2]) (Ao underlying27) (Ah type27) (h _ _ rfl) (fun q w ae=>by rw [Ba rfl];exact Bb 0 ak rfl (by simp [AD]) hs (aG q w ae))) ?_;obtain⟨bZ,bR,bS⟩:=bs bQ;refine JG.ER (i:=14) ⟨⟨0,_,rfl⟩,trivial⟩ (vs:= [.agg #[iV ah.1,iV ah.2],.agg #[iV ai.1,iV ai.2]]) (QO bR) (by decide+kernel) rfl rfl rfl rfl (Ay func125 rfl) rfl ak ?_;rintro _ bT _ bU ⟨rfl,rfl⟩ bV;refine JG.mv 15 ht rfl rfl ?_;refine JG.mv 16 ht rfl rfl ?_;obtain rfl:=oi bS;refine Av.BK ?_ (aZ _ _ ⟨bT,rfl,rfl,bU,bV⟩);exact⟨rfl,rfl,rfl,rfl,rfl,rfl,rfl,trivial⟩
     ·have a3:=aR;rw [if_neg aE] at a3;refine JG.mv 4 ht rfl rfl ?_;refine JG.mv 5 ht rfl rfl ?_;refine JG.mv 6 ht rfl rfl ?_;refine JG.mv 7 ht rfl rfl ?_;refine JG.mv 8 ht rfl rfl ?_;refine JG.mv 9 ht rfl rfl ?_;refine JG.mv 10 ht rfl rfl ?_;refine JG.mv 11 ht rfl rfl ?_;refine JG.mv 12 ht rfl rfl ?_;refine JG.mv 13 ht rfl rfl ?_;refine JG.mv 14 ht rfl rfl ?_;refine JG.mv 15 ht rfl rfl ?_;refine JG.mv 16 ht rfl rfl ?_;obtain rfl:=oi a3;refine Av.BK ?_ (aZ _ _ ⟨aj,rfl,rfl,(Le.refl _),ak⟩);exact⟨rfl,rfl,rfl,rfl,rfl,rfl,rfl,trivial⟩
  ·have a4:=aw;rw [if_neg ay] at a4;refine JL.exit rfl ?_;obtain rfl:=oi a4;obtain rfl:=bi _ av;exact JL.kw (bh _ _ ⟨ac,f25,rfl,rfl,aJ,aK,aL⟩) rfl
def Lq(fuel:Nat)(p1:Int)(A:Int×Int×(List (Int×Int))):Option (AU (Int×Int×(List (Int×Int))) (Int×(List (Int×Int)))):=
 if A.2.1≤p1 then(
  (f168 fuel A.2.2 A.1 A.2.1).bind fun K=>
  (Aw (A.2.1+20)).bind fun O=>
  some (.more (A.2.1,O,K))
 ) else(
  some (.done (A.1,A.2.2))
 )
def LO(fuel:Nat)(p1:Int)(A:Int)(K:Int)(O:Unit):Option (AU (Unit) (Unit)):=
 if K≤p1 then(
  (Aw (0+A)).bind fun U=>
  none
 ) else(
  some (.done ())
 )
def Lz(fuel:Nat)(p1:Int)(A:Int):Option (AU (Int) (Unit)):=
 if A<p1 then(
  (Aw (2*A)).bind fun K=>
  Option.bind (iter (LO fuel p1 A K) fuel ()) fun W=>
  (Aw (0+A)).bind fun O=>
  Option.bind (
   if O<p1 then(
    none
   ) else(
    some ()
   )
  ) fun Z=>
  (Aw (A*2)).bind fun U=>
  some (.more U)
 ) else(
  some (.done ())
 )
def f138(fuel:Nat)(p0:List (Int×Int))(p1:Int):Option ((List (Int×Int))):=
 Option.bind (iter (Lq fuel p1) fuel (0,20,p0)) fun A=>
 (f168 fuel A.2 A.1 p1).bind fun K=>
 Option.bind (iter (Lz fuel p1) fuel 20) fun O=>
 some K
theorem Ra{A:Nat}{K:Nat}{O:Nat}{ac:Array Value}{p0:List (Int×Int)}{p1:Int}(hW:WL 27 (rP rI rI) E A K O ac p0){fuel:Nat}{r:(List (Int×Int))}(av:f138 fuel p0 p1=some r):Au J 138 [.slice (some ⟨A,0,none⟩) O K,iV p1,(.func (.func 125) #[] #[])] E [(A,.cells ac 27 (0,0))] (fun w E' B'=>∃(aw:Array Value),w= .tuple #[]∧B'= [(A,.cells aw 27 (0,0))]∧WL 27 (rP rI rI) E' A K O aw (r)):=by
 refine Au.en func138 rfl rfl fun Q bO cs H aQ aR=>?_;unfold f138 at av;obtain⟨ay,aS,aT⟩:=bs av;refine JL.go 11 rfl ?_;refine JL.join (fun L s=>∃(ae:LH) (f15:Array Value),Jn E H ae [[(A,.cells f15 27 (0,0))]] [(0,.slice (some ⟨A,0,none⟩) O K),(1,iV p1),(2,(.func (.func 125) #[] #[])),(6,iV 20),(7,iV ay.1)] L s (WL 27 (rP rI rI) ae A K O f15 (ay.2))) ?_ ?_
 ·rintro _ _ ⟨ae,f15,rfl,rfl,aU,aV,aW⟩;obtain⟨bP,aX,aY⟩:=bs aT;refine JL.go 6 rfl ?_;refine JS.Bw 0 (L4 aW aX) rfl rfl (Ay func168 rfl) aV rfl ?_;rintro _ ag _ aZ ⟨f23,rfl,rfl,a0⟩ a1;refine JS.norm (S':= [[(A,.cells f23 27 (0,0))]]) rfl a1 fun a2=>?_;obtain⟨bQ,a3,a4⟩:=bs aY;refine JL.done ?_;refine JL.join (fun L s=>∃(az:LH),Jm ag H az [[(A,.cells f23 27 (0,0))]] [] L s) ?_ ?_
  ·rintro _ _ ⟨az,rfl,rfl,aA,a5⟩;obtain rfl:=oi a4;refine JL.fin (v:= .tuple #[]) rfl rfl (Bl.list func138 rfl (vs:= []) trivial) ?_;exact aR _ _ _ _ ((aU.trans aZ).trans aA) rfl ⟨f23,rfl,(by first | rfl | simp | (simp [Value.cells])),(a0.mono aA)⟩ a5
  ·intro a6;refine JL.block ?_;refine JL.wk [(0,.slice (some ⟨A,0,none⟩) O K),(1,iV p1),(2,(.func (.func 125) #[] #[])),(6,iV 20)] rfl ?_;refine JL.Bg a3 (fun L s U=>∃(W:LH),Jm ag H W [[(A,.cells f23 27 (0,0))]] [(0,.slice (some ⟨A,0,none⟩) O K),(1,iV p1),(2,(.func (.func 125) #[] #[])),(6,iV U)] L s) ⟨ag,rfl,rfl,(Le.refl _),a2⟩ ?_;rintro _ _ U ⟨W,rfl,rfl,aB,aC⟩ a7 ⟨bR,ah⟩ a8;have ai:=ah;unfold Lz at ai;refine JL.go 7 rfl ?_;refine JL.ifs (p:=U<p1) rfl (fun aj=>?_) (fun aj=>?_)
   ·have aD:=ai;rw [if_pos aj] at aD;obtain⟨ak,a9,ba⟩:=bs aD;refine JL.go 5 rfl ?_;refine JL.Y rfl (fun ρ h=>Yl.mulC (h _ _ rfl) (h _ _ rfl) a9) ?_;obtain⟨bS,bb,bc⟩:=bs ba;refine JL.go 4 rfl ?_;refine JL.join (fun L s=>∃(aa:LH),Jm W H aa [[(A,.cells f23 27 (0,0))]] [(0,.slice (some ⟨A,0,none⟩) O K),(1,iV p1),(2,(.func (.func 125) #[] #[])),(6,iV U),(7,iV 0)] L s) ?_ ?_
    ·rintro _ _ ⟨aa,rfl,rfl,bd,bf⟩;obtain⟨bg,bh,bi⟩:=bs bc;refine JL.go 5 rfl ?_;refine JL.Y rfl (fun ρ h=>Yl.A1 (h _ _ rfl) (h _ _ rfl) bh) ?_;obtain⟨bT,aE,bj⟩:=bs bi;refine JL.go 8 rfl ?_;refine JL.join (fun L s=>∃(al:LH),Jm aa H al [[(A,.cells f23 27 (0,0))]] [(0,.slice (some ⟨A,0,none⟩) O K),(1,iV p1),(2,(.func (.func 125) #[] #[])),(6,iV U)] L s) ?_ ?_
     ·rintro _ _ ⟨al,rfl,rfl,bk,bl⟩;obtain⟨bm,bn,bo⟩:=bs bj;refine JL.go 2 rfl ?_;refine JL.Y rfl (fun ρ h=>Yl.mulC (h _ _ rfl) (h _ _ rfl) bn) ?_;refine JL.go 3 rfl ?_;obtain rfl:=oi bo;exact JL.kw (a8 _ _ bm ⟨al,rfl,rfl,((aB.trans bd).trans bk),bl⟩ ah) rfl
     ·intro bp;refine JL.ifs (p:=bg<p1) rfl (fun am=>?_) (fun am=>?_)
      ·have aF:=aE;rw [if_pos am] at aF;refine JL.go 6 rfl ?_;cases aF
      ·have aG:=aE;rw [if_neg am] at aG;refine JL.skip ?_;obtain rfl:=oi aG;exact JL.kw (bp _ _ ⟨aa,rfl,rfl,(Le.refl _),bf⟩) rfl
    ·intro bq;refine JL.block ?_;refine JL.wk [(0,.slice (some ⟨A,0,none⟩) O K),(1,iV p1),(2,(.func (.func 125) #[] #[])),(6,iV U),(7,iV 0),(8,iV ak)] rfl ?_;refine JL.Bg bb (fun L s br=>∃(an:LH),Jm W H an [[(A,.cells f23 27 (0,0))]] [(0,.slice (some ⟨A,0,none⟩) O K),(1,iV p1),(2,(.func (.func 125) #[] #[])),(6,iV U),(7,iV 0),(8,iV ak)] L s) ⟨W,rfl,rfl,(Le.refl _),aC⟩ ?_;rintro _ _ br ⟨an,rfl,rfl,bu,bv⟩ bw ⟨bU,aH⟩ bV;have ao:=aH;unfold LO at ao;refine JL.go 7 rfl ?_;refine JL.ifs (p:=ak≤p1) rfl (fun ap=>?_) (fun ap=>?_)
     ·have aI:=ao;rw [if_pos ap] at aI;obtain⟨bW,bx,bz⟩:=bs aI;refine JL.go 8 rfl ?_;refine JL.Y rfl (fun ρ h=>Yl.A1 (h _ _ rfl) (h _ _ rfl) bx) ?_;refine JL.go 2 rfl ?_;cases bz
     ·have aJ:=ao;rw [if_neg ap] at aJ;refine JL.exit rfl ?_;obtain rfl:=oi aJ;obtain rfl:=bw _ aH;exact JL.kw (bq _ _ ⟨an,rfl,rfl,bu,bv⟩) rfl
   ·have aK:=ai;rw [if_neg aj] at aK;refine JL.exit rfl ?_;obtain rfl:=oi aK;obtain rfl:=a7 _ ah;exact JL.kw (a6 _ _ ⟨W,rfl,rfl,aB,aC⟩) rfl
 ·intro bA;refine JL.block ?_;refine JL.wk [(0,.slice (some ⟨A,0,none⟩) O K),(1,iV p1),(2,(.func (.func 125) #[] #[])),(6,iV 20),(7,iV 0),(8,iV 20)] rfl ?_;refine JL.Bg aS (fun L s Z=>∃(ab:LH) (f104:Array Value),Jn E H ab [[(A,.cells f104 27 (0,0))]] [(0,.slice (some ⟨A,0,none⟩) O K),(1,iV p1),(2,(.func (.func 125) #[] #[])),(6,iV 20),(7,iV Z.1),(8,iV Z.2.1)] L s (WL 27 (rP rI rI) ab A K O f104 (Z.2.2))) ⟨E,ac,rfl,rfl,(Le.refl _),aQ,hW⟩ ?_;rintro _ _ Z ⟨ab,f104,rfl,rfl,aL,aM,aN⟩ bB ⟨bX,aq⟩ bC;have ar:=aq;unfold Lq at ar;refine JL.go 7 rfl ?_;refine JL.ifs (p:=Z.2.1≤p1) rfl (fun au=>?_) (fun au=>?_)
  ·have aO:=ar;rw [if_pos au] at aO;obtain⟨bD,bE,bF⟩:=bs aO;refine JL.go 8 rfl ?_;refine JS.Bw 0 (L4 aN bE) rfl rfl (Ay func168 rfl) aM rfl ?_;rintro _ bG _ bH ⟨f119,rfl,rfl,bI⟩ bJ;refine JS.norm (S':= [[(A,.cells f119 27 (0,0))]]) rfl bJ fun bK=>?_;obtain⟨bL,bM,bN⟩:=bs bF;refine JL.go 9 rfl ?_;refine JL.Y rfl (fun ρ h=>Yl.A1 (h _ _ rfl) (h _ _ rfl) bM) ?_;refine JL.go 3 rfl ?_;obtain rfl:=oi bN;exact JL.kw (bC _ _ (Z.2.1,bL,bD) ⟨bG,f119,rfl,rfl,(aL.trans bH),bK,bI⟩ aq) rfl
  ·have aP:=ar;rw [if_neg au] at aP;refine JL.exit rfl ?_;obtain rfl:=oi aP;obtain rfl:=bB _ aq;exact JL.kw (bA _ _ ⟨ab,f104,rfl,rfl,aL,aM,aN⟩) rfl
def f124(fuel:Nat)(p0:List (Int×Int)):Option ((List (Int×Int))):=
 (f138 fuel p0 ((p0).length:Int)).bind fun A=>
 some A
theorem Qk{A:Nat}{K:Nat}{O:Nat}{U:Array Value}{p0:List (Int×Int)}(hW:WL 27 (rP rI rI) E A K O U p0){fuel:Nat}{r:(List (Int×Int))}(W:f124 fuel p0=some r):Au J 124 [.slice (some ⟨A,0,none⟩) O K,(.func (.func 125) #[] #[])] E [(A,.cells U 27 (0,0))] (fun w E' B'=>∃(Z:Array Value),w= .tuple #[]∧B'= [(A,.cells Z 27 (0,0))]∧WL 27 (rP rI rI) E' A K O Z (r)):=by
 refine Au.en func124 rfl rfl fun Q ak cs H aa ab=>?_;unfold f124 at W;refine JL.go 3 rfl ?_;refine JL.Y (v:=iV ((p0).length:Int)) rfl (fun ρ h=>Yl.M3 (hW).2 rfl underlying25 (h _ _ rfl)) ?_;obtain⟨al,ac,ae⟩:=bs W;refine JL.go 1 rfl ?_;refine JS.Bw 0 (Ra hW ac) rfl rfl (Ay func138 rfl) aa rfl ?_;rintro _ am _ ag ⟨f7,rfl,rfl,ah⟩ ai;refine JS.norm (S':= [[(A,.cells f7 27 (0,0))]]) rfl ai fun aj=>?_;refine JL.done ?_;obtain rfl:=oi ae;refine JL.fin (v:= .tuple #[]) rfl rfl (Bl.list func124 rfl (vs:= []) trivial) ?_;exact ab _ _ _ _ ag rfl ⟨f7,rfl,(by first | rfl | simp | (simp [Value.cells])),ah⟩ aj
def Ll(fuel:Nat)(p1:Int)(A:Int)(O:Unit):Option (AU (Unit) (Unit)):=
 Option.bind (
  if p1<A then(
   none
  ) else(
   some false
  )
 ) fun K=>
 if K=true then(
  (Aw (A - 1)).bind fun U=>
  (Aw (A - 1)).bind fun W=>
  none
 ) else(
  some (.done ())
 )
def Li(fuel:Nat)(p1:Int)(p2:Int)(A:Int):Option (AU (Int) (Unit)):=
 if A<p2 then(
  Option.bind (iter (Ll fuel p1 A) fuel ()) fun O=>
  (Aw (A+1)).bind fun K=>
  some (.more K)
 ) else(
  some (.done ())
 )
def Ib(fuel:Nat)(p1:Int)(p2:Int):Option (Unit):=
 (Aw (p1+1)).bind fun A=>
 Option.bind (iter (Li fuel p1 p2) fuel A) fun K=>
 some ()
theorem Lm{p1:Int}{p2:Int}{fuel:Nat}{r:Unit}(ag:Ib fuel p1 p2=some r):Au J 168 [.slice none 0 0,iV p1,iV p2,(.func (.func 125) #[] #[])] E [] (fun w E' B'=>w= .tuple #[]∧B'= []):=by
 refine Au.en func168 rfl rfl fun Q a3 cs H ay az=>?_;unfold Ib at ag;obtain⟨aA,aB,aC⟩:=bs ag;refine JL.go 3 rfl ?_;refine JL.Y rfl (fun ρ h=>Yl.A1 (h _ _ rfl) (h _ _ rfl) aB) ?_;obtain⟨a4,aD,aE⟩:=bs aC;refine JL.go 2 rfl ?_;refine JL.join (fun L s=>∃(ah:LH),Jm E H ah [] [] L s) ?_ ?_
 ·rintro _ _ ⟨ah,rfl,rfl,aF,aG⟩;obtain rfl:=oi aE;refine JL.fin (v:= .tuple #[]) rfl rfl (Bl.list func168 rfl (vs:= []) trivial) ?_;exact az _ _ _ _ aF rfl ⟨rfl,rfl⟩ aG
 ·intro aH;refine JL.block ?_;refine JL.wk [(0,.slice none 0 0),(1,iV p1),(2,iV p2),(3,(.func (.func 125) #[] #[])),(8,iV aA)] rfl ?_;refine JL.Bg aD (fun L s A=>∃(K:LH),Jm E H K [] [(0,.slice none 0 0),(1,iV p1),(2,iV p2),(3,(.func (.func 125) #[] #[])),(8,iV A)] L s) ⟨E,rfl,rfl,(Le.refl _),ay⟩ ?_;rintro _ _ A ⟨K,rfl,rfl,ai,aj⟩ aI ⟨a5,U⟩ aJ;have W:=U;unfold Li at W;refine JL.go 7 rfl ?_;refine JL.ifs (p:=A<p2) rfl (fun Z=>?_) (fun Z=>?_)
  ·have ak:=W;rw [if_pos Z] at ak;obtain⟨a6,aK,aL⟩:=bs ak;refine JL.go 8 rfl ?_;refine JL.join (fun L s=>∃(aa:LH),Jm K H aa [] [(0,.slice none 0 0),(1,iV p1),(2,iV p2),(3,(.func (.func 125) #[] #[])),(8,iV A)] L s) ?_ ?_
   ·rintro _ _ ⟨aa,rfl,rfl,aM,aN⟩;obtain⟨aO,aP,aQ⟩:=bs aL;refine JL.go 3 rfl ?_;refine JL.Y rfl (fun ρ h=>Yl.A1 (h _ _ rfl) (h _ _ rfl) aP) ?_;refine JL.go 2 rfl ?_;obtain rfl:=oi aQ;exact JL.kw (aJ _ _ aO ⟨aa,rfl,rfl,(ai.trans aM),aN⟩ U) rfl
   ·intro aR;refine JL.block ?_;refine JL.wk [(0,.slice none 0 0),(1,iV p1),(2,iV p2),(3,(.func (.func 125) #[] #[])),(8,iV A),(9,iV A)] rfl ?_;refine JL.Bg aK (fun L s aS=>∃(O:LH),Jm K H O [] [(0,.slice none 0 0),(1,iV p1),(2,iV p2),(3,(.func (.func 125) #[] #[])),(8,iV A),(9,iV A)] L s) ⟨K,rfl,rfl,(Le.refl _),aj⟩ ?_;rintro _ _ aS ⟨O,rfl,rfl,aT,aU⟩ aV ⟨a7,al⟩ a8;have am:=al;unfold Ll at am;refine JL.go 2 rfl ?_;refine JG.CQ 17 mixed rfl (by decide+kernel) fun ht=>?_;refine JG.mv 0 ht rfl rfl ?_;refine JG.mv 1 ht rfl rfl ?_;refine JG.mv 2 ht rfl rfl ?_;refine JG.mv 3 ht rfl rfl ?_;obtain⟨an,ao,ap⟩:=bs am;refine Av.join 0 #[true,true,true,true,true,true,true,true,true,true,true,true,true,true,true,true,true] (fun L s=>∃(ab:LH),Jm O H ab [] [(0,.slice none 0 0),(1,iV p1),(2,iV p2),(3,(.func (.func 125) #[] #[])),(8,iV A),(9,iV A),(34,.bool an)] L s) ?_ ?_
    ·rintro _ _ ⟨ab,rfl,rfl,aW,aX⟩;refine Av.fin (by decide+kernel) ?_;refine JL.split (t:=an) rfl (fun ac=>?_) (fun ac=>?_)
     ·have aq:=ap;rw [if_pos ac] at aq;refine JL.go 3 rfl ?_;refine JG.CQ 16 mixed rfl (by decide+kernel) fun ht=>?_;refine JG.mv 0 ht rfl rfl ?_;refine JG.mv 1 ht rfl rfl ?_;refine JG.mv 2 ht rfl rfl ?_;refine JG.mv 3 ht rfl rfl ?_;obtain⟨a9,aY,aZ⟩:=bs aq;refine JG.V 4 ht rfl rfl (fun ρ h s' hs=>Yl.A4 (h _ _ rfl) (h _ _ rfl) aY) ?_;refine JG.mv 5 ht rfl rfl ?_;refine JG.mv 6 ht rfl rfl ?_;obtain⟨ba,a0,a1⟩:=bs aZ;refine JG.V 7 ht rfl rfl (fun ρ h s' hs=>Yl.A4 (h _ _ rfl) (h _ _ rfl) a0) ?_;cases a1
     ·have ar:=ap;rw [if_neg (by rw [ac];exact Bool.false_ne_true)] at ar;refine JL.exit rfl ?_;obtain rfl:=oi ar;obtain rfl:=aV _ al;exact JL.kw (aR _ _ ⟨ab,rfl,rfl,(aT.trans aW),aX⟩) rfl
    ·intro a2;refine Av.BP (q:=p1<A) (i:=21) rfl (fun ae=>?_) (fun ae=>?_)
     ·have au:=ao;rw [if_pos ae] at au;refine JG.mv 4 ht rfl rfl ?_;refine JG.mv 5 ht rfl rfl ?_;refine JG.mv 6 ht rfl rfl ?_;cases au
     ·have av:=ao;rw [if_neg ae] at av;refine JG.mv 4 ht rfl rfl ?_;refine JG.mv 5 ht rfl rfl ?_;refine JG.mv 6 ht rfl rfl ?_;refine JG.mv 7 ht rfl rfl ?_;refine JG.mv 8 ht rfl rfl ?_;refine JG.mv 9 ht rfl rfl ?_;refine JG.mv 10 ht rfl rfl ?_;refine JG.mv 11 ht rfl rfl ?_;refine JG.mv 12 ht rfl rfl ?_;refine JG.mv 13 ht rfl rfl ?_;refine JG.mv 14 ht rfl rfl ?_;refine JG.mv 15 ht rfl rfl ?_;refine JG.mv 16 ht rfl rfl ?_;obtain rfl:=oi av;refine Av.BK ?_ (a2 _ _ ⟨O,rfl,rfl,(Le.refl _),aU⟩);exact⟨rfl,rfl,rfl,rfl,rfl,rfl,rfl,trivial⟩
  ·have aw:=W;rw [if_neg Z] at aw;refine JL.exit rfl ?_;obtain rfl:=oi aw;obtain rfl:=aI _ U;exact JL.kw (aH _ _ ⟨K,rfl,rfl,ai,aj⟩) rfl
def KZ(fuel:Nat)(p1:Int)(A:Int×Int):Option (AU (Int×Int) (Int)):=
 if A.2≤p1 then(
  (Ib fuel A.1 A.2).bind fun O=>
  (Aw (A.2+20)).bind fun K=>
  some (.more (A.2,K))
 ) else(
  some (.done A.1)
 )
def K0(fuel:Nat)(p1:Int)(A:Int)(K:Int)(O:Unit):Option (AU (Unit) (Unit)):=
 if K≤p1 then(
  (Aw (0+A)).bind fun U=>
  none
 ) else(
  some (.done ())
 )
def KN(fuel:Nat)(p1:Int)(A:Int):Option (AU (Int) (Unit)):=
 if A<p1 then(
  (Aw (2*A)).bind fun K=>
  Option.bind (iter (K0 fuel p1 A K) fuel ()) fun W=>
  (Aw (0+A)).bind fun O=>
  Option.bind (
   if O<p1 then(
    none
   ) else(
    some ()
   )
  ) fun Z=>
  (Aw (A*2)).bind fun U=>
  some (.more U)
 ) else(
  some (.done ())
 )
def Jo(fuel:Nat)(p1:Int):Option (Unit):=
 Option.bind (iter (KZ fuel p1) fuel (0,20)) fun A=>
 (Ib fuel A p1).bind fun K=>
 Option.bind (iter (KN fuel p1) fuel 20) fun O=>
 some ()
theorem P6{p1:Int}{fuel:Nat}{r:Unit}(ao:Jo fuel p1=some r):Au J 138 [.slice none 0 0,iV p1,(.func (.func 125) #[] #[])] E [] (fun w E' B'=>w= .tuple #[]∧B'= []):=by
 refine Au.en func138 rfl rfl fun Q bC cs H aI aJ=>?_;unfold Jo at ao;obtain⟨aK,aL,aM⟩:=bs ao;refine JL.go 11 rfl ?_;refine JL.join (fun L s=>∃(ap:LH),Jm E H ap [] [(0,.slice none 0 0),(1,iV p1),(2,(.func (.func 125) #[] #[])),(6,iV 20),(7,iV aK)] L s) ?_ ?_
 ·rintro _ _ ⟨ap,rfl,rfl,aN,aO⟩;obtain⟨bD,aP,aQ⟩:=bs aM;refine JL.go 6 rfl ?_;refine JS.cl (Lm aP) rfl rfl (Ay func168 rfl) aO ?_;rintro _ W _ aR ⟨rfl,rfl⟩ aS;obtain⟨bE,aT,aU⟩:=bs aQ;refine JL.done ?_;refine JL.join (fun L s=>∃(aq:LH),Jm W H aq [] [] L s) ?_ ?_
  ·rintro _ _ ⟨aq,rfl,rfl,aV,aW⟩;obtain rfl:=oi aU;refine JL.fin (v:= .tuple #[]) rfl rfl (Bl.list func138 rfl (vs:= []) trivial) ?_;exact aJ _ _ _ _ ((aN.trans aR).trans aV) rfl ⟨rfl,rfl⟩ aW
  ·intro aX;refine JL.block ?_;refine JL.wk [(0,.slice none 0 0),(1,iV p1),(2,(.func (.func 125) #[] #[])),(6,iV 20)] rfl ?_;refine JL.Bg aT (fun L s A=>∃(K:LH),Jm W H K [] [(0,.slice none 0 0),(1,iV p1),(2,(.func (.func 125) #[] #[])),(6,iV A)] L s) ⟨W,rfl,rfl,(Le.refl _),aS⟩ ?_;rintro _ _ A ⟨K,rfl,rfl,ar,au⟩ aY ⟨bF,Z⟩ aZ;have aa:=Z;unfold KN at aa;refine JL.go 7 rfl ?_;refine JL.ifs (p:=A<p1) rfl (fun ab=>?_) (fun ab=>?_)
   ·have av:=aa;rw [if_pos ab] at av;obtain⟨ac,a0,a1⟩:=bs av;refine JL.go 5 rfl ?_;refine JL.Y rfl (fun ρ h=>Yl.mulC (h _ _ rfl) (h _ _ rfl) a0) ?_;obtain⟨bG,a2,a3⟩:=bs a1;refine JL.go 4 rfl ?_;refine JL.join (fun L s=>∃(U:LH),Jm K H U [] [(0,.slice none 0 0),(1,iV p1),(2,(.func (.func 125) #[] #[])),(6,iV A),(7,iV 0)] L s) ?_ ?_
    ·rintro _ _ ⟨U,rfl,rfl,a4,a5⟩;obtain⟨a6,a7,a8⟩:=bs a3;refine JL.go 5 rfl ?_;refine JL.Y rfl (fun ρ h=>Yl.A1 (h _ _ rfl) (h _ _ rfl) a7) ?_;obtain⟨bH,aw,a9⟩:=bs a8;refine JL.go 8 rfl ?_;refine JL.join (fun L s=>∃(ae:LH),Jm U H ae [] [(0,.slice none 0 0),(1,iV p1),(2,(.func (.func 125) #[] #[])),(6,iV A)] L s) ?_ ?_
     ·rintro _ _ ⟨ae,rfl,rfl,ba,bb⟩;obtain⟨bc,bd,bf⟩:=bs a9;refine JL.go 2 rfl ?_;refine JL.Y rfl (fun ρ h=>Yl.mulC (h _ _ rfl) (h _ _ rfl) bd) ?_;refine JL.go 3 rfl ?_;obtain rfl:=oi bf;exact JL.kw (aZ _ _ bc ⟨ae,rfl,rfl,((ar.trans a4).trans ba),bb⟩ Z) rfl
     ·intro bg;refine JL.ifs (p:=a6<p1) rfl (fun ag=>?_) (fun ag=>?_)
      ·have ay:=aw;rw [if_pos ag] at ay;refine JL.go 6 rfl ?_;cases ay
      ·have az:=aw;rw [if_neg ag] at az;refine JL.skip ?_;obtain rfl:=oi az;exact JL.kw (bg _ _ ⟨U,rfl,rfl,(Le.refl _),a5⟩) rfl
    ·intro bh;refine JL.block ?_;refine JL.wk [(0,.slice none 0 0),(1,iV p1),(2,(.func (.func 125) #[] #[])),(6,iV A),(7,iV 0),(8,iV ac)] rfl ?_;refine JL.Bg a2 (fun L s bi=>∃(ah:LH),Jm K H ah [] [(0,.slice none 0 0),(1,iV p1),(2,(.func (.func 125) #[] #[])),(6,iV A),(7,iV 0),(8,iV ac)] L s) ⟨K,rfl,rfl,(Le.refl _),au⟩ ?_;rintro _ _ bi ⟨ah,rfl,rfl,bj,bk⟩ bl ⟨bI,aA⟩ bJ;have ai:=aA;unfold K0 at ai;refine JL.go 7 rfl ?_;refine JL.ifs (p:=ac≤p1) rfl (fun aj=>?_) (fun aj=>?_)
     ·have aB:=ai;rw [if_pos aj] at aB;obtain⟨bK,bm,bn⟩:=bs aB;refine JL.go 8 rfl ?_;refine JL.Y rfl (fun ρ h=>Yl.A1 (h _ _ rfl) (h _ _ rfl) bm) ?_;refine JL.go 2 rfl ?_;cases bn
     ·have aC:=ai;rw [if_neg aj] at aC;refine JL.exit rfl ?_;obtain rfl:=oi aC;obtain rfl:=bl _ aA;exact JL.kw (bh _ _ ⟨ah,rfl,rfl,bj,bk⟩) rfl
   ·have aD:=aa;rw [if_neg ab] at aD;refine JL.exit rfl ?_;obtain rfl:=oi aD;obtain rfl:=aY _ Z;exact JL.kw (aX _ _ ⟨K,rfl,rfl,ar,au⟩) rfl
 ·intro bo;refine JL.block ?_;refine JL.wk [(0,.slice none 0 0),(1,iV p1),(2,(.func (.func 125) #[] #[])),(6,iV 20),(7,iV 0),(8,iV 20)] rfl ?_;refine JL.Bg aL (fun L s O=>∃(ak:LH),Jm E H ak [] [(0,.slice none 0 0),(1,iV p1),(2,(.func (.func 125) #[] #[])),(6,iV 20),(7,iV O.1),(8,iV O.2)] L s) ⟨E,rfl,rfl,(Le.refl _),aI⟩ ?_;rintro _ _ O ⟨ak,rfl,rfl,aE,aF⟩ bp ⟨bL,al⟩ bq;have am:=al;unfold KZ at am;refine JL.go 7 rfl ?_;refine JL.ifs (p:=O.2≤p1) rfl (fun an=>?_) (fun an=>?_)
  ·have aG:=am;rw [if_pos an] at aG;obtain⟨bM,br,bu⟩:=bs aG;refine JL.go 8 rfl ?_;refine JS.cl (Lm br) rfl rfl (Ay func168 rfl) aF ?_;rintro _ bv _ bw ⟨rfl,rfl⟩ bx;obtain⟨bz,bA,bB⟩:=bs bu;refine JL.go 9 rfl ?_;refine JL.Y rfl (fun ρ h=>Yl.A1 (h _ _ rfl) (h _ _ rfl) bA) ?_;refine JL.go 3 rfl ?_;obtain rfl:=oi bB;exact JL.kw (bq _ _ (O.2,bz) ⟨bv,rfl,rfl,(aE.trans bw),bx⟩ al) rfl
  ·have aH:=am;rw [if_neg an] at aH;refine JL.exit rfl ?_;obtain rfl:=oi aH;obtain rfl:=bp _ al;exact JL.kw (bo _ _ ⟨ak,rfl,rfl,aE,aF⟩) rfl
def ML(fuel:Nat):Option (Unit):=
 (Jo fuel ((0:Nat):Int)).bind fun A=>
 some ()
theorem O7{fuel:Nat}{r:Unit}(A:ML fuel=some r):Au J 124 [.slice none 0 0,(.func (.func 125) #[] #[])] E [] (fun w E' B'=>w= .tuple #[]∧B'= []):=by
 refine Au.en func124 rfl rfl fun Q ab cs H K O=>?_;unfold ML at A;refine JL.go 3 rfl ?_;refine JL.Y rfl (fun ρ h=>Yl.len rfl underlying25 (h _ _ rfl)) ?_;obtain⟨ac,U,W⟩:=bs A;refine JL.go 1 rfl ?_;refine JS.cl (P6 U) rfl rfl (Ay func138 rfl) K ?_;rintro _ ae _ Z ⟨rfl,rfl⟩ aa;refine JL.done ?_;obtain rfl:=oi W;refine JL.fin (v:= .tuple #[]) rfl rfl (Bl.list func124 rfl (vs:= []) trivial) ?_;exact O _ _ _ _ Z rfl ⟨rfl,rfl⟩ aa
theorem Pk{J:Judge Tryz.prog}{E:LH}{a:Option Addr}{c:Nat}{g:Seg}{p0:List (Int×Int)}(U:OL 27 (rP rI rI) E a c g p0){fuel:Nat}{r:List (Int×Int)}(A:f124 fuel p0=some r):
  Au J 124 [.slice a p0.length c,.func (.func 125) #[] #[]] E g (fun w E' B'=>w= .tuple #[]∧OL 27 (rP rI rI) E' a c B' r∧r.length=p0.length):=by
 rcases U.cases with⟨rfl,rfl,rfl,rfl⟩ | ⟨Z,f,rfl,rfl,hW⟩
 ·have W:r= []:=by
   cases fuel with
   | zero=>exact absurd A (by simp [f124,f138,iter])
   | succ fuel=>
    cases fuel with
    | zero=>exact(Option.some.inj (A.symm.trans (by rfl:f124 1 []=some []))).trans rfl
    | succ fuel=>exact(Option.some.inj (A.symm.trans (by rfl:f124 (fuel+2) []=some []))).trans rfl
  subst W;refine(O7 (fuel:=10) (r:=()) rfl).mono ?_;rintro w E' B' hle ⟨K,rfl⟩;exact⟨K,OL.nil,rfl⟩
 ·refine(Qk hW A).mono ?_;rintro w E' B' hle ⟨aa,K,rfl,O⟩;exact⟨K,O.1,O.2⟩
end Pal
namespace Pal
open Go Go.Conc Go.Proofs
open Go.Proofs.Tryz
def f94(fuel:Nat)(p0:List (Int×Int))(p1:List (Int×Int)):Option ((List (Int×Int))):=
 (CY p0 p1).bind fun A=>
 (f123 fuel A).bind fun K=>
 (f124 fuel K).bind fun O=>
 some O
theorem RP{E:LH}{A:Option Addr}{c2:Nat}{K:Option Addr}{O:Nat}{p0:List (Int×Int)}{p1:List (Int×Int)}(Z:Ar (rP rI rI) E A c2 (p0))(ak:Ar (rP rI rI) E K O (p1)){fuel:Nat}{r:(List (Int×Int))}(ac:f94 fuel p0 p1=some r):Au (Ce Tryz.prog) 94 [.slice A (p0).length c2,.slice K (p1).length O] E [] (fun w E' B'=>∃(ae:Option Addr) (ag:Nat),w= .slice ae (r).length ag∧B'= []∧Ar (rP rI rI) E' ae ag (r)):=by
 refine Au.en func94 rfl rfl fun Q aK cs H al am=>?_;unfold f94 at ac;refine JL.go 8 rfl ?_;refine JL.Y rfl (fun ρ h=>Yl.len rfl underlying25 (h _ _ rfl)) ?_;refine JL.go 1 rfl ?_;refine JL.Y rfl (fun ρ h=>Yl.len rfl underlying25 (h _ _ rfl)) ?_;refine JL.Y (v:= .slice A (p0).length (p0).length) rfl (fun ρ h=>Yl.Pp (Ar.spot Z) (And.left Z) underlying25 (Ah type27) (h _ _ rfl) (h _ _ rfl) (h _ _ rfl)) ?_;obtain⟨ah,an,ao⟩:=bs ac;refine JL.go 1 rfl ?_;refine JS.Pg (pp:=(rP rI rI)) an rfl rfl rfl rfl rfl rfl rfl underlying25 underlying25 (Ah type27) (Cp type27) (AN type27) rfl (by decide) (by decide) Z ak al fun aL ai aj ap aq ar=>?_;obtain⟨aM,au,av⟩:=bs ao;refine JL.go 5 rfl ?_;refine JS.cl (Qg aq au) rfl rfl (Ay func123 rfl) ar ?_;rintro _ aN _ aw ⟨U,W,aO,rfl,rfl,ay⟩ az;obtain⟨aa,aA,aB⟩:=bs av;refine JL.go 5 rfl ?_;refine JS.Bw 2 (Pk ay aA) rfl rfl (Ay func124 rfl) az rfl ?_;rintro _ aP aC aD ⟨rfl,aE,ab⟩ aF;refine JS.norm (S':= [[],[],aC]) rfl aF fun aG=>?_;refine JL.BK (L':= [(17,.tuple #[]),(0,.slice A (p0).length c2),(1,.slice K (p1).length O),(4,.slice none 0 0),(6,.slice A (p0).length c2),(7,.slice A (p0).length c2),(8,iV ((p0).length:Int)),(9,.slice A (p0).length c2),(10,iV ((p0).length:Int)),(11,.slice A (p0).length (p0).length),(12,.slice K (p1).length O),(13,.slice ai (ah).length aj),(5,.slice U (aa).length W),(14,.slice ai (ah).length aj),(15,.slice U (aa).length W),(16,.slice U (aa).length W)]) ⟨rfl,rfl,rfl,rfl,rfl,rfl,rfl,rfl,rfl,rfl,rfl,rfl,by rw [ab];rfl,rfl,by rw [ab];rfl,by rw [ab];rfl,trivial⟩ ?_;refine JL.go 6 rfl ?_;refine JS.BA 2 aE aG rfl fun aQ aH aI aJ=>?_;obtain rfl:=oi aB;refine JL.rt func94 rfl rfl ?_;exact am _ _ _ _ (((ap.trans aw).trans aD).trans aH) rfl ⟨U,W,rfl,rfl,aI⟩ aJ
def f37(fuel:Nat)(p0:(List (List Int))×(List (List Int)))(p1:List (Int×Int))(p2:List (Int×Int)):Option (Bool×Int):=
 (f69 fuel p0 p1).bind fun K=>
 if K≠0 then(
  some (false,K)
 ) else(
  (f69 fuel p0 p2).bind fun O=>
  if O≠0 then(
   some (false,O)
  ) else(
   (f92 fuel p0).bind fun aa=>
   (aa).bind fun A=>
   (f93 fuel A p1).bind fun U=>
   (f93 fuel A p2).bind fun W=>
   Option.bind (
    if((U.2).length:Int)=0 then(
     some true
    ) else(
     some (decide (((W.2).length:Int)=0))
    )
   ) fun ab=>
   if ab=true then(
    some (false,0)
   ) else(
    (f94 fuel p1 p2).bind fun ac=>
    (f93 fuel A ac).bind fun Z=>
    Option.bind (
     if 0<((Z.2).length:Int) then(
      (Aw (U.1+W.1)).bind fun ae=>
      some (decide (Z.1≤ae))
     ) else(
      some false
     )
    ) fun ag=>
    some (ag,0)
   )
  )
 )
theorem Rn{E:LH}{ak:Option Addr}{c2:Nat}{al:Option Addr}{am:Nat}{aw:Option Addr}{ay:Nat}{az:Option Addr}{aA:Nat}{p0:(List (List Int))×(List (List Int))}{p1:List (Int×Int)}{p2:List (Int×Int)}(aB:Ar (rL rI) E ak c2 (p0.1))(aC:Ar (rL rI) E al am (p0.2))(aD:Ar (rP rI rI) E aw ay (p1))(aE:Ar (rP rI rI) E az aA (p2)){fuel:Nat}{r:Bool×Int}(aQ:f37 fuel p0 p1 p2=some r):Au (Ce Tryz.prog) 37 [.agg #[.slice ak (p0.1).length c2,.slice al (p0.2).length am],.slice aw (p1).length ay,.slice az (p2).length aA] E [] (fun w E' B'=>w= .tuple #[.bool r.1,iV r.2]∧B'= []):=by
 refine Au.en func37 rfl rfl fun Q cp cs H bu an=>?_;unfold f37 at aQ;refine JL.go 2 rfl ?_;refine JS.box (v:= .agg #[.slice ak (p0.1).length c2,.slice al (p0.2).length am]) rfl rfl rfl bu rfl fun bv bw=>?_;refine JS.Bi 1 bw rfl fun bx A ag bz=>?_;replace ag:At bx bv 0 [.slice ak (p0.1).length c2,.slice al (p0.2).length am]:=ag;refine JL.go 6 rfl ?_;refine JL.Bt ag (Ao underlying24) (Ah type24) rfl rfl ?_;obtain⟨bA,bB,aR⟩:=bs aQ;refine JL.go 1 rfl ?_;refine JS.cl (G8 (aB.mono A) (aC.mono A) (aD.mono A) bB) rfl rfl (Ay func69 rfl) bz ?_;rintro _ cq _ K ⟨rfl,rfl⟩ aS;refine JL.go 7 rfl ?_;refine JL.ifs (p:=bA≠0) rfl (fun aF=>?_) (fun aF=>?_)
 ·have aT:=aR;rw [if_pos aF] at aT;refine JL.go 6 rfl ?_;obtain rfl:=oi aT;refine JL.rt func37 rfl rfl ?_;exact an _ _ _ _ (A.trans K) rfl ⟨rfl,rfl⟩ aS
 ·have aU:=aR;rw [if_neg aF] at aU;refine JL.go 4 rfl ?_;refine JL.Bt (ag.mono K) (Ao underlying24) (Ah type24) rfl rfl ?_;obtain⟨bC,bD,aV⟩:=bs aU;refine JL.go 1 rfl ?_;refine JS.cl (G8 (aB.mono (A.trans K)) (aC.mono (A.trans K)) (aE.mono (A.trans K)) bD) rfl rfl (Ay func69 rfl) aS ?_;rintro _ cr _ U ⟨rfl,rfl⟩ bE;refine JS.norm (S':= [[],[],[],[]]) rfl bE fun aW=>?_;refine JL.go 7 rfl ?_;refine JL.ifs (p:=bC≠0) rfl (fun aG=>?_) (fun aG=>?_)
  ·have aX:=aV;rw [if_pos aG] at aX;refine JL.go 6 rfl ?_;obtain rfl:=oi aX;refine JL.rt func37 rfl rfl ?_;exact an _ _ _ _ ((A.trans K).trans U) rfl ⟨rfl,rfl⟩ aW
  ·have aY:=aV;rw [if_neg aG] at aY;refine JL.go 3 rfl ?_;refine JL.Bt (ag.mono (K.trans U)) (Ao underlying24) (Ah type24) rfl rfl ?_;obtain⟨ct,bF,bG⟩:=bs aY;refine JS.cl (H7 (aB.mono ((A.trans K).trans U)) (aC.mono ((A.trans K).trans U)) bF) rfl rfl (Ay func92 rfl) aW ?_;rintro cu bH _ ae ⟨_,rfl,rfl,bI⟩ bJ;obtain⟨aZ,bK,bL⟩:=bs bG;have a0:=bI;refine JL.go 6 rfl ?_;rw [bK] at a0;obtain⟨a1,a2,_,rfl,ah,⟨_,_,rfl,⟨bM,bN,rfl,aH⟩,⟨_,bO,rfl,⟨bP,bQ,rfl,aI⟩,aJ⟩⟩⟩:=a0;replace ah:At bH a1 a2 (([.slice bM (aZ.1).length bN,.slice bP (aZ.2.1).length bQ]:List Value)++bO):=ah;obtain⟨ai,bR,bS⟩:=bs bL;refine JS.cl (Ic ah aH aI aJ (aD.mono (((A.trans K).trans U).trans ae)) bR) rfl rfl (Ay func93 rfl) bJ ?_;rintro _ cv _ O ⟨a3,a4,rfl,rfl,cw⟩ bT;obtain⟨ao,bU,bV⟩:=bs bS;refine JL.go 2 rfl ?_;refine JS.cl (Ic (ah.mono O) (aH.mono O) (aI.mono O) (Rp.mono _ O aJ) (aE.mono ((((A.trans K).trans U).trans ae).trans O)) bU) rfl rfl (Ay func93 rfl) bT ?_;rintro _ cy _ aa ⟨a5,a6,rfl,rfl,cz⟩ bW;refine JS.norm (S':= [[],[],[],[],[],[],[]]) rfl bW fun bX=>?_;refine JS.alloc rfl rfl rfl bX (AN type97) fun a7 bY=>?_;refine JS.alloc rfl rfl rfl bY (AN type97) fun aK bZ=>?_;refine JS.st (v:= .agg #[iV ai.1,.slice a3 (ai.2).length a4]) (off:=0) 7 bZ (Ah type97) rfl rfl rfl rfl fun b0=>?_;refine JS.Bi 7 b0 rfl fun b1 ab ap b2=>?_;replace ap:At b1 a7 0 [iV ai.1,.slice a3 (ai.2).length a4]:=ap;refine JS.norm (S':= [[],[],[],[],[],[],[],[],[(aK,.cells #[iV 0,.slice none 0 0] 97 (0,0))]]) rfl b2 fun b3=>?_;refine JS.st (v:= .agg #[iV ao.1,.slice a5 (ao.2).length a6]) (off:=0) 8 b3 (Ah type97) rfl rfl rfl rfl fun b4=>?_;refine JS.Bi 8 b4 rfl fun aq W ar a8=>?_;replace ar:At aq aK 0 [iV ao.1,.slice a5 (ao.2).length a6]:=ar;refine JL.go 4 rfl ?_;refine JL.fd underlying97 (Ah type95) rfl rfl rfl ?_;refine JL.ld 1 (ap.mono W) (Ao underlying95) rfl rfl rfl ?_;refine JL.Y rfl (fun ρ h=>Yl.len rfl underlying95 (h _ _ rfl)) ?_;obtain⟨a9,ba,bb⟩:=bs bV;refine JL.go 2 rfl ?_;refine JL.By [] (fun L s=>∃(bc:LH),Jm aq H bc [] [(1,.slice aw (p1).length ay),(2,.slice az (p2).length aA),(10,.pointer (some ⟨a1,a2,none⟩)),(11,.pointer (some ⟨a7,0,none⟩)),(12,.pointer (some ⟨aK,0,none⟩)),(43,.bool a9)] L s) ?_ ?_
   ·rintro _ _ ⟨bc,rfl,rfl,Z,bd⟩;refine JL.done ?_;refine JL.split (t:=a9) rfl (fun aL=>?_) (fun aL=>?_)
    ·have bf:=bb;rw [if_pos aL] at bf;refine JL.go 5 rfl ?_;obtain rfl:=oi bf;refine JL.rt func37 rfl rfl ?_;exact an _ _ _ _ ((((((((A.trans K).trans U).trans ae).trans O).trans aa).trans ab).trans W).trans Z) rfl ⟨rfl,rfl⟩ bd
    ·have bg:=bb;rw [if_neg (by rw [aL];exact Bool.false_ne_true)] at bg;obtain⟨cA,b5,b6⟩:=bs bg;refine JL.go 6 rfl ?_;refine JS.cl (RP (aD.mono ((((((((A.trans K).trans U).trans ae).trans O).trans aa).trans ab).trans W).trans Z)) (aE.mono ((((((((A.trans K).trans U).trans ae).trans O).trans aa).trans ab).trans W).trans Z)) b5) rfl rfl (Ay func94 rfl) bd ?_;rintro _ cB _ ac ⟨cC,cD,rfl,rfl,b7⟩ b8;obtain⟨aj,b9,ca⟩:=bs b6;refine JS.cl (Ic (ah.mono (((((O.trans aa).trans ab).trans W).trans Z).trans ac)) (aH.mono (((((O.trans aa).trans ab).trans W).trans Z).trans ac)) (aI.mono (((((O.trans aa).trans ab).trans W).trans Z).trans ac)) (Rp.mono _ (((((O.trans aa).trans ab).trans W).trans Z).trans ac) aJ) b7 b9) rfl rfl (Ay func93 rfl) b8 ?_;rintro _ cE _ aM ⟨bh,bi,rfl,rfl,cF⟩ cb;refine JS.norm (S':= [[],[]]) rfl cb fun cc=>?_;refine JS.alloc rfl rfl rfl cc (AN type97) fun cd ce=>?_;refine JS.st (v:= .agg #[iV aj.1,.slice bh (aj.2).length bi]) (off:=0) 2 ce (Ah type97) rfl rfl rfl rfl fun cf=>?_;refine JS.Bi 2 cf rfl fun au aN av bj=>?_;replace av:At au cd 0 [iV aj.1,.slice bh (aj.2).length bi]:=av;refine JL.go 3 rfl ?_;refine JL.fd underlying97 (Ah type95) rfl rfl rfl ?_;refine JL.ld 1 av (Ao underlying95) rfl rfl rfl ?_;refine JL.Y rfl (fun ρ h=>Yl.len rfl underlying95 (h _ _ rfl)) ?_;obtain⟨cg,bk,ci⟩:=bs ca;refine JL.go 2 rfl ?_;refine JL.By [14,15] (fun L s=>∃(bl:LH),Jm au H bl [] [(62,.bool cg)] L s) ?_ ?_
     ·rintro _ _ ⟨bl,rfl,rfl,ck,cm⟩;refine JL.go 3 rfl ?_;obtain rfl:=oi ci;refine JL.rt func37 rfl rfl ?_;exact an _ _ _ _ ((((((((((((A.trans K).trans U).trans ae).trans O).trans aa).trans ab).trans W).trans Z).trans ac).trans aM).trans aN).trans ck) rfl ⟨rfl,rfl⟩ cm
     ·intro bm;refine JL.BP (q:=0<((aj.2).length:Int)) (i:=53) rfl (fun aO=>?_) (fun aO=>?_)
      ·have bn:=bk;rw [if_pos aO] at bn;refine JL.fd underlying97 (Ah type3) rfl rfl rfl ?_;refine JL.ld 0 av (Ao underlying3) rfl rfl rfl ?_;refine JL.fd underlying97 (Ah type3) rfl rfl rfl ?_;refine JL.ld 0 (ap.mono ((((W.trans Z).trans ac).trans aM).trans aN)) (Ao underlying3) rfl rfl rfl ?_;refine JL.fd underlying97 (Ah type3) rfl rfl rfl ?_;refine JL.ld 0 (ar.mono (((Z.trans ac).trans aM).trans aN)) (Ao underlying3) rfl rfl rfl ?_;obtain⟨cG,cn,co⟩:=bs bn;refine JL.Y rfl (fun ρ h=>Yl.A1 (h _ _ rfl) (h _ _ rfl) cn) ?_;refine JL.go 2 rfl ?_;obtain rfl:=oi co;exact JL.kw (bm _ _ ⟨au,rfl,rfl,(Le.refl _),bj⟩) rfl
      ·have bo:=bk;rw [if_neg aO] at bo;refine JL.go 9 rfl ?_;obtain rfl:=oi bo;exact JL.kw (bm _ _ ⟨au,rfl,rfl,(Le.refl _),bj⟩) rfl
   ·intro bp;refine JL.BP (q:=((ai.2).length:Int)=0) (i:=38) rfl (fun aP=>?_) (fun aP=>?_)
    ·have bq:=ba;rw [if_pos aP] at bq;refine JL.go 5 rfl ?_;obtain rfl:=oi bq;exact JL.kw (bp _ _ ⟨aq,rfl,rfl,(Le.refl _),a8⟩) rfl
    ·have br:=ba;rw [if_neg aP] at br;refine JL.fd underlying97 (Ah type95) rfl rfl rfl ?_;refine JL.ld 1 ar (Ao underlying95) rfl rfl rfl ?_;refine JL.Y rfl (fun ρ h=>Yl.len rfl underlying95 (h _ _ rfl)) ?_;refine JL.go 2 rfl ?_;obtain rfl:=oi br;exact JL.kw (bp _ _ ⟨aq,rfl,rfl,(Le.refl _),a8⟩) rfl
end Pal
namespace Pal
open Go Go.Conc Go.Proofs
open Go.Proofs.Tryz
def Ie:List Nat:= [0,1,1,2,1,2,2,3,1,2,2,3,2,3,3,4,1,2,2,3,2,3,3,4,2,3,3,4,3,4,4,5,1,2,2,3,2,3,3,4,2,3,3,4,3,4,4,5,2,3,3,4,3,4,4,5,3,4,4,5,4,5,5,6,1,2,2,3,2,3,3,4,2,3,3,4,3,4,4,5,2,3,3,4,3,4,4,5,3,4,4,5,4,5,5,6,2,3,3,4,3,4,4,5,3,4,4,5,4,5,5,6,3,4,4,5,4,5,5,6,4,5,5,6,5,6,6,7,1,2,2,3,2,3,3,4,2,3,3,4,3,4,4,5,2,3,3,4,3,4,4,5,3,4,4,5,4,5,5,6,2,3,3,4,3,4,4,5,3,4,4,5,4,5,5,6,3,4,4,5,4,5,5,6,4,5,5,6,5,6,6,7,2,3,3,4,3,4,4,5,3,4,4,5,4,5,5,6,3,4,4,5,4,5,5,6,4,5,5,6,5,6,6,7,3,4,4,5,4,5,5,6,4,5,5,6,5,6,6,7,4,5,5,6,5,6,6,7,5,6,6,7,6,7,7,8]
def f86(fuel:Nat)(p0:Nat):Option (Int):=
 (Hj Ie ((((p0>>>8):Nat):Int))).bind fun A=>
 (Gz (p0) (255)).bind fun K=>
 (Hj Ie ((((K):Nat):Int))).bind fun O=>
 (Aw ((((A+O) % 256):Nat):Int)).bind fun U=>
 some U
theorem RS{E:LH}{p0:Nat}{fuel:Nat}{r:Int}(A:f86 fuel p0=some r):Au (Ce Tryz.prog) 86 [.int .u16 ((p0:Nat):Int)] E [] (fun w E' B'=>w=iV r∧B'= []):=by
 refine Au.en func86 rfl rfl fun Q al cs H U W=>?_;unfold f86 at A;refine JL.go 5 rfl ?_;refine JG.CQ 6 mixed rfl (by decide+kernel) fun ht=>?_;refine JG.mv 0 ht rfl rfl ?_;refine JG.V (v:= .int .u16 ((p0>>>8:Nat):Int)) 1 ht rfl rfl (fun ρ h s' hs=>Yl.RH 8 (h _ _ rfl) (h _ _ rfl) (by decide)) ?_;obtain⟨K,Z,aa⟩:=bs A;refine JG.V (v:= .int .u8 ((K:Nat):Int)) 2 ht rfl rfl (fun ρ h s' hs=>Yl.I5 (l:=Ie) (by decide+kernel) underlying9 (h _ _ rfl) (h _ _ rfl) Z) ?_;refine JG.mv 3 ht rfl rfl ?_;obtain⟨ab,ac,ae⟩:=bs aa;refine JG.V (v:= .int .u16 ((ab:Nat):Int)) 4 ht rfl rfl (fun ρ h s' hs=>Yl.Jc (h _ _ rfl) (h _ _ rfl) ac) ?_;obtain⟨O,ag,ah⟩:=bs ae;refine JG.V (v:= .int .u8 ((O:Nat):Int)) 5 ht rfl rfl (fun ρ h s' hs=>Yl.I5 (l:=Ie) (by decide+kernel) underlying9 (h _ _ rfl) (h _ _ rfl) ag) ?_;refine Av.leaf (tail:= [6,7,8]) (by decide+kernel) (fun t=>A3 (by decide+kernel) (A3 (by decide+kernel) (A3 (by decide+kernel) BE)) t) ?_;refine JL.Y (v:= .int .u8 (((K+O) % 256:Nat):Int)) rfl (fun ρ h=>Yl.RF (h _ _ rfl) (h _ _ rfl)) ?_;obtain⟨ai,aj,ak⟩:=bs ah;refine JL.Y (v:=iV ai) rfl (fun ρ h=>Yl.M1 underlying5 underlying3 (h _ _ rfl) aj) ?_;refine JL.go 2 rfl ?_;obtain rfl:=oi ak;refine JL.rt func86 rfl rfl ?_;exact W _ _ _ _ (Le.refl _) rfl ⟨rfl,rfl⟩ U
end Pal
namespace Pal
open Go Go.Conc Go.Proofs
open Go.Proofs.Tryz
def f85(fuel:Nat)(p0:Nat):Option (Int):=
 (f86 fuel p0).bind fun A=>
 some A
theorem MH{E:LH}{p0:Nat}{fuel:Nat}{r:Int}(A:f85 fuel p0=some r):Au (Ce Tryz.prog) 85 [.int .u16 ((p0:Nat):Int)] E [] (fun w E' B'=>w=iV r∧B'= []):=by
 refine Au.en func85 rfl rfl fun Q ab cs H K O=>?_;unfold f85 at A;obtain⟨ac,U,W⟩:=bs A;refine JL.go 7 rfl ?_;refine JS.cl (RS U) rfl rfl (Ay func86 rfl) K ?_;rintro _ ae _ Z ⟨rfl,rfl⟩ aa;refine JL.go 2 rfl ?_;obtain rfl:=oi W;refine JL.rt func85 rfl rfl ?_;exact O _ _ _ _ Z rfl ⟨rfl,rfl⟩ aa
end Pal
namespace Pal
open Go Go.Conc Go.Proofs
open Go.Proofs.Tryz
def My(fuel:Nat)(U:Int×(List Int)×Nat)(O:(List Int))(A:(List Nat)×Int):Option (AU ((List Nat)×Int) ((List Nat))):=
 if A.2<((O).length:Int) then(
  (ix O (A.2)).bind fun K=>
  (ix A.1 (K)).bind fun W=>
  (f90 fuel W U.1).bind fun Z=>
  (ix A.1 (K)).bind fun ab=>
  (Aw (A.2+1)).bind fun aa=>
  some (.more ((A.1.set (Int.toNat K) Z),aa))
 ) else(
  some (.done A.1)
 )
def Mf(fuel:Nat)(K:(Option ((List (List Int))×(List (List Int))×(List Nat)))×(Int×(List (Int×(List Int)×Nat)))×Int)(U:(List (List Int))×(List (List Int))×(List Nat))(W:Int×Int×Int)(A:(List Nat)×Int):Option (AU ((List Nat)×Int) ((List Nat))):=
 if A.2<((K.2.1.2).length:Int) then(
  (ix K.2.1.2 (A.2)).bind fun O=>
  (f88 fuel U O W.2.2).bind fun Z=>
  (f89 fuel Z).bind fun aa=>
  Option.bind (iter (My fuel O aa) fuel (A.1,0)) fun ab=>
  (Aw (A.2+1)).bind fun ac=>
  some (.more (ab,ac))
 ) else(
  some (.done A.1)
 )
def Mn(fuel:Nat)(K:(List Nat))(A:Int×Int):Option (AU (Int×Int) (Int)):=
 if A.2<8 then(
  (ix K (A.2)).bind fun O=>
  (f85 fuel O).bind fun U=>
  (Aw (A.2+1)).bind fun W=>
  some (.more (max (A.1) (U),W))
 ) else(
  some (.done A.1)
 )
def L3(fuel:Nat)(U:(Option ((List (List Int))×(List (List Int))×(List Nat)))×(Int×(List (Int×(List Int)×Nat)))×Int)(W:(List (List Int))×(List (List Int))×(List Nat))(A:Int×Int×Int):Option (AU (Int×Int×Int) (Int×Int)):=
 if A.2.2<7 then(
  Option.bind (iter (Mf fuel U W A) fuel ((List.replicate 8 (0:Nat)),0)) fun Z=>
  Option.bind (iter (Mn fuel Z) fuel (0,0)) fun K=>
  Option.bind (
   if K<A.2.1 then(
    some (A.2.2,K)
   ) else(
    some (A.1,A.2.1)
   )
  ) fun O=>
  (Aw (A.2.2+1)).bind fun aa=>
  some (.more (O.1,O.2,aa))
 ) else(
  some (.done (A.1,A.2.1))
 )
def f35(fuel:Nat)(p0:(List (List Int))×(List (List Int)))(p1:List (Int×Int)):Option (Int×Int×Int):=
 (f78 fuel p0 p1 (-1) false).bind fun A=>
 if A.2.2≠0 then(
  some (0,0,A.2.2)
 ) else(
  (f87 fuel A.2.1.2).bind fun O=>
  (f85 fuel O).bind fun U=>
  (A.1).bind fun W=>
  Option.bind (iter (L3 fuel A W) fuel ((-1),U,0)) fun K=>
  if K.1<0 then(
   some (0,0,11)
  ) else(
   some (K.1,K.2,0)
  )
 )
theorem RX{E:LH}{aF:Option Addr}{c2:Nat}{aG:Option Addr}{aH:Nat}{bp:Option Addr}{bq:Nat}{p0:(List (List Int))×(List (List Int))}{p1:List (Int×Int)}(ca:Ar (rL rI) E aF c2 (p0.1))(cb:Ar (rL rI) E aG aH (p0.2))(cc:Ar (rP rI rI) E bp bq (p1)){fuel:Nat}{r:Int×Int×Int}(br:f35 fuel p0 p1=some r):Au (Ce Tryz.prog) 35 [.agg #[.slice aF (p0.1).length c2,.slice aG (p0.2).length aH],.slice bp (p1).length bq] E [] (fun w E' B'=>w= .tuple #[iV r.1,iV r.2.1,iV r.2.2]∧B'= []):=by
 refine Au.en func35 rfl rfl fun Q em cs H cd aR=>?_;unfold f35 at br;refine JL.go 2 rfl ?_;refine JS.box (v:= .agg #[.slice aF (p0.1).length c2,.slice aG (p0.2).length aH]) rfl rfl rfl cd rfl fun ce cf=>?_;refine JS.Bi 1 cf rfl fun cg am aS ci=>?_;replace aS:At cg ce 0 [.slice aF (p0.1).length c2,.slice aG (p0.2).length aH]:=aS;refine JL.go 6 rfl ?_;refine JL.Bt aS (Ao underlying24) (Ah type24) rfl rfl ?_;obtain⟨K,ck,bu⟩:=bs br;refine JL.go 1 rfl ?_;refine JS.cl (Il (ca.mono am) (cb.mono am) (cc.mono am) ck) rfl rfl (Ay func78 rfl) ci ?_;rintro _ eo _ aT ⟨ep,ac,ae,rfl,rfl,cm,bv⟩ cn;refine JL.go 4 rfl ?_;refine JS.alloc rfl rfl rfl cn (AN type97) fun U co=>?_;refine JS.norm (S':= [[],[],[],[(U,.cells #[iV 0,.slice none 0 0] 97 (0,0))]]) rfl co fun cp=>?_;refine JL.go 1 rfl ?_;refine JS.st (v:= .agg #[iV K.2.1.1,.slice ac (K.2.1.2).length ae]) (off:=0) 3 cp (Ah type97) rfl rfl rfl rfl fun cq=>?_;refine JS.Bi 3 cq rfl fun cr an aI bw=>?_;replace aI:At cr U 0 [iV K.2.1.1,.slice ac (K.2.1.2).length ae]:=aI;refine JL.go 8 rfl ?_;refine JL.ifs (p:=K.2.2≠0) rfl (fun aU=>?_) (fun aU=>?_)
 ·have bx:=bu;rw [if_pos aU] at bx;refine JL.go 7 rfl ?_;obtain rfl:=oi bx;refine JL.rt func35 rfl rfl ?_;exact aR _ _ _ _ ((am.trans aT).trans an) rfl ⟨rfl,rfl⟩ bw
 ·have bz:=bu;rw [if_neg aU] at bz;refine JL.go 8 rfl ?_;refine JL.fd underlying97 (Ah type95) rfl rfl rfl ?_;refine JL.ld 1 aI (Ao underlying95) rfl rfl rfl ?_;obtain⟨ct,cu,cv⟩:=bs bz;refine JS.cl (RB (bv.mono an) cu) rfl rfl (Ay func87 rfl) bw ?_;rintro _ eq _ ay ⟨rfl,rfl⟩ cw;obtain⟨cy,cz,cA⟩:=bs cv;refine JS.FZ (vs:= [.int .u16 ((ct:Nat):Int)]) (MH cz) rfl rfl rfl rfl (Ay func85 rfl) rfl cw ?_;rintro _ aJ _ az ⟨rfl,rfl⟩ cB;refine JS.norm (S':= [[],[],[],[],[],[]]) rfl cB fun cC=>?_;obtain⟨bA,cD,cE⟩:=bs cA;have bB:=(cm.mono ((an.trans ay).trans az));refine JL.go 11 rfl ?_;rw [cD] at bB;obtain⟨W,Z,_,rfl,aV,⟨_,_,rfl,⟨cF,cG,rfl,cH⟩,⟨_,cI,rfl,⟨cJ,cK,rfl,cM⟩,cN⟩⟩⟩:=bB;replace aV:At aJ W Z (([.slice cF (bA.1).length cG,.slice cJ (bA.2.1).length cK]:List Value)++cI):=aV;obtain⟨aW,cO,bC⟩:=bs cE;refine JL.join (fun L s=>∃(bD:LH),Jm aJ H bD [] [(4,iV aW.1),(10,iV aW.2)] L s) ?_ ?_
  ·rintro _ _ ⟨bD,rfl,rfl,bE,bF⟩;refine JL.go 6 rfl ?_;refine JL.ifs (p:=aW.1<0) rfl (fun aX=>?_) (fun aX=>?_)
   ·have bG:=bC;rw [if_pos aX] at bG;refine JL.go 6 rfl ?_;obtain rfl:=oi bG;refine JL.rt func35 rfl rfl ?_;exact aR _ _ _ _ (((((am.trans aT).trans an).trans ay).trans az).trans bE) rfl ⟨rfl,rfl⟩ bF
   ·have bH:=bC;rw [if_neg aX] at bH;refine JL.go 9 rfl ?_;obtain rfl:=oi bH;refine JL.rt func35 rfl rfl ?_;exact aR _ _ _ _ (((((am.trans aT).trans an).trans ay).trans az).trans bE) rfl ⟨rfl,rfl⟩ bF
  ·intro cP;refine JL.block ?_;refine JL.wk [(4,iV (-1)),(7,.pointer (some ⟨W,Z,none⟩)),(8,.pointer (some ⟨U,0,none⟩)),(9,(.func (.func 85) #[] #[])),(10,iV cy),(35,iV 0)] rfl ?_;refine JL.Bg cO (fun L s A=>∃(ag:LH),Jm aJ H ag [] [(4,iV A.1),(7,.pointer (some ⟨W,Z,none⟩)),(8,.pointer (some ⟨U,0,none⟩)),(9,(.func (.func 85) #[] #[])),(10,iV A.2.1),(35,iV A.2.2)] L s) ⟨aJ,rfl,rfl,(Le.refl _),cC⟩ ?_;rintro _ _ A ⟨ag,rfl,rfl,ab,bI⟩ cQ ⟨er,aY⟩ cR;have aZ:=aY;unfold L3 at aZ;refine JL.go 5 rfl ?_;refine JL.ifs (p:=A.2.2<7) rfl (fun a0=>?_) (fun a0=>?_)
   ·have bJ:=aZ;rw [if_pos a0] at bJ;refine JL.go 10 rfl ?_;refine JS.alloc rfl rfl rfl bI (AN type114) fun O cT=>?_;refine JS.norm (S':= [[(O,.cells (([]:List Value)++(List.replicate 8 (.int .u16 ((0:Nat):Int)):List Value)).toArray 114 (0,0))]]) rfl cT fun cV=>?_;refine JL.go 4 rfl ?_;refine JL.fd underlying97 (Ah type95) rfl rfl rfl ?_;refine JL.ld 1 (aI.mono ((ay.trans az).trans ab)) (Ao underlying95) rfl rfl rfl ?_;refine JL.Y rfl (fun ρ h=>Yl.len rfl underlying95 (h _ _ rfl)) ?_;obtain⟨cW,cX,cY⟩:=bs bJ;refine JL.go 2 rfl ?_;refine JL.join (fun L s=>∃(ao:LH) (ap:List Value),Jn ag H ao [[(O,.cells (([]:List Value)++ap).toArray 114 (0,0))]] [(4,iV A.1),(7,.pointer (some ⟨W,Z,none⟩)),(8,.pointer (some ⟨U,0,none⟩)),(9,(.func (.func 85) #[] #[])),(10,iV A.2.1),(11,iV A.2.2),(12,.pointer (some ⟨O,0,none⟩)),(35,iV A.2.2)] L s ((rA 8 (rN .u16)).r ao ap (cW))) ?_ ?_
    ·rintro _ _ ⟨ao,ap,rfl,rfl,cZ,bK,bL⟩;refine JL.go 7 rfl ?_;refine JL.Y (v:= .agg ap.toArray) rfl (fun ρ h=>Yl.G3 (kk:=8) (pp:=(rN .u16)) bL (Ao underlying114) (Ah type114) (h _ _ rfl) (HD (l:= []) 0 bK rfl)) ?_;obtain⟨bM,c0,c1⟩:=bs cY;refine JL.go 2 rfl ?_;refine JL.join (fun L s=>∃(aA:LH),Jm ao H aA [] [(4,iV A.1),(7,.pointer (some ⟨W,Z,none⟩)),(8,.pointer (some ⟨U,0,none⟩)),(9,(.func (.func 85) #[] #[])),(10,iV A.2.1),(11,iV A.2.2),(17,iV bM),(35,iV A.2.2)] L s) ?_ ?_
     ·rintro _ _ ⟨aA,rfl,rfl,c3,bN⟩;obtain⟨aK,bO,c4⟩:=bs c1;refine JL.go 6 rfl ?_;refine JL.join (fun L s=>∃(a1:LH),Jm aA H a1 [] [(4,iV aK.1),(7,.pointer (some ⟨W,Z,none⟩)),(8,.pointer (some ⟨U,0,none⟩)),(9,(.func (.func 85) #[] #[])),(10,iV aK.2),(35,iV A.2.2)] L s) ?_ ?_
      ·rintro _ _ ⟨a1,rfl,rfl,c5,c6⟩;obtain⟨c7,c8,c9⟩:=bs c4;refine JL.go 2 rfl ?_;refine JL.Y rfl (fun ρ h=>Yl.A1 (h _ _ rfl) (h _ _ rfl) c8) ?_;refine JL.go 2 rfl ?_;obtain rfl:=oi c9;exact JL.kw (cR _ _ (aK.1,aK.2,c7) ⟨a1,rfl,rfl,(((ab.trans cZ).trans c3).trans c5),c6⟩ aY) rfl
      ·intro bP;refine JL.ifs (p:=bM<A.2.1) rfl (fun a2=>?_) (fun a2=>?_)
       ·have bQ:=bO;rw [if_pos a2] at bQ;refine JL.go 6 rfl ?_;obtain rfl:=oi bQ;exact JL.kw (bP _ _ ⟨aA,rfl,rfl,(Le.refl _),bN⟩) rfl
       ·have bR:=bO;rw [if_neg a2] at bR;refine JL.skip ?_;obtain rfl:=oi bR;exact JL.kw (bP _ _ ⟨aA,rfl,rfl,(Le.refl _),bN⟩) rfl
     ·intro da;refine JL.block ?_;refine JS.drop 0 bK rfl fun db=>?_;refine JL.wk [(4,iV A.1),(7,.pointer (some ⟨W,Z,none⟩)),(8,.pointer (some ⟨U,0,none⟩)),(9,(.func (.func 85) #[] #[])),(10,iV A.2.1),(11,iV A.2.2),(17,iV 0),(35,iV A.2.2),(65,.agg ap.toArray),(66,iV 0)] rfl ?_;refine JL.Bg c0 (fun L s aq=>∃(a3:LH),Jm ao H a3 [] [(4,iV A.1),(7,.pointer (some ⟨W,Z,none⟩)),(8,.pointer (some ⟨U,0,none⟩)),(9,(.func (.func 85) #[] #[])),(10,iV A.2.1),(11,iV A.2.2),(17,iV aq.1),(35,iV A.2.2),(65,.agg ap.toArray),(66,iV aq.2)] L s) ⟨ao,rfl,rfl,(Le.refl _),db⟩ ?_;rintro _ _ aq ⟨a3,rfl,rfl,a4,bS⟩ dc ⟨et,a5⟩ dd;have a6:=a5;unfold Mn at a6;refine JL.go 5 rfl ?_;refine JL.ifs (p:=aq.2<8) rfl (fun a7=>?_) (fun a7=>?_)
      ·have bT:=a6;rw [if_pos a7] at bT;obtain⟨de,df,dg⟩:=bs bT;refine JL.go 5 rfl ?_;refine JS.Sm (Rp.mono _ a4 bL) df rfl rfl rfl rfl rfl underlying114 (Ah type102) (Ao underlying102) ?_ (fun _=>rfl);rintro _ rfl;obtain⟨bU,dh,di⟩:=bs dg;refine JL.go 6 rfl ?_;refine JS.FZ (vs:= [.int .u16 ((de:Nat):Int)]) (MH dh) rfl rfl rfl rfl (Ay func85 rfl) rfl bS ?_;rintro _ dj _ dk ⟨rfl,rfl⟩ dl;refine JL.Y (v:=iV (max (aq.1) (bU))) rfl (fun ρ h=>Yl.max2 (h _ _ rfl) (h _ _ rfl)) ?_;obtain⟨dm,dn,dp⟩:=bs di;refine JL.go 4 rfl ?_;refine JL.Y rfl (fun ρ h=>Yl.A1 (h _ _ rfl) (h _ _ rfl) dn) ?_;refine JL.go 2 rfl ?_;obtain rfl:=oi dp;exact JL.kw (dd _ _ (max (aq.1) (bU),dm) ⟨dj,rfl,rfl,(a4.trans dk),dl⟩ a5) rfl
      ·have bV:=a6;rw [if_neg a7] at bV;refine JL.exit rfl ?_;obtain rfl:=oi bV;obtain rfl:=dc _ a5;exact JL.kw (da _ _ ⟨a3,rfl,rfl,a4,bS⟩) rfl
    ·intro dq;refine JL.block ?_;refine JL.wk [(4,iV A.1),(7,.pointer (some ⟨W,Z,none⟩)),(8,.pointer (some ⟨U,0,none⟩)),(9,(.func (.func 85) #[] #[])),(10,iV A.2.1),(11,iV A.2.2),(12,.pointer (some ⟨O,0,none⟩)),(35,iV A.2.2),(39,.slice ac (K.2.1.2).length ae),(40,iV ((K.2.1.2).length:Int)),(41,iV 0)] rfl ?_;refine JL.Bg cX (fun L s ah=>∃(aB:LH) (ar:List Value),Jn ag H aB [[(O,.cells (([]:List Value)++ar).toArray 114 (0,0))]] [(4,iV A.1),(7,.pointer (some ⟨W,Z,none⟩)),(8,.pointer (some ⟨U,0,none⟩)),(9,(.func (.func 85) #[] #[])),(10,iV A.2.1),(11,iV A.2.2),(12,.pointer (some ⟨O,0,none⟩)),(35,iV A.2.2),(39,.slice ac (K.2.1.2).length ae),(40,iV ((K.2.1.2).length:Int)),(41,iV ah.2)] L s ((rA 8 (rN .u16)).r aB ar (ah.1))) ⟨ag,(List.replicate 8 (.int .u16 ((0:Nat):Int)):List Value),rfl,rfl,(Le.refl _),cV,(Gm (E:=ag) (pp:=(rN .u16)) rfl)⟩ ?_;rintro _ _ ah ⟨aB,ar,rfl,rfl,ai,bW,bX⟩ dr ⟨eu,a8⟩ dt;have a9:=a8;unfold Mf at a9;refine JL.go 5 rfl ?_;refine JL.ifs (p:=ah.2<((K.2.1.2).length:Int)) rfl (fun ba=>?_) (fun ba=>?_)
     ·have bY:=a9;rw [if_pos ba] at bY;obtain⟨aa,du,dv⟩:=bs bY;refine JL.go 5 rfl ?_;refine JS.BH (bv.mono ((((an.trans ay).trans az).trans ab).trans ai)) du rfl rfl rfl rfl rfl underlying95 (Ah type104) ?_;rintro dw dx _ ⟨_,_,rfl,rfl,⟨_,_,rfl,⟨bb,bc,rfl,dy⟩,rfl⟩⟩ bd;replace bd:At aB dw dx [iV aa.1,.slice bb (aa.2.1).length bc,.int .u16 ((aa.2.2:Nat):Int)]:=bd;refine JL.Bt bd (Ao underlying104) (Ah type104) rfl rfl ?_;refine JS.alloc rfl rfl rfl bW (AN type104) fun bf dz=>?_;refine JS.st (v:= .agg #[iV aa.1,.slice bb (aa.2.1).length bc,.int .u16 ((aa.2.2:Nat):Int)]) (off:=0) 1 dz (Ah type104) rfl rfl rfl rfl fun dA=>?_;refine JS.Bi 1 dA rfl fun dB aj aL dC=>?_;replace aL:At dB bf 0 [iV aa.1,.slice bb (aa.2.1).length bc,.int .u16 ((aa.2.2:Nat):Int)]:=aL;refine JS.norm (S':= [[(O,.cells (([]:List Value)++ar).toArray 114 (0,0))],[]]) rfl dC fun dD=>?_;refine JL.go 4 rfl ?_;refine JL.Bt aL (Ao underlying104) (Ah type104) rfl rfl ?_;obtain⟨ew,dE,dF⟩:=bs dv;refine JL.go 1 rfl ?_;refine JS.cl (RJ (aV.mono ((ab.trans ai).trans aj)) (cH.mono ((ab.trans ai).trans aj)) (cM.mono ((ab.trans ai).trans aj)) (Rp.mono _ ((ab.trans ai).trans aj) cN) (dy.mono aj) dE) rfl rfl (Ay func88 rfl) dD ?_;rintro _ ex _ bg ⟨rfl,rfl⟩ dG;obtain⟨aC,dH,dI⟩:=bs dF;refine JS.cl (FY dH) rfl rfl (Ay func89 rfl) dG ?_;rintro _ bh _ bi ⟨bZ,b0,rfl,rfl,dJ⟩ dK;refine JL.Y rfl (fun ρ h=>Yl.len rfl underlying28 (h _ _ rfl)) ?_;obtain⟨b1,dL,dM⟩:=bs dI;refine JL.go 2 rfl ?_;refine JL.join (fun L s=>∃(aM:LH) (aN:List Value),Jn bh H aM [[(O,.cells (([]:List Value)++aN).toArray 114 (0,0))]] [(4,iV A.1),(7,.pointer (some ⟨W,Z,none⟩)),(8,.pointer (some ⟨U,0,none⟩)),(9,(.func (.func 85) #[] #[])),(10,iV A.2.1),(11,iV A.2.2),(12,.pointer (some ⟨O,0,none⟩)),(35,iV A.2.2),(39,.slice ac (K.2.1.2).length ae),(40,iV ((K.2.1.2).length:Int)),(41,iV ah.2)] L s ((rA 8 (rN .u16)).r aM aN (b1))) ?_ ?_
      ·rintro _ _ ⟨aM,aN,rfl,rfl,dN,dO,dP⟩;obtain⟨dQ,dR,dS⟩:=bs dM;refine JL.go 2 rfl ?_;refine JL.Y rfl (fun ρ h=>Yl.A1 (h _ _ rfl) (h _ _ rfl) dR) ?_;refine JL.go 2 rfl ?_;obtain rfl:=oi dS;exact JL.kw (dt _ _ (b1,dQ) ⟨aM,aN,rfl,rfl,((((ai.trans aj).trans bg).trans bi).trans dN),dO,dP⟩ a8) rfl
      ·intro dT;refine JL.block ?_;refine JL.wk [(4,iV A.1),(7,.pointer (some ⟨W,Z,none⟩)),(8,.pointer (some ⟨U,0,none⟩)),(9,(.func (.func 85) #[] #[])),(10,iV A.2.1),(11,iV A.2.2),(12,.pointer (some ⟨O,0,none⟩)),(14,.pointer (some ⟨bf,0,none⟩)),(35,iV A.2.2),(39,.slice ac (K.2.1.2).length ae),(40,iV ((K.2.1.2).length:Int)),(41,iV ah.2),(49,.slice bZ (aC).length b0),(50,iV ((aC).length:Int)),(51,iV 0)] rfl ?_;refine JL.Bg dL (fun L s au=>∃(aD:LH) (av:List Value),Jn bh H aD [[(O,.cells (([]:List Value)++av).toArray 114 (0,0))]] [(4,iV A.1),(7,.pointer (some ⟨W,Z,none⟩)),(8,.pointer (some ⟨U,0,none⟩)),(9,(.func (.func 85) #[] #[])),(10,iV A.2.1),(11,iV A.2.2),(12,.pointer (some ⟨O,0,none⟩)),(14,.pointer (some ⟨bf,0,none⟩)),(35,iV A.2.2),(39,.slice ac (K.2.1.2).length ae),(40,iV ((K.2.1.2).length:Int)),(41,iV ah.2),(49,.slice bZ (aC).length b0),(50,iV ((aC).length:Int)),(51,iV au.2)] L s ((rA 8 (rN .u16)).r aD av (au.1))) ⟨bh,ar,rfl,rfl,(Le.refl _),dK,(Rp.mono _ ((aj.trans bg).trans bi) bX)⟩ ?_;rintro _ _ au ⟨aD,av,rfl,rfl,aO,aE,aw⟩ dU ⟨ey,bj⟩ dV;have bk:=bj;unfold My at bk;refine JL.go 5 rfl ?_;refine JL.ifs (p:=au.2<((aC).length:Int)) rfl (fun bl=>?_) (fun bl=>?_)
       ·have b2:=bk;rw [if_pos bl] at b2;obtain⟨ak,dW,dX⟩:=bs b2;refine JL.go 5 rfl ?_;refine JS.BH (dJ.mono aO) dW rfl rfl rfl rfl rfl underlying28 (Ah type3) ?_;rintro dY dZ _ rfl bm;replace bm:At aD dY dZ [iV ak]:=bm;refine JL.ld 0 bm (Ao underlying3) rfl rfl rfl ?_;refine JL.go 2 rfl ?_;refine JG.BX 7 [O] ⟨⟨0,_,rfl⟩,trivial⟩ aE mixed rfl (by decide+kernel) fun ht=>?_;refine JG.mv 0 ht rfl rfl ?_;refine JG.mv 1 ht rfl rfl ?_;obtain⟨b3,b4,ea⟩:=bs dX;obtain⟨_,rfl,_,_,eb⟩:=Fj (kk:=8) (pp:=(rN .u16)) aw b4;refine JG.V (v:= .pointer (some ⟨O,0+Int.toNat (ak)*1,none⟩)) 2 ht rfl rfl (fun ρ h s' hs=>Yl.Gt (kk:=8) (pp:=(rN .u16)) aw b4 underlying114 (Ah type102) (h _ _ rfl) (h _ _ rfl)) ?_;refine JG.V (v:= .int .u16 ((b3:Nat):Int)) 3 ht rfl rfl (fun ρ h s' hs=>Yl.load (Ao underlying102) (h _ _ rfl) (N5 (l:= []) 0 aE rfl (by simp [AD]) hs (eb 0 _ rfl))) ?_;refine JG.fd 4 ht underlying104 (Ah type3) rfl rfl rfl rfl ?_;refine JG.V (v:=iV aa.1) 5 ht rfl rfl (fun ρ h s' hs=>Yl.load (Ao underlying3) (h _ _ rfl) (At.Cq (j:=0) (aL.mono ((bg.trans bi).trans aO)) (Cs aE hs ⟨⟨0,_,rfl⟩,trivial⟩) rfl)) ?_;obtain⟨al,ec,ed⟩:=bs ea;refine JG.Ia (i:=6) ⟨⟨0,_,rfl⟩,trivial⟩ (vs:= [.int .u16 ((b3:Nat):Int),iV aa.1]) (Ii ec) (by decide+kernel) rfl rfl rfl (Ay func90 rfl) rfl aE ?_;rintro _ b5 _ aP ⟨rfl,rfl⟩ ee;refine Av.leaf (tail:= [7,8]) (by decide+kernel) (fun t=>A3 (by decide+kernel) (A3 (by decide+kernel) BE) t) ?_;obtain⟨ez,bn,ef⟩:=bs ed;obtain⟨_,rfl,_,_,eA⟩:=Fj (kk:=8) (pp:=(rN .u16)) (Rp.mono _ aP aw) bn;refine JL.Y (v:= .pointer (some ⟨O,0+Int.toNat (ak)*1,none⟩)) rfl (fun ρ h=>Yl.Gt (kk:=8) (pp:=(rN .u16)) (Rp.mono _ aP aw) bn underlying114 (Ah type102) (h _ _ rfl) (h _ _ rfl)) ?_;have aQ:=Jd (us:= [.int .u16 ((al:Nat):Int)]) (y:=al) (Rp.mono _ aP aw) bn rfl;refine JS.GW (v:= .int .u16 ((al:Nat):Int)) (l:= []) (ws:=av) (us:= [.int .u16 ((al:Nat):Int)]) (o:=Int.toNat (ak)*1) 0 rfl rfl rfl ee rfl rfl rfl (Ah type102) (by simp [Value.cells,Bs]) rfl aQ.2 fun b6=>?_;replace aQ:=aQ.1;generalize eg:EF av (Int.toNat (ak)*1) [.int .u16 ((al:Nat):Int)]=bo at b6 ⊢;have eh:(rA 8 (rN .u16)).r b5 bo (au.1.set (Int.toNat ak) al):=by rw [← eg];exact aQ
        refine JS.norm (S':= [[(O,.cells (([]:List Value)++bo).toArray 114 (0,0))],[]]) rfl b6 fun ei=>?_;obtain⟨ej,ek,el⟩:=bs ef;refine JL.go 3 rfl ?_;refine JL.Y rfl (fun ρ h=>Yl.A1 (h _ _ rfl) (h _ _ rfl) ek) ?_;refine JL.go 2 rfl ?_;obtain rfl:=oi el;exact JL.kw (dV _ _ ((au.1.set (Int.toNat ak) al),ej) ⟨b5,bo,rfl,rfl,(aO.trans aP),ei,eh⟩ bj) rfl
       ·have b7:=bk;rw [if_neg bl] at b7;refine JL.exit rfl ?_;obtain rfl:=oi b7;obtain rfl:=dU _ bj;exact JL.kw (dT _ _ ⟨aD,av,rfl,rfl,aO,aE,aw⟩) rfl
     ·have b8:=a9;rw [if_neg ba] at b8;refine JL.exit rfl ?_;obtain rfl:=oi b8;obtain rfl:=dr _ a8;exact JL.kw (dq _ _ ⟨aB,ar,rfl,rfl,ai,bW,bX⟩) rfl
   ·have b9:=aZ;rw [if_neg a0] at b9;refine JL.exit rfl ?_;obtain rfl:=oi b9;obtain rfl:=cQ _ aY;exact JL.kw (cP _ _ ⟨ag,rfl,rfl,ab,bI⟩) rfl
end Pal
namespace Pal
open Go Go.Conc Go.Proofs
open Go.Proofs.Tryz
def Mx(fuel:Nat)(p2:Int)(K:(Option ((List (List Int))×(List (List Int))×(List Nat)))×(Int×(List (Int×(List Int)×Nat)))×Int)(A:Int×Int):Option (AU (Int×Int) (Int)):=
 if A.2<((K.2.1.2).length:Int) then(
  (ix K.2.1.2 (A.2)).bind fun O=>
  (f103 fuel O.2.2 p2).bind fun U=>
  Option.bind (
   if U=true then(
    (Aw (A.1+1)).bind fun W=>
    some W
   ) else(
    some A.1
   )
  ) fun Z=>
  (Aw (A.2+1)).bind fun aa=>
  some (.more (Z,aa))
 ) else(
  some (.done A.1)
 )
def f49(fuel:Nat)(p0:(List (List Int))×(List (List Int)))(p1:List (Int×Int))(p2:Int):Option (Int×Int):=
 (f69 fuel p0 p1).bind fun O=>
 if O≠0 then(
  some (0,O)
 ) else(
  (Aw (((p1).length:Int) - 1)).bind fun U=>
  (f101 fuel p2 0 U).bind fun W=>
  if W=true then(
   some (0,3)
  ) else(
   (f78 fuel p0 p1 p2 false).bind fun A=>
   if A.2.2≠0 then(
    some (0,A.2.2)
   ) else(
    Option.bind (iter (Mx fuel p2 A) fuel (0,0)) fun K=>
    Option.bind (
     Option.bind (
      Option.bind (
       if 0<K then(
        some (decide (K<((A.2.1.2).length:Int)))
       ) else(
        some false
       )
      ) fun Z=>
      if Z=true then(
       (Aw (0+1)).bind fun aa=>
       (Aw (aa+1)).bind fun ab=>
       some ab
      ) else(
       if K=0 then(
        (Aw (0+1)).bind fun ac=>
        some ac
       ) else(
        some 0
       )
      )
     ) fun ae=>
     (Aw (ae+1)).bind fun ag=>
     some ag
    ) fun ah=>
    some (ah,0)
   )
  )
 )
theorem Rv{E:LH}{ah:Option Addr}{c2:Nat}{ai:Option Addr}{aj:Nat}{aQ:Option Addr}{aR:Nat}{p0:(List (List Int))×(List (List Int))}{p1:List (Int×Int)}{p2:Int}(aS:Ar (rL rI) E ah c2 (p0.1))(aT:Ar (rL rI) E ai aj (p0.2))(aU:Ar (rP rI rI) E aQ aR (p1)){fuel:Nat}{r:Int×Int}(aV:f49 fuel p0 p1 p2=some r):Au (Ce Tryz.prog) 49 [.agg #[.slice ah (p0.1).length c2,.slice ai (p0.2).length aj],.slice aQ (p1).length aR,iV p2] E [] (fun w E' B'=>w= .tuple #[iV r.1,iV r.2]∧B'= []):=by
 refine Au.en func49 rfl rfl fun Q cG cs H bx ak=>?_;unfold f49 at aV;refine JL.go 2 rfl ?_;refine JS.box (v:= .agg #[.slice ah (p0.1).length c2,.slice ai (p0.2).length aj]) rfl rfl rfl bx rfl fun bz bA=>?_;refine JS.Bi 1 bA rfl fun bB K al bC=>?_;replace al:At bB bz 0 [.slice ah (p0.1).length c2,.slice ai (p0.2).length aj]:=al;refine JL.go 6 rfl ?_;refine JL.Bt al (Ao underlying24) (Ah type24) rfl rfl ?_;obtain⟨bD,bE,aW⟩:=bs aV;refine JL.go 1 rfl ?_;refine JS.cl (G8 (aS.mono K) (aT.mono K) (aU.mono K) bE) rfl rfl (Ay func69 rfl) bC ?_;rintro _ cH _ U ⟨rfl,rfl⟩ aX;refine JL.go 7 rfl ?_;refine JL.ifs (p:=bD≠0) rfl (fun aq=>?_) (fun aq=>?_)
 ·have aY:=aW;rw [if_pos aq] at aY;refine JL.go 6 rfl ?_;obtain rfl:=oi aY;refine JL.rt func49 rfl rfl ?_;exact ak _ _ _ _ (K.trans U) rfl ⟨rfl,rfl⟩ aX
 ·have aZ:=aW;rw [if_neg aq] at aZ;refine JL.go 6 rfl ?_;refine JL.Y rfl (fun ρ h=>Yl.len rfl underlying25 (h _ _ rfl)) ?_;obtain⟨cI,bF,bG⟩:=bs aZ;refine JL.Y rfl (fun ρ h=>Yl.A4 (h _ _ rfl) (h _ _ rfl) bF) ?_;obtain⟨bH,bI,a0⟩:=bs bG;refine JS.cl (FQ bI) rfl rfl (Ay func101 rfl) aX ?_;rintro _ cJ _ W ⟨rfl,rfl⟩ bJ;refine JS.norm (S':= [[],[],[],[]]) rfl bJ fun a1=>?_;refine JL.done ?_;refine JL.split (t:=bH) rfl (fun ar=>?_) (fun ar=>?_)
  ·have a2:=a0;rw [if_pos ar] at a2;refine JL.go 5 rfl ?_;obtain rfl:=oi a2;refine JL.rt func49 rfl rfl ?_;exact ak _ _ _ _ ((K.trans U).trans W) rfl ⟨rfl,rfl⟩ a1
  ·have a3:=a0;rw [if_neg (by rw [ar];exact Bool.false_ne_true)] at a3;refine JL.go 3 rfl ?_;refine JL.Bt (al.mono (U.trans W)) (Ao underlying24) (Ah type24) rfl rfl ?_;obtain⟨A,bK,a4⟩:=bs a3;refine JL.go 2 rfl ?_;refine JS.cl (Il (aS.mono ((K.trans U).trans W)) (aT.mono ((K.trans U).trans W)) (aU.mono ((K.trans U).trans W)) bK) rfl rfl (Ay func78 rfl) a1 ?_;rintro _ cK _ a5 ⟨cM,aa,ab,rfl,rfl,cN,bL⟩ bM;refine JL.go 4 rfl ?_;refine JS.alloc rfl rfl rfl bM (AN type97) fun ac bN=>?_;refine JL.go 1 rfl ?_;refine JS.st (v:= .agg #[iV A.2.1.1,.slice aa (A.2.1.2).length ab]) (off:=0) 5 bN (Ah type97) rfl rfl rfl rfl fun bO=>?_;refine JS.Bi 5 bO rfl fun am au an bP=>?_;replace an:At am ac 0 [iV A.2.1.1,.slice aa (A.2.1.2).length ab]:=an;refine JS.norm (S':= [[],[],[],[],[],[]]) rfl bP fun a6=>?_;refine JL.go 8 rfl ?_;refine JL.ifs (p:=A.2.2≠0) rfl (fun av=>?_) (fun av=>?_)
   ·have a7:=a4;rw [if_pos av] at a7;refine JL.go 6 rfl ?_;obtain rfl:=oi a7;refine JL.rt func49 rfl rfl ?_;exact ak _ _ _ _ ((((K.trans U).trans W).trans a5).trans au) rfl ⟨rfl,rfl⟩ a6
   ·have a8:=a4;rw [if_neg av] at a8;refine JL.go 8 rfl ?_;refine JL.fd underlying97 (Ah type95) rfl rfl rfl ?_;refine JL.ld 1 an (Ao underlying95) rfl rfl rfl ?_;refine JL.Y rfl (fun ρ h=>Yl.len rfl underlying95 (h _ _ rfl)) ?_;obtain⟨ao,bQ,bR⟩:=bs a8;refine JL.go 2 rfl ?_;refine JL.join (fun L s=>∃(Z:LH),Jm am H Z [] [(10,.pointer (some ⟨ac,0,none⟩)),(12,iV ao)] L s) ?_ ?_
    ·rintro _ _ ⟨Z,rfl,rfl,a9,ba⟩;obtain⟨bS,bT,bU⟩:=bs bR;refine JL.go 5 rfl ?_;refine JL.join (fun L s=>∃(bb:LH),Jm Z H bb [] [(15,iV bS)] L s) ?_ ?_
     ·rintro _ _ ⟨bb,rfl,rfl,bV,bW⟩;refine JL.go 6 rfl ?_;obtain rfl:=oi bU;refine JL.rt func49 rfl rfl ?_;exact ak _ _ _ _ ((((((K.trans U).trans W).trans a5).trans au).trans a9).trans bV) rfl ⟨rfl,rfl⟩ bW
     ·intro bX;obtain⟨bY,bZ,b0⟩:=bs bT;refine JL.go 2 rfl ?_;refine JL.join (fun L s=>∃(aw:LH),Jm Z H aw [] [(15,iV bY)] L s) ?_ ?_
      ·rintro _ _ ⟨aw,rfl,rfl,b1,b2⟩;obtain⟨cO,b3,b4⟩:=bs b0;refine JL.go 3 rfl ?_;refine JL.Y rfl (fun ρ h=>Yl.A1 (h _ _ rfl) (h _ _ rfl) b3) ?_;refine JL.go 3 rfl ?_;obtain rfl:=oi b4;exact JL.kw (bX _ _ ⟨aw,rfl,rfl,b1,b2⟩) rfl
      ·intro ay;obtain⟨bc,bd,bf⟩:=bs bZ;refine JL.go 12 rfl ?_;refine JL.By [9] (fun L s=>∃(ae:LH),Jm Z H ae [] [(12,iV ao),(15,iV 0),(61,.bool bc)] L s) ?_ ?_
       ·rintro _ _ ⟨ae,rfl,rfl,az,aA⟩;refine JL.go 2 rfl ?_;refine JL.split (t:=bc) rfl (fun aB=>?_) (fun aB=>?_)
        ·have bg:=bf;rw [if_pos aB] at bg;obtain⟨cP,b5,b6⟩:=bs bg;refine JL.go 3 rfl ?_;refine JL.Y rfl (fun ρ h=>Yl.A1 (h _ _ rfl) (h _ _ rfl) b5) ?_;obtain⟨cQ,b7,b8⟩:=bs b6;refine JL.go 5 rfl ?_;refine JL.Y rfl (fun ρ h=>Yl.A1 (h _ _ rfl) (h _ _ rfl) b7) ?_;refine JL.go 3 rfl ?_;obtain rfl:=oi b8;exact JL.kw (ay _ _ ⟨ae,rfl,rfl,az,aA⟩) rfl
        ·have aC:=bf;rw [if_neg (by rw [aB];exact Bool.false_ne_true)] at aC;refine JL.go 7 rfl ?_;refine JL.ifs (p:=ao=0) rfl (fun aD=>?_) (fun aD=>?_)
         ·have bh:=aC;rw [if_pos aD] at bh;obtain⟨cR,b9,ca⟩:=bs bh;refine JL.go 3 rfl ?_;refine JL.Y rfl (fun ρ h=>Yl.A1 (h _ _ rfl) (h _ _ rfl) b9) ?_;refine JL.go 3 rfl ?_;obtain rfl:=oi ca;exact JL.kw (ay _ _ ⟨ae,rfl,rfl,az,aA⟩) rfl
         ·have bi:=aC;rw [if_neg aD] at bi;refine JL.go 2 rfl ?_;obtain rfl:=oi bi;exact JL.kw (ay _ _ ⟨ae,rfl,rfl,az,aA⟩) rfl
       ·intro bj;refine JL.BP (q:=0<ao) (i:=55) rfl (fun aE=>?_) (fun aE=>?_)
        ·have bk:=bd;rw [if_pos aE] at bk;refine JL.go 1 rfl ?_;refine JL.fd underlying97 (Ah type95) rfl rfl rfl ?_;refine JL.ld 1 (an.mono a9) (Ao underlying95) rfl rfl rfl ?_;refine JL.Y rfl (fun ρ h=>Yl.len rfl underlying95 (h _ _ rfl)) ?_;refine JL.go 2 rfl ?_;obtain rfl:=oi bk;exact JL.kw (bj _ _ ⟨Z,rfl,rfl,(Le.refl _),ba⟩) rfl
        ·have bl:=bd;rw [if_neg aE] at bl;refine JL.go 6 rfl ?_;obtain rfl:=oi bl;exact JL.kw (bj _ _ ⟨Z,rfl,rfl,(Le.refl _),ba⟩) rfl
    ·intro cb;refine JL.block ?_;refine JL.wk [(2,iV p2),(10,.pointer (some ⟨ac,0,none⟩)),(12,iV 0),(39,.slice aa (A.2.1.2).length ab),(40,iV ((A.2.1.2).length:Int)),(41,iV 0)] rfl ?_;refine JL.Bg bQ (fun L s ag=>∃(ap:LH),Jm am H ap [] [(2,iV p2),(10,.pointer (some ⟨ac,0,none⟩)),(12,iV ag.1),(39,.slice aa (A.2.1.2).length ab),(40,iV ((A.2.1.2).length:Int)),(41,iV ag.2)] L s) ⟨am,rfl,rfl,(Le.refl _),a6⟩ ?_;rintro _ _ ag ⟨ap,rfl,rfl,aF,bm⟩ cc ⟨cT,aG⟩ cd;have aH:=aG;unfold Mx at aH;refine JL.go 5 rfl ?_;refine JL.ifs (p:=ag.2<((A.2.1.2).length:Int)) rfl (fun aI=>?_) (fun aI=>?_)
     ·have bn:=aH;rw [if_pos aI] at bn;obtain⟨O,ce,cf⟩:=bs bn;refine JL.go 5 rfl ?_;refine JS.BH (bL.mono (au.trans aF)) ce rfl rfl rfl rfl rfl underlying95 (Ah type104) ?_;rintro cg ci _ ⟨_,_,rfl,rfl,⟨_,_,rfl,⟨aJ,aK,rfl,cV⟩,rfl⟩⟩ aL;replace aL:At ap cg ci [iV O.1,.slice aJ (O.2.1).length aK,.int .u16 ((O.2.2:Nat):Int)]:=aL;refine JL.Bt aL (Ao underlying104) (Ah type104) rfl rfl ?_;refine JS.alloc rfl rfl rfl bm (AN type104) fun ck cm=>?_;refine JS.st (v:= .agg #[iV O.1,.slice aJ (O.2.1).length aK,.int .u16 ((O.2.2:Nat):Int)]) (off:=0) 0 cm (Ah type104) rfl rfl rfl rfl fun cn=>?_;refine JS.Bi 0 cn rfl fun co cp aM cq=>?_;replace aM:At co ck 0 [iV O.1,.slice aJ (O.2.1).length aK,.int .u16 ((O.2.2:Nat):Int)]:=aM;refine JL.go 3 rfl ?_;refine JL.fd underlying104 (Ah type102) rfl rfl rfl ?_;refine JL.ld 2 aM (Ao underlying102) rfl rfl rfl ?_;obtain⟨cr,ct,cu⟩:=bs cf;refine JL.go 1 rfl ?_;refine JS.cl (Ja ct) rfl rfl (Ay func103 rfl) cq ?_;rintro _ aN _ cv ⟨rfl,rfl⟩ cw;refine JS.norm (S':= [[],[]]) rfl cw fun bo=>?_;obtain⟨bp,bq,cy⟩:=bs cu;refine JL.done ?_;refine JL.join (fun L s=>∃(aO:LH),Jm aN H aO [] [(2,iV p2),(10,.pointer (some ⟨ac,0,none⟩)),(12,iV bp),(39,.slice aa (A.2.1.2).length ab),(40,iV ((A.2.1.2).length:Int)),(41,iV ag.2)] L s) ?_ ?_
      ·rintro _ _ ⟨aO,rfl,rfl,cz,cA⟩;obtain⟨cB,cC,cD⟩:=bs cy;refine JL.go 2 rfl ?_;refine JL.Y rfl (fun ρ h=>Yl.A1 (h _ _ rfl) (h _ _ rfl) cC) ?_;refine JL.go 2 rfl ?_;obtain rfl:=oi cD;exact JL.kw (cd _ _ (bp,cB) ⟨aO,rfl,rfl,(((aF.trans cp).trans cv).trans cz),cA⟩ aG) rfl
      ·intro br;refine JL.split (t:=cr) rfl (fun aP=>?_) (fun aP=>?_)
       ·have bu:=bq;rw [if_pos aP] at bu;obtain⟨cW,cE,cF⟩:=bs bu;refine JL.go 2 rfl ?_;refine JL.Y rfl (fun ρ h=>Yl.A1 (h _ _ rfl) (h _ _ rfl) cE) ?_;refine JL.go 2 rfl ?_;obtain rfl:=oi cF;exact JL.kw (br _ _ ⟨aN,rfl,rfl,(Le.refl _),bo⟩) rfl
       ·have bv:=bq;rw [if_neg (by rw [aP];exact Bool.false_ne_true)] at bv;refine JL.skip ?_;obtain rfl:=oi bv;exact JL.kw (br _ _ ⟨aN,rfl,rfl,(Le.refl _),bo⟩) rfl
     ·have bw:=aH;rw [if_neg aI] at bw;refine JL.exit rfl ?_;obtain rfl:=oi bw;obtain rfl:=cc _ aG;exact JL.kw (cb _ _ ⟨ap,rfl,rfl,aF,bm⟩) rfl
end Pal
namespace Pal
open Go Go.Conc Go.Proofs
open Go.Proofs.Tryz
def f22(fuel:Nat):Option (Bool):=
 (f71 fuel).bind fun ac=>
 (f51 fuel ac 4).bind fun O=>
 (f71 fuel).bind fun ae=>
 (f57 fuel ae 5).bind fun U=>
 (f71 fuel).bind fun ag=>
 (f72 fuel).bind fun ah=>
 (f43 fuel ag ah 2).bind fun W=>
 (f71 fuel).bind fun ai=>
 (f28 fuel ai ([])).bind fun Z=>
 (f71 fuel).bind fun aj=>
 (f73 fuel).bind fun ak=>
 (f49 fuel aj ak 1).bind fun aa=>
 (f71 fuel).bind fun al=>
 (f35 fuel al ([])).bind fun A=>
 (f71 fuel).bind fun am=>
 (f72 fuel).bind fun an=>
 (f72 fuel).bind fun ao=>
 (f37 fuel am an ao).bind fun ab=>
 (f71 fuel).bind fun ap=>
 (f73 fuel).bind fun aq=>
 (f30 fuel ap aq).bind fun K=>
 Option.bind (
  if O.2=0 then(
   some (decide (U.2=0))
  ) else(
   some false
  )
 ) fun ar=>
 Option.bind (
  if ar=true then(
   some (decide (W.2=0))
  ) else(
   some false
  )
 ) fun au=>
 Option.bind (
  if au=true then(
   some (decide (Z.2=0))
  ) else(
   some false
  )
 ) fun av=>
 Option.bind (
  if av=true then(
   some (decide (aa.2=0))
  ) else(
   some false
  )
 ) fun aw=>
 Option.bind (
  if aw=true then(
   some (decide (A.2.2=0))
  ) else(
   some false
  )
 ) fun ay=>
 Option.bind (
  if ay=true then(
   some (decide (ab.2=0))
  ) else(
   some false
  )
 ) fun az=>
 Option.bind (
  if az=true then(
   some (decide (K.2.2=0))
  ) else(
   some false
  )
 ) fun aA=>
 Option.bind (
  if aA=true then(
   some (decide (U.1=3))
  ) else(
   some false
  )
 ) fun aB=>
 Option.bind (
  if aB=true then(
   some (decide (Z.1=15))
  ) else(
   some false
  )
 ) fun aC=>
 Option.bind (
  if aC=true then(
   some (decide (aa.1=1))
  ) else(
   some false
  )
 ) fun aD=>
 Option.bind (
  if aD=true then(
   some (decide (A.1=0))
  ) else(
   some false
  )
 ) fun aE=>
 Option.bind (
  if aE=true then(
   some (decide (A.2.1=9))
  ) else(
   some false
  )
 ) fun aF=>
 Option.bind (
  if aF=true then(
   some ab.1
  ) else(
   some false
  )
 ) fun aG=>
 Option.bind (
  if aG=true then(
   some (decide (K.1=3))
  ) else(
   some false
  )
 ) fun aH=>
 Option.bind (
  if aH=true then(
   (f32 fuel O.1 ([4,5]:List Int)).bind fun aI=>
   some aI
  ) else(
   some false
  )
 ) fun aJ=>
 Option.bind (
  if aJ=true then(
   (f32 fuel W.1 ([2,3,4]:List Int)).bind fun aK=>
   some aK
  ) else(
   some false
  )
 ) fun aL=>
 Option.bind (
  if aL=true then(
   (f32 fuel K.2.1 ([3,4]:List Int)).bind fun aM=>
   some aM
  ) else(
   some false
  )
 ) fun aN=>
 some aN
theorem Rs{E:LH}{fuel:Nat}{r:Bool}(bq:f22 fuel=some r):Au (Ce Tryz.prog) 22 [] E [] (fun w E' B'=>w= .bool r∧B'= []):=by
 refine Au.en func22 rfl rfl fun Q gg cs H dp dq=>?_;unfold f22 at bq;obtain⟨gh,dr,dt⟩:=bs bq;refine JL.go 6 rfl ?_;refine JS.cl (Fy dr) rfl rfl (Ay func71 rfl) dp ?_;rintro _ gi _ du ⟨gj,gk,gl,gm,rfl,rfl,dv,dw⟩ dx;obtain⟨aa,dy,dz⟩:=bs dt;refine JS.cl (Jp dv dw dy) rfl rfl (Ay func51 rfl) dx ?_;rintro _ gn _ dA ⟨ae,ag,rfl,rfl,dB⟩ dC;obtain⟨gp,dD,dE⟩:=bs dz;refine JL.go 8 rfl ?_;refine JS.cl (Fy dD) rfl rfl (Ay func71 rfl) dC ?_;rintro _ gq _ br ⟨gr,gt,gu,gv,rfl,rfl,dF,dG⟩ dH;refine JS.norm (S':= [[],[],[],[]]) rfl dH fun dI=>?_;obtain⟨aj,dJ,dK⟩:=bs dE;refine JS.cl (MO dF dG dJ) rfl rfl (Ay func57 rfl) dI ?_;rintro _ gw _ bu ⟨rfl,rfl⟩ dL;obtain⟨gx,dM,dN⟩:=bs dK;refine JL.go 8 rfl ?_;refine JS.cl (Fy dM) rfl rfl (Ay func71 rfl) dL ?_;rintro _ gy _ bv ⟨gz,gA,gB,gC,rfl,rfl,dO,dP⟩ dQ;obtain⟨gD,dR,dS⟩:=bs dN;refine JS.cl (Jt dR) rfl rfl (Ay func72 rfl) dQ ?_;rintro _ gE _ aE ⟨gF,gG,rfl,rfl,dT⟩ dU;refine JS.norm (S':= [[],[],[],[],[],[],[]]) rfl dU fun dV=>?_;obtain⟨U,dW,dX⟩:=bs dS;refine JS.cl (Ru (dO.mono aE) (dP.mono aE) dT dW) rfl rfl (Ay func43 rfl) dV ?_;rintro _ gH _ bw ⟨ab,ac,rfl,rfl,dY⟩ dZ;obtain⟨gI,ea,eb⟩:=bs dX;refine JL.go 8 rfl ?_;refine JS.cl (Fy ea) rfl rfl (Ay func71 rfl) dZ ?_;rintro _ gJ _ aW ⟨gK,gL,gM,gN,rfl,rfl,ec,ed⟩ ee;obtain⟨ai,ef,eg⟩:=bs eb;refine JS.cl (RE ec ed Ar.nil ef) rfl rfl (Ay func28 rfl) ee ?_;rintro _ gO _ aX ⟨rfl,rfl⟩ eh;refine JS.norm (S':= [[],[],[],[],[],[],[],[],[],[]]) rfl eh fun ei=>?_;obtain⟨gP,ej,ek⟩:=bs eg;refine JL.go 8 rfl ?_;refine JS.cl (Fy ej) rfl rfl (Ay func71 rfl) ei ?_;rintro _ gQ _ aY ⟨gR,gS,gT,gU,rfl,rfl,el,em⟩ eo;obtain⟨gV,ep,eq⟩:=bs ek;refine JS.cl (MW ep) rfl rfl (Ay func73 rfl) eo ?_;rintro _ gW _ al ⟨gX,gY,rfl,rfl,er⟩ et;obtain⟨ah,eu,ew⟩:=bs eq;refine JS.cl (Rv (el.mono al) (em.mono al) er eu) rfl rfl (Ay func49 rfl) et ?_;rintro _ gZ _ aZ ⟨rfl,rfl⟩ ex;refine JS.norm (S':= [[],[],[],[],[],[],[],[],[],[],[],[],[]]) rfl ex fun ey=>?_;obtain⟨g0,ez,eA⟩:=bs ew;refine JL.go 8 rfl ?_;refine JS.cl (Fy ez) rfl rfl (Ay func71 rfl) ey ?_;rintro _ g1 _ a0 ⟨g2,g3,g4,g5,rfl,rfl,eB,eC⟩ eD;obtain⟨K,eE,eF⟩:=bs eA;refine JS.cl (RX eB eC Ar.nil eE) rfl rfl (Ay func35 rfl) eD ?_;rintro _ g6 _ a1 ⟨rfl,rfl⟩ eG;obtain⟨g7,eH,eI⟩:=bs eF;refine JL.go 10 rfl ?_;refine JS.cl (Fy eH) rfl rfl (Ay func71 rfl) eG ?_;rintro _ g8 _ a2 ⟨g9,ha,hb,hc,rfl,rfl,eJ,eK⟩ eL;refine JS.norm (S':= [[],[],[],[],[],[],[],[],[],[],[],[],[],[],[],[]]) rfl eL fun eM=>?_;obtain⟨hd,eN,eO⟩:=bs eI;refine JS.cl (Jt eN) rfl rfl (Ay func72 rfl) eM ?_;rintro _ he _ am ⟨hf,hg,rfl,rfl,eP⟩ eQ;obtain⟨hj,eR,eS⟩:=bs eO;refine JS.cl (Jt eR) rfl rfl (Ay func72 rfl) eQ ?_;rintro _ hk _ ak ⟨hl,hm,rfl,rfl,eT⟩ eU;obtain⟨O,eV,eW⟩:=bs eS;refine JS.cl (Rn (eJ.mono (am.trans ak)) (eK.mono (am.trans ak)) (eP.mono ak) eT eV) rfl rfl (Ay func37 rfl) eU ?_;rintro _ hn _ a3 ⟨rfl,rfl⟩ eX;refine JS.norm (S':= [[],[],[],[],[],[],[],[],[],[],[],[],[],[],[],[],[],[],[]]) rfl eX fun eY=>?_;obtain⟨ho,eZ,e0⟩:=bs eW;refine JL.go 8 rfl ?_;refine JS.cl (Fy eZ) rfl rfl (Ay func71 rfl) eY ?_;rintro _ hp _ a4 ⟨hq,hr,hu,hv,rfl,rfl,e1,e2⟩ e3;obtain⟨hw,e4,e5⟩:=bs e0;refine JS.cl (MW e4) rfl rfl (Ay func73 rfl) e3 ?_;rintro _ hx _ an ⟨hy,hz,rfl,rfl,e6⟩ e7;obtain⟨A,e8,e9⟩:=bs e5;refine JS.cl (Rx (e1.mono an) (e2.mono an) e6 e8) rfl rfl (Ay func30 rfl) e7 ?_;rintro _ a5 _ a6 ⟨W,Z,rfl,rfl,fa⟩ fb;refine JS.norm (S':= [[],[],[],[],[],[],[],[],[],[],[],[],[],[],[],[],[],[],[],[],[],[]]) rfl fb fun bx=>?_;obtain⟨bz,bA,fc⟩:=bs e9;refine JL.go 13 rfl ?_;refine JL.By [6,7,8,9,10,11,12,13,14,15,16,17,18,19,20,21,22,23,24,25,26,27,28,29,30,31,32,33,34,35,36,37,38,39,40,41,42,43,44,45,46,47,48,49,50,51,52,53,54,55,56,57,58,59,60,61,62,63,64,65,66,67,68,69,70,71,72] (fun L s=>∃(ao:LH),Jm a5 H ao [] [(1,.slice ae (aa.1).length ag),(3,iV aj.1),(5,.slice ab (U.1).length ac),(6,iV U.2),(7,iV ai.1),(8,iV ai.2),(9,iV ah.1),(10,iV ah.2),(11,iV K.1),(12,iV K.2.1),(13,iV K.2.2),(14,.bool O.1),(15,iV O.2),(16,iV A.1),(17,.slice W (A.2.1).length Z),(18,iV A.2.2),(71,.bool bz)] L s) ?_ ?_
 ·rintro _ _ ⟨ao,rfl,rfl,aF,bB⟩;obtain⟨bC,bD,fe⟩:=bs fc;refine JL.go 1 rfl ?_;refine JL.By [10,11,12,13,14,15,16,17,18,19,20,21,22,23,24,25,26,27,28,29,30,31,32,33,34,35,36,37,38,39,40,41,42,43,44,45,46,47,48,49,50,51,52,53,54,55,56,57,58,59,60,61,62,63,64,65,66,67,68,69,70,71,72] (fun L s=>∃(ap:LH),Jm ao H ap [] [(1,.slice ae (aa.1).length ag),(3,iV aj.1),(5,.slice ab (U.1).length ac),(7,iV ai.1),(8,iV ai.2),(9,iV ah.1),(10,iV ah.2),(11,iV K.1),(12,iV K.2.1),(13,iV K.2.2),(14,.bool O.1),(15,iV O.2),(16,iV A.1),(17,.slice W (A.2.1).length Z),(18,iV A.2.2),(75,.bool bC)] L s) ?_ ?_
  ·rintro _ _ ⟨ap,rfl,rfl,aG,bE⟩;obtain⟨bF,bG,ff⟩:=bs fe;refine JL.go 1 rfl ?_;refine JL.By [14,15,16,17,18,19,20,21,22,23,24,25,26,27,28,29,30,31,32,33,34,35,36,37,38,39,40,41,42,43,44,45,46,47,48,49,50,51,52,53,54,55,56,57,58,59,60,61,62,63,64,65,66,67,68,69,70,71,72] (fun L s=>∃(aq:LH),Jm ap H aq [] [(1,.slice ae (aa.1).length ag),(3,iV aj.1),(5,.slice ab (U.1).length ac),(7,iV ai.1),(9,iV ah.1),(10,iV ah.2),(11,iV K.1),(12,iV K.2.1),(13,iV K.2.2),(14,.bool O.1),(15,iV O.2),(16,iV A.1),(17,.slice W (A.2.1).length Z),(18,iV A.2.2),(79,.bool bF)] L s) ?_ ?_
   ·rintro _ _ ⟨aq,rfl,rfl,aH,bH⟩;obtain⟨bI,bJ,fg⟩:=bs ff;refine JL.go 1 rfl ?_;refine JL.By [18,19,20,21,22,23,24,25,26,27,28,29,30,31,32,33,34,35,36,37,38,39,40,41,42,43,44,45,46,47,48,49,50,51,52,53,54,55,56,57,58,59,60,61,62,63,64,65,66,67,68,69,70,71,72] (fun L s=>∃(ar:LH),Jm aq H ar [] [(1,.slice ae (aa.1).length ag),(3,iV aj.1),(5,.slice ab (U.1).length ac),(7,iV ai.1),(9,iV ah.1),(11,iV K.1),(12,iV K.2.1),(13,iV K.2.2),(14,.bool O.1),(15,iV O.2),(16,iV A.1),(17,.slice W (A.2.1).length Z),(18,iV A.2.2),(83,.bool bI)] L s) ?_ ?_
    ·rintro _ _ ⟨ar,rfl,rfl,aI,bK⟩;obtain⟨bL,bM,fh⟩:=bs fg;refine JL.go 1 rfl ?_;refine JL.By [22,23,24,25,26,27,28,29,30,31,32,33,34,35,36,37,38,39,40,41,42,43,44,45,46,47,48,49,50,51,52,53,54,55,56,57,58,59,60,61,62,63,64,65,66,67,68,69,70,71,72] (fun L s=>∃(au:LH),Jm ar H au [] [(1,.slice ae (aa.1).length ag),(3,iV aj.1),(5,.slice ab (U.1).length ac),(7,iV ai.1),(9,iV ah.1),(11,iV K.1),(12,iV K.2.1),(14,.bool O.1),(15,iV O.2),(16,iV A.1),(17,.slice W (A.2.1).length Z),(18,iV A.2.2),(87,.bool bL)] L s) ?_ ?_
     ·rintro _ _ ⟨au,rfl,rfl,aJ,bN⟩;obtain⟨bO,bP,fj⟩:=bs fh;refine JL.go 1 rfl ?_;refine JL.By [26,27,28,29,30,31,32,33,34,35,36,37,38,39,40,41,42,43,44,45,46,47,48,49,50,51,52,53,54,55,56,57,58,59,60,61,62,63,64,65,66,67,68,69,70,71,72] (fun L s=>∃(av:LH),Jm au H av [] [(1,.slice ae (aa.1).length ag),(3,iV aj.1),(5,.slice ab (U.1).length ac),(7,iV ai.1),(9,iV ah.1),(11,iV K.1),(12,iV K.2.1),(14,.bool O.1),(16,iV A.1),(17,.slice W (A.2.1).length Z),(18,iV A.2.2),(91,.bool bO)] L s) ?_ ?_
      ·rintro _ _ ⟨av,rfl,rfl,aK,bQ⟩;obtain⟨bR,bS,fk⟩:=bs fj;refine JL.go 1 rfl ?_;refine JL.By [30,31,32,33,34,35,36,37,38,39,40,41,42,43,44,45,46,47,48,49,50,51,52,53,54,55,56,57,58,59,60,61,62,63,64,65,66,67,68,69,70,71,72] (fun L s=>∃(aw:LH),Jm av H aw [] [(1,.slice ae (aa.1).length ag),(3,iV aj.1),(5,.slice ab (U.1).length ac),(7,iV ai.1),(9,iV ah.1),(11,iV K.1),(12,iV K.2.1),(14,.bool O.1),(16,iV A.1),(17,.slice W (A.2.1).length Z),(95,.bool bR)] L s) ?_ ?_
       ·rintro _ _ ⟨aw,rfl,rfl,aL,bT⟩;obtain⟨bU,bV,fm⟩:=bs fk;refine JL.go 1 rfl ?_;refine JL.By [34,35,36,37,38,39,40,41,42,43,44,45,46,47,48,49,50,51,52,53,54,55,56,57,58,59,60,61,62,63,64,65,66,67,68,69,70,71,72] (fun L s=>∃(ay:LH),Jm aw H ay [] [(1,.slice ae (aa.1).length ag),(5,.slice ab (U.1).length ac),(7,iV ai.1),(9,iV ah.1),(11,iV K.1),(12,iV K.2.1),(14,.bool O.1),(16,iV A.1),(17,.slice W (A.2.1).length Z),(99,.bool bU)] L s) ?_ ?_
        ·rintro _ _ ⟨ay,rfl,rfl,aM,bW⟩;obtain⟨bX,bY,fo⟩:=bs fm;refine JL.go 1 rfl ?_;refine JL.By [38,39,40,41,42,43,44,45,46,47,48,49,50,51,52,53,54,55,56,57,58,59,60,61,62,63,64,65,66,67,68,69,70,71,72] (fun L s=>∃(az:LH),Jm ay H az [] [(1,.slice ae (aa.1).length ag),(5,.slice ab (U.1).length ac),(9,iV ah.1),(11,iV K.1),(12,iV K.2.1),(14,.bool O.1),(16,iV A.1),(17,.slice W (A.2.1).length Z),(103,.bool bX)] L s) ?_ ?_
         ·rintro _ _ ⟨az,rfl,rfl,aN,bZ⟩;obtain⟨b0,b1,fp⟩:=bs fo;refine JL.go 1 rfl ?_;refine JL.By [42,43,44,45,46,47,48,49,50,51,52,53,54,55,56,57,58,59,60,61,62,63,64,65,66,67,68,69,70,71,72] (fun L s=>∃(aA:LH),Jm az H aA [] [(1,.slice ae (aa.1).length ag),(5,.slice ab (U.1).length ac),(11,iV K.1),(12,iV K.2.1),(14,.bool O.1),(16,iV A.1),(17,.slice W (A.2.1).length Z),(107,.bool b0)] L s) ?_ ?_
          ·rintro _ _ ⟨aA,rfl,rfl,aO,b2⟩;obtain⟨b3,b4,fq⟩:=bs fp;refine JL.go 1 rfl ?_;refine JL.By [46,47,48,49,50,51,52,53,54,55,56,57,58,59,60,61,62,63,64,65,66,67,68,69,70,71,72] (fun L s=>∃(aB:LH),Jm aA H aB [] [(1,.slice ae (aa.1).length ag),(5,.slice ab (U.1).length ac),(12,iV K.2.1),(14,.bool O.1),(16,iV A.1),(17,.slice W (A.2.1).length Z),(111,.bool b3)] L s) ?_ ?_
           ·rintro _ _ ⟨aB,rfl,rfl,aP,b5⟩;obtain⟨b6,b7,fs⟩:=bs fq;refine JL.go 1 rfl ?_;refine JL.By [50,51,52,53,54,55,56,57,58,59,60,61,62,63,64,65,66,67,68,69,70,71,72] (fun L s=>∃(aC:LH),Jm aB H aC [] [(1,.slice ae (aa.1).length ag),(5,.slice ab (U.1).length ac),(14,.bool O.1),(16,iV A.1),(17,.slice W (A.2.1).length Z),(115,.bool b6)] L s) ?_ ?_
            ·rintro _ _ ⟨aC,rfl,rfl,aQ,b8⟩;obtain⟨b9,ca,fu⟩:=bs fs;refine JL.go 1 rfl ?_;refine JL.By [53,54,55,56,57,58,59,60,61,62,63,64,65,66,67,68,69,70,71,72] (fun L s=>∃(aD:LH),Jm aC H aD [] [(1,.slice ae (aa.1).length ag),(5,.slice ab (U.1).length ac),(16,iV A.1),(17,.slice W (A.2.1).length Z),(118,.bool b9)] L s) ?_ ?_
             ·rintro _ _ ⟨aD,rfl,rfl,aR,cb⟩;obtain⟨cc,cd,fv⟩:=bs fu;refine JL.go 1 rfl ?_;refine JL.By [57,58,59,60,61,62,63,64,65,66,67,68,69,70,71,72] (fun L s=>∃(aS:LH),Jm aD H aS [] [(1,.slice ae (aa.1).length ag),(5,.slice ab (U.1).length ac),(17,.slice W (A.2.1).length Z),(122,.bool cc)] L s) ?_ ?_
              ·rintro _ _ ⟨aS,rfl,rfl,aT,ce⟩;obtain⟨cf,cg,fw⟩:=bs fv;refine JL.go 1 rfl ?_;refine JL.By [62,63,64,65,66,67,68,69,70,71,72] (fun L s=>∃(aU:LH),Jm aS H aU [] [(5,.slice ab (U.1).length ac),(17,.slice W (A.2.1).length Z),(127,.bool cf)] L s) ?_ ?_
               ·rintro _ _ ⟨aU,rfl,rfl,a7,ci⟩;obtain⟨ck,cm,fx⟩:=bs fw;refine JL.go 1 rfl ?_;refine JL.By [67,68,69,70,71,72] (fun L s=>∃(aV:LH),Jm aU H aV [] [(17,.slice W (A.2.1).length Z),(132,.bool ck)] L s) ?_ ?_
                ·rintro _ _ ⟨aV,rfl,rfl,cn,co⟩;obtain⟨fy,cp,fz⟩:=bs fx;refine JL.go 1 rfl ?_;refine JL.By [72] (fun L s=>∃(cq:LH),Jm aV H cq [] [(137,.bool fy)] L s) ?_ ?_
                 ·rintro _ _ ⟨cq,rfl,rfl,fA,fB⟩;refine JL.go 2 rfl ?_;obtain rfl:=oi fz;refine JL.rt func22 rfl rfl ?_;exact dq _ _ _ _ (((((((((((((((((((((((((((((((((((((du.trans dA).trans br).trans bu).trans bv).trans aE).trans bw).trans aW).trans aX).trans aY).trans al).trans aZ).trans a0).trans a1).trans a2).trans am).trans ak).trans a3).trans a4).trans an).trans a6).trans aF).trans aG).trans aH).trans aI).trans aJ).trans aK).trans aL).trans aM).trans aN).trans aO).trans aP).trans aQ).trans aR).trans aT).trans a7).trans cn).trans fA) rfl ⟨rfl,rfl⟩ fB
                 ·intro cr;refine JL.BW (c:=ck) (i:=133) rfl (fun a8=>?_) (fun a8=>?_)
                  ·have ct:=cp;rw [if_pos a8] at ct;refine JL.go 1 rfl ?_;refine JS.lit (pp:=rI) [iV 3,iV 4] [3,4] rfl rfl rfl underlying28 (Ah type3) (AN type3) (by decide) rfl rfl rfl ⟨rfl,rfl,trivial⟩ co fun hA hB fC fD=>?_;refine JS.BA 0 fC fD rfl fun hC cu fE fF=>?_;obtain⟨hD,fG,fH⟩:=bs ct;refine JS.cl (Js (fa.mono ((((((((((((((((aF.trans aG).trans aH).trans aI).trans aJ).trans aK).trans aL).trans aM).trans aN).trans aO).trans aP).trans aQ).trans aR).trans aT).trans a7).trans cn).trans cu)) fE fG) rfl rfl (Ay func32 rfl) fF ?_;rintro _ fI _ fJ ⟨rfl,rfl⟩ fK;refine JS.norm (S':= [[],[]]) rfl fK fun fL=>?_;refine JL.go 1 rfl ?_;obtain rfl:=oi fH;exact JL.kw (cr _ _ ⟨fI,rfl,rfl,(cu.trans fJ),fL⟩) rfl
                  ·have cv:=cp;rw [if_neg (by rw [a8];exact Bool.false_ne_true)] at cv;refine JL.go 4 rfl ?_;obtain rfl:=oi cv;exact JL.kw (cr _ _ ⟨aV,rfl,rfl,(Le.refl _),co⟩) rfl
                ·intro cw;refine JL.BW (c:=cf) (i:=128) rfl (fun a9=>?_) (fun a9=>?_)
                 ·have cy:=cm;rw [if_pos a9] at cy;refine JL.go 1 rfl ?_;refine JS.lit (pp:=rI) [iV 2,iV 3,iV 4] [2,3,4] rfl rfl rfl underlying28 (Ah type3) (AN type3) (by decide) rfl rfl rfl ⟨rfl,rfl,rfl,trivial⟩ ci fun hE hF fM fN=>?_;refine JS.BA 0 fM fN rfl fun hG cz fO fP=>?_;obtain⟨hH,fQ,fR⟩:=bs cy;refine JS.cl (Js (dY.mono (((((((((((((((((((((((((((((aW.trans aX).trans aY).trans al).trans aZ).trans a0).trans a1).trans a2).trans am).trans ak).trans a3).trans a4).trans an).trans a6).trans aF).trans aG).trans aH).trans aI).trans aJ).trans aK).trans aL).trans aM).trans aN).trans aO).trans aP).trans aQ).trans aR).trans aT).trans a7).trans cz)) fO fQ) rfl rfl (Ay func32 rfl) fP ?_;rintro _ fS _ fT ⟨rfl,rfl⟩ fU;refine JS.norm (S':= [[],[]]) rfl fU fun fV=>?_;refine JL.go 1 rfl ?_;obtain rfl:=oi fR;exact JL.kw (cw _ _ ⟨fS,rfl,rfl,(cz.trans fT),fV⟩) rfl
                 ·have cA:=cm;rw [if_neg (by rw [a9];exact Bool.false_ne_true)] at cA;refine JL.go 4 rfl ?_;obtain rfl:=oi cA;exact JL.kw (cw _ _ ⟨aU,rfl,rfl,(Le.refl _),ci⟩) rfl
               ·intro cB;refine JL.BW (c:=cc) (i:=123) rfl (fun ba=>?_) (fun ba=>?_)
                ·have cC:=cg;rw [if_pos ba] at cC;refine JL.go 1 rfl ?_;refine JS.lit (pp:=rI) [iV 4,iV 5] [4,5] rfl rfl rfl underlying28 (Ah type3) (AN type3) (by decide) rfl rfl rfl ⟨rfl,rfl,trivial⟩ ce fun hI hJ fW fX=>?_;refine JS.BA 0 fW fX rfl fun hK cD fY fZ=>?_;obtain⟨hL,ga,gb⟩:=bs cC;refine JS.cl (Js (dB.mono (((((((((((((((((((((((((((((((((br.trans bu).trans bv).trans aE).trans bw).trans aW).trans aX).trans aY).trans al).trans aZ).trans a0).trans a1).trans a2).trans am).trans ak).trans a3).trans a4).trans an).trans a6).trans aF).trans aG).trans aH).trans aI).trans aJ).trans aK).trans aL).trans aM).trans aN).trans aO).trans aP).trans aQ).trans aR).trans aT).trans cD)) fY ga) rfl rfl (Ay func32 rfl) fZ ?_;rintro _ gc _ gd ⟨rfl,rfl⟩ ge;refine JS.norm (S':= [[],[]]) rfl ge fun gf=>?_;refine JL.go 1 rfl ?_;obtain rfl:=oi gb;exact JL.kw (cB _ _ ⟨gc,rfl,rfl,(cD.trans gd),gf⟩) rfl
                ·have cE:=cg;rw [if_neg (by rw [ba];exact Bool.false_ne_true)] at cE;refine JL.go 4 rfl ?_;obtain rfl:=oi cE;exact JL.kw (cB _ _ ⟨aS,rfl,rfl,(Le.refl _),ce⟩) rfl
              ·intro cF;refine JL.BW (c:=b9) (i:=119) rfl (fun bb=>?_) (fun bb=>?_)
               ·have cG:=cd;rw [if_pos bb] at cG;refine JL.go 3 rfl ?_;obtain rfl:=oi cG;exact JL.kw (cF _ _ ⟨aD,rfl,rfl,(Le.refl _),cb⟩) rfl
               ·have cH:=cd;rw [if_neg (by rw [bb];exact Bool.false_ne_true)] at cH;refine JL.go 3 rfl ?_;obtain rfl:=oi cH;exact JL.kw (cF _ _ ⟨aD,rfl,rfl,(Le.refl _),cb⟩) rfl
             ·intro cI;refine JL.BW (c:=b6) (i:=116) rfl (fun bc=>?_) (fun bc=>?_)
              ·have cJ:=ca;rw [if_pos bc] at cJ;refine JL.go 2 rfl ?_;obtain rfl:=oi cJ;exact JL.kw (cI _ _ ⟨aC,rfl,rfl,(Le.refl _),b8⟩) rfl
              ·have cK:=ca;rw [if_neg (by rw [bc];exact Bool.false_ne_true)] at cK;refine JL.go 2 rfl ?_;obtain rfl:=oi cK;exact JL.kw (cI _ _ ⟨aC,rfl,rfl,(Le.refl _),b8⟩) rfl
            ·intro cM;refine JL.BW (c:=b3) (i:=112) rfl (fun bd=>?_) (fun bd=>?_)
             ·have cN:=b7;rw [if_pos bd] at cN;refine JL.go 3 rfl ?_;obtain rfl:=oi cN;exact JL.kw (cM _ _ ⟨aB,rfl,rfl,(Le.refl _),b5⟩) rfl
             ·have cO:=b7;rw [if_neg (by rw [bd];exact Bool.false_ne_true)] at cO;refine JL.go 3 rfl ?_;obtain rfl:=oi cO;exact JL.kw (cM _ _ ⟨aB,rfl,rfl,(Le.refl _),b5⟩) rfl
           ·intro cP;refine JL.BW (c:=b0) (i:=108) rfl (fun bf=>?_) (fun bf=>?_)
            ·have cQ:=b4;rw [if_pos bf] at cQ;refine JL.go 3 rfl ?_;obtain rfl:=oi cQ;exact JL.kw (cP _ _ ⟨aA,rfl,rfl,(Le.refl _),b2⟩) rfl
            ·have cR:=b4;rw [if_neg (by rw [bf];exact Bool.false_ne_true)] at cR;refine JL.go 3 rfl ?_;obtain rfl:=oi cR;exact JL.kw (cP _ _ ⟨aA,rfl,rfl,(Le.refl _),b2⟩) rfl
          ·intro cT;refine JL.BW (c:=bX) (i:=104) rfl (fun bg=>?_) (fun bg=>?_)
           ·have cV:=b1;rw [if_pos bg] at cV;refine JL.go 3 rfl ?_;obtain rfl:=oi cV;exact JL.kw (cT _ _ ⟨az,rfl,rfl,(Le.refl _),bZ⟩) rfl
           ·have cW:=b1;rw [if_neg (by rw [bg];exact Bool.false_ne_true)] at cW;refine JL.go 3 rfl ?_;obtain rfl:=oi cW;exact JL.kw (cT _ _ ⟨az,rfl,rfl,(Le.refl _),bZ⟩) rfl
         ·intro cX;refine JL.BW (c:=bU) (i:=100) rfl (fun bh=>?_) (fun bh=>?_)
          ·have cY:=bY;rw [if_pos bh] at cY;refine JL.go 3 rfl ?_;obtain rfl:=oi cY;exact JL.kw (cX _ _ ⟨ay,rfl,rfl,(Le.refl _),bW⟩) rfl
          ·have cZ:=bY;rw [if_neg (by rw [bh];exact Bool.false_ne_true)] at cZ;refine JL.go 3 rfl ?_;obtain rfl:=oi cZ;exact JL.kw (cX _ _ ⟨ay,rfl,rfl,(Le.refl _),bW⟩) rfl
        ·intro c0;refine JL.BW (c:=bR) (i:=96) rfl (fun bi=>?_) (fun bi=>?_)
         ·have c1:=bV;rw [if_pos bi] at c1;refine JL.go 3 rfl ?_;obtain rfl:=oi c1;exact JL.kw (c0 _ _ ⟨aw,rfl,rfl,(Le.refl _),bT⟩) rfl
         ·have c2:=bV;rw [if_neg (by rw [bi];exact Bool.false_ne_true)] at c2;refine JL.go 3 rfl ?_;obtain rfl:=oi c2;exact JL.kw (c0 _ _ ⟨aw,rfl,rfl,(Le.refl _),bT⟩) rfl
       ·intro c3;refine JL.BW (c:=bO) (i:=92) rfl (fun bj=>?_) (fun bj=>?_)
        ·have c4:=bS;rw [if_pos bj] at c4;refine JL.go 3 rfl ?_;obtain rfl:=oi c4;exact JL.kw (c3 _ _ ⟨av,rfl,rfl,(Le.refl _),bQ⟩) rfl
        ·have c5:=bS;rw [if_neg (by rw [bj];exact Bool.false_ne_true)] at c5;refine JL.go 3 rfl ?_;obtain rfl:=oi c5;exact JL.kw (c3 _ _ ⟨av,rfl,rfl,(Le.refl _),bQ⟩) rfl
      ·intro c6;refine JL.BW (c:=bL) (i:=88) rfl (fun bk=>?_) (fun bk=>?_)
       ·have c7:=bP;rw [if_pos bk] at c7;refine JL.go 3 rfl ?_;obtain rfl:=oi c7;exact JL.kw (c6 _ _ ⟨au,rfl,rfl,(Le.refl _),bN⟩) rfl
       ·have c8:=bP;rw [if_neg (by rw [bk];exact Bool.false_ne_true)] at c8;refine JL.go 3 rfl ?_;obtain rfl:=oi c8;exact JL.kw (c6 _ _ ⟨au,rfl,rfl,(Le.refl _),bN⟩) rfl
     ·intro c9;refine JL.BW (c:=bI) (i:=84) rfl (fun bl=>?_) (fun bl=>?_)
      ·have da:=bM;rw [if_pos bl] at da;refine JL.go 3 rfl ?_;obtain rfl:=oi da;exact JL.kw (c9 _ _ ⟨ar,rfl,rfl,(Le.refl _),bK⟩) rfl
      ·have db:=bM;rw [if_neg (by rw [bl];exact Bool.false_ne_true)] at db;refine JL.go 3 rfl ?_;obtain rfl:=oi db;exact JL.kw (c9 _ _ ⟨ar,rfl,rfl,(Le.refl _),bK⟩) rfl
    ·intro dc;refine JL.BW (c:=bF) (i:=80) rfl (fun bm=>?_) (fun bm=>?_)
     ·have dd:=bJ;rw [if_pos bm] at dd;refine JL.go 3 rfl ?_;obtain rfl:=oi dd;exact JL.kw (dc _ _ ⟨aq,rfl,rfl,(Le.refl _),bH⟩) rfl
     ·have de:=bJ;rw [if_neg (by rw [bm];exact Bool.false_ne_true)] at de;refine JL.go 3 rfl ?_;obtain rfl:=oi de;exact JL.kw (dc _ _ ⟨aq,rfl,rfl,(Le.refl _),bH⟩) rfl
   ·intro df;refine JL.BW (c:=bC) (i:=76) rfl (fun bn=>?_) (fun bn=>?_)
    ·have dg:=bG;rw [if_pos bn] at dg;refine JL.go 3 rfl ?_;obtain rfl:=oi dg;exact JL.kw (df _ _ ⟨ap,rfl,rfl,(Le.refl _),bE⟩) rfl
    ·have dh:=bG;rw [if_neg (by rw [bn];exact Bool.false_ne_true)] at dh;refine JL.go 3 rfl ?_;obtain rfl:=oi dh;exact JL.kw (df _ _ ⟨ap,rfl,rfl,(Le.refl _),bE⟩) rfl
  ·intro di;refine JL.BW (c:=bz) (i:=72) rfl (fun bo=>?_) (fun bo=>?_)
   ·have dj:=bD;rw [if_pos bo] at dj;refine JL.go 3 rfl ?_;obtain rfl:=oi dj;exact JL.kw (di _ _ ⟨ao,rfl,rfl,(Le.refl _),bB⟩) rfl
   ·have dk:=bD;rw [if_neg (by rw [bo];exact Bool.false_ne_true)] at dk;refine JL.go 3 rfl ?_;obtain rfl:=oi dk;exact JL.kw (di _ _ ⟨ao,rfl,rfl,(Le.refl _),bB⟩) rfl
 ·intro dl;refine JL.BP (q:=aa.2=0) (i:=68) rfl (fun bp=>?_) (fun bp=>?_)
  ·have dm:=bA;rw [if_pos bp] at dm;refine JL.go 3 rfl ?_;obtain rfl:=oi dm;exact JL.kw (dl _ _ ⟨a5,rfl,rfl,(Le.refl _),bx⟩) rfl
  ·have dn:=bA;rw [if_neg bp] at dn;refine JL.go 3 rfl ?_;obtain rfl:=oi dn;exact JL.kw (dl _ _ ⟨a5,rfl,rfl,(Le.refl _),bx⟩) rfl
end Pal
namespace Pal
open Go Go.Conc Go.Proofs
open Go.Proofs.Tryz
variable {J:Judge Tryz.prog}{E:LH}
def H3(fuel:Nat)(U:Int×((List Int)×Int×Nat))(W:(List (List Int))×(List (List Int))×(List Int)×Int×Nat×Int)(A:(List Int)×Int×Nat×(List Int)×Int):Option (AU ((List Int)×Int×Nat×(List Int)×Int) ((List Int)×(List Int)×Int×Nat)):=
 Option.bind (
  if 0<A.2.2.2.2 then(
   some (decide (1<U.1))
  ) else(
   some false
  )
 ) fun aa=>
 if aa=true then(
  (Aw (W.2.2.2.2.2 - 1)).bind fun ab=>
  (f41 fuel (A.1,A.2.1,A.2.2.1) (max (0) (ab))).bind fun Z=>
  (f97 fuel Z.2 6).bind fun K=>
  Option.bind (
   if K.1=true then(
    (Aw (U.1 - 1)).bind fun ac=>
    (f41 fuel K.2 ac).bind fun ae=>
    some ae
   ) else(
    some (Z.1,K.2.1,K.2.2.1,K.2.2.2)
   )
  ) fun O=>
  Option.bind (
   if O.1≠W.2.2.2.2.2 then(
    (f98 fuel A.2.2.2.1 O.1).bind fun ag=>
    some ag
   ) else(
    some A.2.2.2.1
   )
  ) fun ah=>
  (Aw (A.2.2.2.2 - 1)).bind fun ai=>
  some (.more (O.2.1,O.2.2.1,O.2.2.2,ah,ai))
 ) else(
  some (.done (A.2.2.2.1,A.1,A.2.1,A.2.2.1))
 )
def HX(fuel:Nat)(K:Int×((List Int)×Int×Nat))(A:(List (List Int))×(List (List Int))×(List Int)×Int×Nat×Int):Option (AU ((List (List Int))×(List (List Int))×(List Int)×Int×Nat×Int) ((List Int)×Int×Nat×(List (List Int))×(List (List Int)))):=
 if A.2.2.2.2.2<K.1 then(
  (Aw (K.1 - 1)).bind fun ac=>
  (Aw (A.2.2.2.2.2+1)).bind fun ae=>
  (f97 fuel (A.2.2.1,A.2.2.2.1,A.2.2.2.2.1) 3).bind fun O=>
  Option.bind (
   if O.1=true then(
    (Aw (K.1 - 1)).bind fun ai=>
    (f96 fuel O.2 A.2.2.2.2.2 ai).bind fun W=>
    (f98 fuel ([min (ac) (ae)]:List Int) W.1).bind fun aj=>
    some (aj,W.2.1,W.2.2.1,W.2.2.2)
   ) else(
    some (([min (ac) (ae)]:List Int),O.2.1,O.2.2.1,O.2.2.2)
   )
  ) fun ag=>
  (f97 fuel ag.2 8).bind fun U=>
  Option.bind (
   if U.1=true then(
    (Aw (K.1 - 1)).bind fun ak=>
    (f41 fuel U.2 ak).bind fun Z=>
    some (([Z.1]:List Int),Z.2.1,Z.2.2.1,Z.2.2.2)
   ) else(
    some (ag.1,U.2.1,U.2.2.1,U.2.2.2)
   )
  ) fun ah=>
  (f99 fuel ah.2 ([0,1,1,2]:List Int)).bind fun aa=>
  Option.bind (iter (H3 fuel K A) fuel (aa.2.1,aa.2.2.1,aa.2.2.2,[],aa.1)) fun ab=>
  (CY A.1 ([ah.1]:List (List Int))).bind fun al=>
  (CY A.2.1 ([ab.1]:List (List Int))).bind fun am=>
  (Aw (A.2.2.2.2.2+1)).bind fun an=>
  some (.more (al,am,ab.2.1,ab.2.2.1,ab.2.2.2,an))
 ) else(
  some (.done (A.2.2.1,A.2.2.2.1,A.2.2.2.2.1,A.1,A.2.1))
 )
def f39(fuel:Nat)(p0:(List Int)×Int×Nat)(p1:Int):Option (((List (List Int))×(List (List Int)))×((List Int)×Int×Nat)):=
 (f96 fuel p0 1 p1).bind fun A=>
 Option.bind (iter (HX fuel A) fuel ([],[],A.2.1,A.2.2.1,A.2.2.2,0)) fun K=>
 some (K.2.2.2,(K.1,K.2.1,K.2.2.1))
theorem Rr{K:Nat}{bS:Option Addr}{c2:Nat}{p0:(List Int)×Int×Nat}{p1:Int}(dA:Ar rI E bS c2 (p0.1)){fuel:Nat}{r:((List (List Int))×(List (List Int)))×((List Int)×Int×Nat)}(bT:f39 fuel p0 p1=some r):Au J 39 [.pointer (some ⟨K,0,none⟩),iV p1] E [(K,.cells #[.slice bS (p0.1).length c2,iV p0.2.1,.int .u64 ((p0.2.2:Nat):Int)] 92 (0,0))] (fun w E' B'=>∃(bU:Option Addr) (bV:Nat) (bW:Option Addr) (bX:Nat) (bY:Option Addr) (bZ:Nat),w= .agg #[.slice bU (r.1.1).length bV,.slice bW (r.1.2).length bX]∧B'= [(K,.cells #[.slice bY (r.2.1).length bZ,iV r.2.2.1,.int .u64 ((r.2.2.2:Nat):Int)] 92 (0,0))]∧Ar (rL rI) E' bU bV (r.1.1)∧Ar (rL rI) E' bW bX (r.1.2)∧Ar rI E' bY bZ (r.2.1)):=by
 refine Au.en func39 rfl rfl fun Q hc cs H dB dC=>?_;unfold f39 at bT;refine JL.go 2 rfl ?_;refine JS.alloc rfl rfl rfl dB (AN type24) fun U dD=>?_;refine JL.go 3 rfl ?_;refine JS.alloc rfl rfl rfl dD (AN type24) fun O dE=>?_;obtain⟨al,dF,dG⟩:=bs bT;refine JL.go 5 rfl ?_;refine JS.Bw 0 (MK dA dF) rfl rfl (Ay func96 rfl) dE rfl ?_;rintro _ bg _ dH ⟨b0,b1,rfl,rfl,dI⟩ dJ;refine JS.norm (S':= [[(K,.cells #[.slice b0 (al.2.1).length b1,iV al.2.2.1,.int .u64 ((al.2.2.2:Nat):Int)] 92 (0,0))],[(U,.cells #[.slice none 0 0,.slice none 0 0] 24 (0,0))],[(O,.cells #[.slice none 0 0,.slice none 0 0] 24 (0,0))]]) rfl dJ fun dK=>?_;obtain⟨Z,dL,dM⟩:=bs dG;refine JL.go 7 rfl ?_;refine JL.join (fun L s=>∃(aR:LH) (aS:Option Addr) (aT:Nat) (an:Option Addr) (ao:Nat) (bh:Seg) (ap:Option Addr) (aq:Nat) (bi:Seg),Jn bg H aR [[(K,.cells #[.slice aS (Z.1).length aT,iV Z.2.1,.int .u64 ((Z.2.2.1:Nat):Int)] 92 (0,0))],[(U,.cells #[.slice none 0 0,.slice none 0 0] 24 (0,0))],[(O,.cells #[.slice an (Z.2.2.2.1).length ao,.slice ap (Z.2.2.2.2).length aq] 24 (0,0))],bh,bi] [(4,.pointer (some ⟨U,0,none⟩)),(5,.pointer (some ⟨O,0,none⟩))] L s (Ar rI aR aS aT (Z.1)∧OL 28 (rL rI) aR an ao bh (Z.2.2.2.1)∧OL 28 (rL rI) aR ap aq bi (Z.2.2.2.2))) ?_ ?_
 ·rintro _ _ ⟨aR,aS,aT,an,ao,bh,ap,aq,bi,rfl,rfl,dN,b2,dO,dP,dQ⟩;refine JL.go 2 rfl ?_;refine JL.Y rfl (fun ρ h=>Yl.Bh (vs:= [.slice an (Z.2.2.2.1).length ao,.slice ap (Z.2.2.2.2).length aq]) (Ao underlying24) (Ah type24) (h _ _ rfl) (DM (off:=0) 2 b2 rfl rfl)) ?_;refine JS.st (v:= .agg #[.slice an (Z.2.2.2.1).length ao,.slice ap (Z.2.2.2.2).length aq]) (off:=0) 1 b2 (Ah type24) rfl rfl rfl rfl fun dR=>?_;refine JL.done ?_;refine JS.BA 3 dP dR rfl fun hd bj dS dT=>?_;refine JS.BA 4 (dQ.mono bj) dT rfl fun he bk dU dV=>?_;refine JS.norm (S':= [[(K,.cells #[.slice aS (Z.1).length aT,iV Z.2.1,.int .u64 ((Z.2.2.1:Nat):Int)] 92 (0,0))],[(U,.cells #[.slice an (Z.2.2.2.1).length ao,.slice ap (Z.2.2.2.2).length aq] 24 (0,0))],[(O,.cells #[.slice an (Z.2.2.2.1).length ao,.slice ap (Z.2.2.2.2).length aq] 24 (0,0))],[],[]]) rfl dV fun dW=>?_;refine JS.drop 2 dW rfl fun b3=>?_;obtain rfl:=oi dM;refine JL.ret (v:= .agg #[.slice an (Z.2.2.2.1).length ao,.slice ap (Z.2.2.2.2).length aq]) rfl rfl (Bl.list func39 rfl (vs:= [.agg #[.slice an (Z.2.2.2.1).length ao,.slice ap (Z.2.2.2.2).length aq]]) ⟨⟨_,rfl,Ld.many (vs:= [.slice an (Z.2.2.2.1).length ao,.slice ap (Z.2.2.2.2).length aq]) (Ao underlying24) (Ah type24) (DM (off:=0) 1 b3 rfl rfl)⟩,trivial⟩) ?_;refine FM 1 b3 rfl fun dX=>?_;exact dC _ _ _ _ (((dH.trans dN).trans bj).trans bk) rfl ⟨an,ao,ap,aq,aS,aT,rfl,rfl,(dS.mono bk),dU,(dO.mono (bj.trans bk))⟩ dX
 ·intro dY;refine JL.block ?_;refine JL.wk [(0,.pointer (some ⟨K,0,none⟩)),(4,.pointer (some ⟨U,0,none⟩)),(5,.pointer (some ⟨O,0,none⟩)),(6,iV al.1),(7,iV 0)] rfl ?_;refine JL.Bg dL (fun L s A=>∃(aJ:LH) (aa:Option Addr) (ab:Nat) (ag:Seg) (ac:Option Addr) (ae:Nat) (ah:Seg) (a0:Option Addr) (a1:Nat),Jn bg H aJ [[(K,.cells #[.slice a0 (A.2.2.1).length a1,iV A.2.2.2.1,.int .u64 ((A.2.2.2.2.1:Nat):Int)] 92 (0,0))],[(U,.cells #[.slice none 0 0,.slice none 0 0] 24 (0,0))],[(O,.cells #[.slice aa (A.1).length ab,.slice ac (A.2.1).length ae] 24 (0,0))],ag,ah] [(0,.pointer (some ⟨K,0,none⟩)),(4,.pointer (some ⟨U,0,none⟩)),(5,.pointer (some ⟨O,0,none⟩)),(6,iV al.1),(7,iV A.2.2.2.2.2)] L s (OL 28 (rL rI) aJ aa ab ag (A.1)∧OL 28 (rL rI) aJ ac ae ah (A.2.1)∧Ar rI aJ a0 a1 (A.2.2.1))) ⟨bg,none,0,[],none,0,[],b0,b1,rfl,rfl,(Le.refl _),dK,OL.nil,OL.nil,dI⟩ ?_;rintro _ _ A ⟨aJ,aa,ab,ag,ac,ae,ah,a0,a1,rfl,rfl,a2,b4,a3,a4,b5⟩ dZ ⟨hf,aU⟩ bl;have bm:=aU;unfold HX at bm;refine JL.go 7 rfl ?_;refine JL.ifs (p:=A.2.2.2.2.2<al.1) rfl (fun bn=>?_) (fun bn=>?_)
  ·have b6:=bm;rw [if_pos bn] at b6;obtain⟨bo,ea,eb⟩:=bs b6;refine JL.go 6 rfl ?_;refine JL.Y rfl (fun ρ h=>Yl.A4 (h _ _ rfl) (h _ _ rfl) ea) ?_;obtain⟨bp,ec,ed⟩:=bs eb;refine JL.go 1 rfl ?_;refine JL.Y rfl (fun ρ h=>Yl.A1 (h _ _ rfl) (h _ _ rfl) ec) ?_;refine JL.Y (v:=iV (min (bo) (bp))) rfl (fun ρ h=>Yl.min2 (h _ _ rfl) (h _ _ rfl)) ?_;refine JS.lit (pp:=rI) [iV (min (bo) (bp))] [min (bo) (bp)] rfl rfl rfl underlying28 (Ah type3) (AN type3) (by decide) rfl rfl rfl ⟨rfl,trivial⟩ b4 fun ee ef b7 eg=>?_;obtain⟨a5,eh,ei⟩:=bs ed;refine JL.go 6 rfl ?_;refine JS.Bw 0 (Jv b5 eh) rfl rfl (Ay func97 rfl) eg rfl ?_;rintro _ ej _ ar ⟨b8,b9,rfl,rfl,ca⟩ cb;obtain⟨aK,cc,ek⟩:=bs ei;refine JL.done ?_;refine JL.join (fun L s=>∃(a6:LH) (a7:Option Addr) (a8:Nat) (bq:Option Addr) (br:Nat),Jn ej H a6 [[(K,.cells #[.slice bq (aK.2.1).length br,iV aK.2.2.1,.int .u64 ((aK.2.2.2:Nat):Int)] 92 (0,0))],[(U,.cells #[.slice none 0 0,.slice none 0 0] 24 (0,0))],[(O,.cells #[.slice aa (A.1).length ab,.slice ac (A.2.1).length ae] 24 (0,0))],ag,ah] [(0,.pointer (some ⟨K,0,none⟩)),(4,.pointer (some ⟨U,0,none⟩)),(5,.pointer (some ⟨O,0,none⟩)),(6,iV al.1),(7,iV A.2.2.2.2.2),(8,.slice a7 (aK.1).length a8)] L s (Ar rI a6 a7 a8 (aK.1)∧Ar rI a6 bq br (aK.2.1))) ?_ ?_
   ·rintro _ _ ⟨a6,a7,a8,bq,br,rfl,rfl,aA,el,em,eo⟩;obtain⟨a9,ep,eq⟩:=bs ek;refine JL.go 4 rfl ?_;refine JS.Bw 0 (Jv eo ep) rfl rfl (Ay func97 rfl) el rfl ?_;rintro _ cd _ az ⟨ce,cf,rfl,rfl,cg⟩ er;refine JS.norm (S':= [[(K,.cells #[.slice ce (a9.2.1).length cf,iV a9.2.2.1,.int .u64 ((a9.2.2.2:Nat):Int)] 92 (0,0))],[(U,.cells #[.slice none 0 0,.slice none 0 0] 24 (0,0))],[(O,.cells #[.slice aa (A.1).length ab,.slice ac (A.2.1).length ae] 24 (0,0))],ag,ah]) rfl er fun ci=>?_;obtain⟨aj,ck,et⟩:=bs eq;refine JL.done ?_;refine JL.join (fun L s=>∃(ba:LH) (au:Option Addr) (av:Nat) (bu:Option Addr) (bv:Nat),Jn cd H ba [[(K,.cells #[.slice bu (aj.2.1).length bv,iV aj.2.2.1,.int .u64 ((aj.2.2.2:Nat):Int)] 92 (0,0))],[(U,.cells #[.slice none 0 0,.slice none 0 0] 24 (0,0))],[(O,.cells #[.slice aa (A.1).length ab,.slice ac (A.2.1).length ae] 24 (0,0))],ag,ah] [(0,.pointer (some ⟨K,0,none⟩)),(4,.pointer (some ⟨U,0,none⟩)),(5,.pointer (some ⟨O,0,none⟩)),(6,iV al.1),(7,iV A.2.2.2.2.2),(8,.slice au (aj.1).length av)] L s (Ar rI ba au av (aj.1)∧Ar rI ba bu bv (aj.2.1))) ?_ ?_
    ·rintro _ _ ⟨ba,au,av,bu,bv,rfl,rfl,aB,eu,cm,ew⟩;refine JL.go 8 rfl ?_;refine JS.lit (pp:=rI) [iV 0,iV 1,iV 1,iV 2] [0,1,1,2] rfl rfl rfl underlying28 (Ah type3) (AN type3) (by decide) rfl rfl rfl ⟨rfl,rfl,rfl,rfl,trivial⟩ eu fun hg hj ex ey=>?_;refine JS.BA 5 ex ey rfl fun hk am ez eA=>?_;obtain⟨bb,eB,eC⟩:=bs et;refine JS.Bw 0 (RI (ew.mono am) ez eB) rfl rfl (Ay func99 rfl) eA rfl ?_;rintro _ bw _ aw ⟨cn,co,rfl,rfl,eD⟩ eE;refine JS.norm (S':= [[(K,.cells #[.slice cn (bb.2.1).length co,iV bb.2.2.1,.int .u64 ((bb.2.2.2:Nat):Int)] 92 (0,0))],[(U,.cells #[.slice none 0 0,.slice none 0 0] 24 (0,0))],[(O,.cells #[.slice aa (A.1).length ab,.slice ac (A.2.1).length ae] 24 (0,0))],ag,ah,[]]) rfl eE fun eF=>?_;obtain⟨W,eG,eH⟩:=bs eC;refine JL.go 2 rfl ?_;refine JL.join (fun L s=>∃(aE:LH) (aL:Option Addr) (aM:Nat) (aC:Option Addr) (aD:Nat),Jn bw H aE [[(K,.cells #[.slice aC (W.2.1).length aD,iV W.2.2.1,.int .u64 ((W.2.2.2:Nat):Int)] 92 (0,0))],[(U,.cells #[.slice none 0 0,.slice none 0 0] 24 (0,0))],[(O,.cells #[.slice aa (A.1).length ab,.slice ac (A.2.1).length ae] 24 (0,0))],ag,ah] [(0,.pointer (some ⟨K,0,none⟩)),(4,.pointer (some ⟨U,0,none⟩)),(5,.pointer (some ⟨O,0,none⟩)),(6,iV al.1),(7,iV A.2.2.2.2.2),(8,.slice au (aj.1).length av),(9,.slice aL (W.1).length aM)] L s (Ar rI aE aL aM (W.1)∧Ar rI aE aC aD (W.2.1))) ?_ ?_
     ·rintro _ _ ⟨aE,aL,aM,aC,aD,rfl,rfl,ay,aV,bx,bz⟩;refine JG.BX 11 [O] ⟨⟨2,_,rfl⟩,trivial⟩ aV mixed rfl (by decide+kernel) fun ht=>?_;refine JG.fd 0 ht underlying24 (Ah type22) rfl rfl rfl rfl ?_;refine JG.V (v:= .slice aa (A.1).length ab) 1 ht rfl rfl (fun ρ h s' hs=>Yl.load (Ao underlying22) (h _ _ rfl) (Bb (o:=0) 2 aV rfl (by simp [AD]) hs rfl)) ?_;refine JG.mv 2 ht rfl rfl ?_;refine JG.fd 5 ht underlying24 (Ah type22) rfl rfl rfl rfl ?_;refine JG.V (v:= .slice ac (A.2.1).length ae) 6 ht rfl rfl (fun ρ h s' hs=>Yl.load (Ao underlying22) (h _ _ rfl) (Bb (o:=1) 2 aV rfl (by simp [AD]) hs rfl)) ?_;refine JG.mv 7 ht rfl rfl ?_;obtain⟨aN,bA,eI⟩:=bs eH;obtain⟨aO,bB,bC⟩:=bs eI;refine JG.two (i:=3) (j:=8) rfl (by decide+kernel) ?_ ?_
      ·refine Take.lit (pp:=(rL rI)) (jp:=2) [.slice au (aj.1).length av] ([aj.1]:List (List Int)) aV rfl rfl rfl rfl underlying22 (Ah type28) (AN type28) (by decide) rfl rfl rfl ⟨⟨_,_,rfl,(cm.mono ((am.trans aw).trans ay))⟩,trivial⟩ fun hl cp cq cr=>?_;refine JG.two (i:=4) (j:=8) rfl (by decide+kernel) ?_ ?_
       ·refine Take.app (pp:=(rL rI)) (jp:=2) 3 5 cr rfl bA rfl rfl rfl rfl rfl rfl rfl underlying22 underlying22 (Ah type28) (Cp type28) (AN type28) rfl (by decide) (by decide) (a3.mono ((((((ar.trans aA).trans az).trans aB).trans am).trans aw).trans ay)) cq rfl rfl rfl rfl fun ct cu hm cv eJ eK=>?_;refine JG.fd 10 ht underlying24 (Ah type22) rfl rfl rfl rfl ?_;refine JG.one (i:=8) rfl (by decide+kernel) ?_;refine Take.lit (pp:=(rL rI)) (jp:=2) [.slice aL (W.1).length aM] ([W.1]:List (List Int)) eK rfl rfl rfl rfl underlying22 (Ah type28) (AN type28) (by decide) rfl rfl rfl ⟨⟨_,_,rfl,bx⟩,trivial⟩ fun hn eL eM eN=>?_;refine JG.one (i:=9) rfl (by decide+kernel) ?_;refine Take.app (pp:=(rL rI)) (jp:=2) 4 6 eN rfl bB rfl rfl rfl rfl rfl rfl rfl underlying22 underlying22 (Ah type28) (Cp type28) (AN type28) rfl (by decide) (by decide) (a4.mono ((((((ar.trans aA).trans az).trans aB).trans am).trans aw).trans ay)) eM rfl rfl rfl rfl fun cw cy ho cz eO eP=>?_;refine Av.leaf (tail:= [11,12,13]) (by decide+kernel) (fun t=>A3 (by decide+kernel) (A3 (by decide+kernel) (A3 (by decide+kernel) BE)) t) ?_;refine JS.part 3 rfl eP fun eQ=>?_;refine JS.drop 3 eQ rfl fun eR=>?_;refine JS.part 4 rfl eR fun eS=>?_;refine JS.drop 4 eS rfl fun eT=>?_;refine JS.norm (S':= [[(K,.cells #[.slice aC (W.2.1).length aD,iV W.2.2.1,.int .u64 ((W.2.2.2:Nat):Int)] 92 (0,0))],[(U,.cells #[.slice none 0 0,.slice none 0 0] 24 (0,0))],[(O,.cells #[.slice aa (A.1).length ab,.slice ac (A.2.1).length ae] 24 (0,0))],[],[],cp,eL,cv,cz]) rfl eT fun eU=>?_;refine JS.st (v:= .slice ct (aN).length cu) (off:=0) 2 eU (Ah type22) rfl rfl rfl rfl fun eV=>?_;refine JL.fd underlying24 (Ah type22) rfl rfl rfl ?_;refine JS.st (v:= .slice cw (aO).length cy) (off:=1) 2 eV (Ah type22) rfl rfl rfl rfl fun eW=>?_;obtain⟨eX,eY,eZ⟩:=bs bC;refine JL.go 4 rfl ?_;refine JL.Y rfl (fun ρ h=>Yl.A1 (h _ _ rfl) (h _ _ rfl) eY) ?_;refine JL.go 2 rfl ?_;refine JS.drop 5 eW rfl fun e0=>?_;refine JS.drop 6 e0 rfl fun e1=>?_;obtain rfl:=oi eZ;exact JL.kw (bl _ _ (aN,aO,W.2.1,W.2.2.1,W.2.2.2,eX) ⟨aE,ct,cu,cv,cw,cy,cz,aC,aD,rfl,rfl,(((((((a2.trans ar).trans aA).trans az).trans aB).trans am).trans aw).trans ay),e1,eJ,eO,bz⟩ aU) rfl
       ·refine Take.lit (pp:=(rL rI)) (jp:=2) [.slice aL (W.1).length aM] ([W.1]:List (List Int)) cr rfl rfl rfl rfl underlying22 (Ah type28) (AN type28) (by decide) rfl rfl rfl ⟨⟨_,_,rfl,bx⟩,trivial⟩ fun hp e2 e3 e4=>?_;refine JG.one (i:=4) rfl (by decide+kernel) ?_;refine Take.app (pp:=(rL rI)) (jp:=2) 3 5 e4 rfl bA rfl rfl rfl rfl rfl rfl rfl underlying22 underlying22 (Ah type28) (Cp type28) (AN type28) rfl (by decide) (by decide) (a3.mono ((((((ar.trans aA).trans az).trans aB).trans am).trans aw).trans ay)) cq rfl rfl rfl rfl fun cA cB hq cC e5 e6=>?_;refine JG.fd 10 ht underlying24 (Ah type22) rfl rfl rfl rfl ?_;refine JG.one (i:=9) rfl (by decide+kernel) ?_;refine Take.app (pp:=(rL rI)) (jp:=2) 4 6 e6 rfl bB rfl rfl rfl rfl rfl rfl rfl underlying22 underlying22 (Ah type28) (Cp type28) (AN type28) rfl (by decide) (by decide) (a4.mono ((((((ar.trans aA).trans az).trans aB).trans am).trans aw).trans ay)) e3 rfl rfl rfl rfl fun cD cE hr cF e7 e8=>?_;refine Av.leaf (tail:= [11,12,13]) (by decide+kernel) (fun t=>A3 (by decide+kernel) (A3 (by decide+kernel) (A3 (by decide+kernel) BE)) t) ?_;refine JS.part 3 rfl e8 fun e9=>?_;refine JS.drop 3 e9 rfl fun fa=>?_;refine JS.part 4 rfl fa fun fb=>?_;refine JS.drop 4 fb rfl fun fc=>?_;refine JS.norm (S':= [[(K,.cells #[.slice aC (W.2.1).length aD,iV W.2.2.1,.int .u64 ((W.2.2.2:Nat):Int)] 92 (0,0))],[(U,.cells #[.slice none 0 0,.slice none 0 0] 24 (0,0))],[(O,.cells #[.slice aa (A.1).length ab,.slice ac (A.2.1).length ae] 24 (0,0))],[],[],cp,e2,cC,cF]) rfl fc fun fe=>?_;refine JS.st (v:= .slice cA (aN).length cB) (off:=0) 2 fe (Ah type22) rfl rfl rfl rfl fun ff=>?_;refine JL.fd underlying24 (Ah type22) rfl rfl rfl ?_;refine JS.st (v:= .slice cD (aO).length cE) (off:=1) 2 ff (Ah type22) rfl rfl rfl rfl fun fg=>?_;obtain⟨fh,fj,fk⟩:=bs bC;refine JL.go 4 rfl ?_;refine JL.Y rfl (fun ρ h=>Yl.A1 (h _ _ rfl) (h _ _ rfl) fj) ?_;refine JL.go 2 rfl ?_;refine JS.drop 5 fg rfl fun fm=>?_;refine JS.drop 6 fm rfl fun fo=>?_;obtain rfl:=oi fk;exact JL.kw (bl _ _ (aN,aO,W.2.1,W.2.2.1,W.2.2.2,fh) ⟨aE,cA,cB,cC,cD,cE,cF,aC,aD,rfl,rfl,(((((((a2.trans ar).trans aA).trans az).trans aB).trans am).trans aw).trans ay),fo,e5,e7,bz⟩ aU) rfl
      ·refine Take.lit (pp:=(rL rI)) (jp:=2) [.slice aL (W.1).length aM] ([W.1]:List (List Int)) aV rfl rfl rfl rfl underlying22 (Ah type28) (AN type28) (by decide) rfl rfl rfl ⟨⟨_,_,rfl,bx⟩,trivial⟩ fun hu fp fq fs=>?_;refine JG.one (i:=3) rfl (by decide+kernel) ?_;refine Take.lit (pp:=(rL rI)) (jp:=2) [.slice au (aj.1).length av] ([aj.1]:List (List Int)) fs rfl rfl rfl rfl underlying22 (Ah type28) (AN type28) (by decide) rfl rfl rfl ⟨⟨_,_,rfl,(cm.mono ((am.trans aw).trans ay))⟩,trivial⟩ fun hv fu fv fw=>?_;refine JG.one (i:=4) rfl (by decide+kernel) ?_;refine Take.app (pp:=(rL rI)) (jp:=2) 3 6 fw rfl bA rfl rfl rfl rfl rfl rfl rfl underlying22 underlying22 (Ah type28) (Cp type28) (AN type28) rfl (by decide) (by decide) (a3.mono ((((((ar.trans aA).trans az).trans aB).trans am).trans aw).trans ay)) fv rfl rfl rfl rfl fun cG cH hw cI fx fy=>?_;refine JG.fd 10 ht underlying24 (Ah type22) rfl rfl rfl rfl ?_;refine JG.one (i:=9) rfl (by decide+kernel) ?_;refine Take.app (pp:=(rL rI)) (jp:=2) 4 5 fy rfl bB rfl rfl rfl rfl rfl rfl rfl underlying22 underlying22 (Ah type28) (Cp type28) (AN type28) rfl (by decide) (by decide) (a4.mono ((((((ar.trans aA).trans az).trans aB).trans am).trans aw).trans ay)) fq rfl rfl rfl rfl fun cJ cK hx cM fz fA=>?_;refine Av.leaf (tail:= [11,12,13]) (by decide+kernel) (fun t=>A3 (by decide+kernel) (A3 (by decide+kernel) (A3 (by decide+kernel) BE)) t) ?_;refine JS.part 3 rfl fA fun fB=>?_;refine JS.drop 3 fB rfl fun fC=>?_;refine JS.part 4 rfl fC fun fD=>?_;refine JS.drop 4 fD rfl fun fE=>?_;refine JS.norm (S':= [[(K,.cells #[.slice aC (W.2.1).length aD,iV W.2.2.1,.int .u64 ((W.2.2.2:Nat):Int)] 92 (0,0))],[(U,.cells #[.slice none 0 0,.slice none 0 0] 24 (0,0))],[(O,.cells #[.slice aa (A.1).length ab,.slice ac (A.2.1).length ae] 24 (0,0))],[],[],fp,fu,cI,cM]) rfl fE fun fF=>?_;refine JS.st (v:= .slice cG (aN).length cH) (off:=0) 2 fF (Ah type22) rfl rfl rfl rfl fun fG=>?_;refine JL.fd underlying24 (Ah type22) rfl rfl rfl ?_;refine JS.st (v:= .slice cJ (aO).length cK) (off:=1) 2 fG (Ah type22) rfl rfl rfl rfl fun fH=>?_;obtain⟨fI,fJ,fK⟩:=bs bC;refine JL.go 4 rfl ?_;refine JL.Y rfl (fun ρ h=>Yl.A1 (h _ _ rfl) (h _ _ rfl) fJ) ?_;refine JL.go 2 rfl ?_;refine JS.drop 5 fH rfl fun fL=>?_;refine JS.drop 6 fL rfl fun fM=>?_;obtain rfl:=oi fK;exact JL.kw (bl _ _ (aN,aO,W.2.1,W.2.2.1,W.2.2.2,fI) ⟨aE,cG,cH,cI,cJ,cK,cM,aC,aD,rfl,rfl,(((((((a2.trans ar).trans aA).trans az).trans aB).trans am).trans aw).trans ay),fM,fx,fz,bz⟩ aU) rfl
     ·intro fN;refine JL.block ?_;refine JL.wk [(0,.pointer (some ⟨K,0,none⟩)),(4,.pointer (some ⟨U,0,none⟩)),(5,.pointer (some ⟨O,0,none⟩)),(6,iV al.1),(7,iV A.2.2.2.2.2),(8,.slice au (aj.1).length av),(9,.slice none 0 0),(10,iV bb.1)] rfl ?_;refine JL.Bg eG (fun L s ai=>∃(aF:LH) (aW:Option Addr) (aX:Nat) (aG:Option Addr) (aH:Nat),Jn bw H aF [[(K,.cells #[.slice aW (ai.1).length aX,iV ai.2.1,.int .u64 ((ai.2.2.1:Nat):Int)] 92 (0,0))],[(U,.cells #[.slice none 0 0,.slice none 0 0] 24 (0,0))],[(O,.cells #[.slice aa (A.1).length ab,.slice ac (A.2.1).length ae] 24 (0,0))],ag,ah] [(0,.pointer (some ⟨K,0,none⟩)),(4,.pointer (some ⟨U,0,none⟩)),(5,.pointer (some ⟨O,0,none⟩)),(6,iV al.1),(7,iV A.2.2.2.2.2),(8,.slice au (aj.1).length av),(9,.slice aG (ai.2.2.2.1).length aH),(10,iV ai.2.2.2.2)] L s (Ar rI aF aW aX (ai.1)∧Ar rI aF aG aH (ai.2.2.2.1))) ⟨bw,cn,co,none,0,rfl,rfl,(Le.refl _),eF,eD,Ar.nil⟩ ?_;rintro _ _ ai ⟨aF,aW,aX,aG,aH,rfl,rfl,cN,cO,cP,bD⟩ fO ⟨hy,bE⟩ fP;have cQ:=bE;unfold H3 at cQ;obtain⟨cR,cT,cV⟩:=bs cQ;refine JL.go 6 rfl ?_;refine JL.By [] (fun L s=>∃(bF:LH),Jm aF H bF [[(K,.cells #[.slice aW (ai.1).length aX,iV ai.2.1,.int .u64 ((ai.2.2.1:Nat):Int)] 92 (0,0))],[(U,.cells #[.slice none 0 0,.slice none 0 0] 24 (0,0))],[(O,.cells #[.slice aa (A.1).length ab,.slice ac (A.2.1).length ae] 24 (0,0))],ag,ah] [(0,.pointer (some ⟨K,0,none⟩)),(4,.pointer (some ⟨U,0,none⟩)),(5,.pointer (some ⟨O,0,none⟩)),(6,iV al.1),(7,iV A.2.2.2.2.2),(8,.slice au (aj.1).length av),(9,.slice aG (ai.2.2.2.1).length aH),(10,iV ai.2.2.2.2),(50,.bool cR)] L s) ?_ ?_
      ·rintro _ _ ⟨bF,rfl,rfl,aI,cW⟩;refine JL.done ?_;refine JL.split (t:=cR) rfl (fun bG=>?_) (fun bG=>?_)
       ·have cX:=cV;rw [if_pos bG] at cX;obtain⟨fQ,fR,fS⟩:=bs cX;refine JL.go 7 rfl ?_;refine JL.Y rfl (fun ρ h=>Yl.A4 (h _ _ rfl) (h _ _ rfl) fR) ?_;refine JL.Y (v:=iV (max (0) (fQ))) rfl (fun ρ h=>Yl.max2 (h _ _ rfl) (h _ _ rfl)) ?_;obtain⟨hz,fT,fU⟩:=bs fS;refine JS.Bw 0 (FW (cP.mono aI) fT) rfl rfl (Ay func41 rfl) cW rfl ?_;rintro _ hA _ bH ⟨hB,hC,rfl,rfl,fV⟩ fW;obtain⟨fX,fY,fZ⟩:=bs fU;refine JL.go 6 rfl ?_;refine JS.Bw 0 (Jv fV fY) rfl rfl (Ay func97 rfl) fW rfl ?_;rintro _ cY _ bI ⟨ga,gb,rfl,rfl,cZ⟩ c0;obtain⟨ak,c1,gc⟩:=bs fZ;refine JL.done ?_;refine JL.join (fun L s=>∃(aY:LH) (aP:Option Addr) (aQ:Nat),Jn cY H aY [[(K,.cells #[.slice aP (ak.2.1).length aQ,iV ak.2.2.1,.int .u64 ((ak.2.2.2:Nat):Int)] 92 (0,0))],[(U,.cells #[.slice none 0 0,.slice none 0 0] 24 (0,0))],[(O,.cells #[.slice aa (A.1).length ab,.slice ac (A.2.1).length ae] 24 (0,0))],ag,ah] [(0,.pointer (some ⟨K,0,none⟩)),(4,.pointer (some ⟨U,0,none⟩)),(5,.pointer (some ⟨O,0,none⟩)),(6,iV al.1),(7,iV A.2.2.2.2.2),(8,.slice au (aj.1).length av),(9,.slice aG (ai.2.2.2.1).length aH),(10,iV ai.2.2.2.2),(11,iV ak.1)] L s (Ar rI aY aP aQ (ak.2.1))) ?_ ?_
        ·rintro _ _ ⟨aY,aP,aQ,rfl,rfl,bJ,c3,gd⟩;obtain⟨bK,c4,ge⟩:=bs gc;refine JL.go 6 rfl ?_;refine JL.join (fun L s=>∃(bc:LH) (bd:Option Addr) (bf:Nat),Jn aY H bc [[(K,.cells #[.slice aP (ak.2.1).length aQ,iV ak.2.2.1,.int .u64 ((ak.2.2.2:Nat):Int)] 92 (0,0))],[(U,.cells #[.slice none 0 0,.slice none 0 0] 24 (0,0))],[(O,.cells #[.slice aa (A.1).length ab,.slice ac (A.2.1).length ae] 24 (0,0))],ag,ah] [(0,.pointer (some ⟨K,0,none⟩)),(4,.pointer (some ⟨U,0,none⟩)),(5,.pointer (some ⟨O,0,none⟩)),(6,iV al.1),(7,iV A.2.2.2.2.2),(8,.slice au (aj.1).length av),(9,.slice bd (bK).length bf),(10,iV ai.2.2.2.2)] L s (Ar rI bc bd bf (bK))) ?_ ?_
         ·rintro _ _ ⟨bc,bd,bf,rfl,rfl,c5,gf,gg⟩;obtain⟨gh,gi,gj⟩:=bs ge;refine JL.go 3 rfl ?_;refine JL.Y rfl (fun ρ h=>Yl.A4 (h _ _ rfl) (h _ _ rfl) gi) ?_;refine JL.go 2 rfl ?_;obtain rfl:=oi gj;exact JL.kw (fP _ _ (ak.2.1,ak.2.2.1,ak.2.2.2,bK,gh) ⟨bc,aP,aQ,bd,bf,rfl,rfl,(((((cN.trans aI).trans bH).trans bI).trans bJ).trans c5),gf,(gd.mono c5),gg⟩ bE) rfl
         ·intro c6;refine JL.ifs (p:=ak.1≠A.2.2.2.2.2) rfl (fun bL=>?_) (fun bL=>?_)
          ·have c7:=c4;rw [if_pos bL] at c7;obtain⟨hD,gk,gl⟩:=bs c7;refine JL.go 3 rfl ?_;refine JS.cl (M0 (bD.mono (((aI.trans bH).trans bI).trans bJ)) gk) rfl rfl (Ay func98 rfl) c3 ?_;rintro _ gm _ gn ⟨gp,gq,rfl,rfl,gr⟩ gt;refine JS.norm (S':= [[(K,.cells #[.slice aP (ak.2.1).length aQ,iV ak.2.2.1,.int .u64 ((ak.2.2.2:Nat):Int)] 92 (0,0))],[(U,.cells #[.slice none 0 0,.slice none 0 0] 24 (0,0))],[(O,.cells #[.slice aa (A.1).length ab,.slice ac (A.2.1).length ae] 24 (0,0))],ag,ah,[]]) rfl gt fun gu=>?_;refine JL.go 2 rfl ?_;obtain rfl:=oi gl;exact JL.kw (c6 _ _ ⟨gm,gp,gq,rfl,rfl,gn,gu,gr⟩) rfl
          ·have c8:=c4;rw [if_neg bL] at c8;refine JL.skip ?_;obtain rfl:=oi c8;exact JL.kw (c6 _ _ ⟨aY,aG,aH,rfl,rfl,(Le.refl _),c3,(bD.mono (((aI.trans bH).trans bI).trans bJ))⟩) rfl
        ·intro c9;refine JL.split (t:=fX.1) rfl (fun bM=>?_) (fun bM=>?_)
         ·have da:=c1;rw [if_pos bM] at da;obtain⟨hE,gv,gw⟩:=bs da;refine JL.go 3 rfl ?_;refine JL.Y rfl (fun ρ h=>Yl.A4 (h _ _ rfl) (h _ _ rfl) gv) ?_;obtain⟨bN,gx,gy⟩:=bs gw;refine JS.Bw 0 (FW cZ gx) rfl rfl (Ay func41 rfl) c0 rfl ?_;rintro _ gz _ gA ⟨db,dc,rfl,rfl,gB⟩ gC;refine JS.norm (S':= [[(K,.cells #[.slice db (bN.2.1).length dc,iV bN.2.2.1,.int .u64 ((bN.2.2.2:Nat):Int)] 92 (0,0))],[(U,.cells #[.slice none 0 0,.slice none 0 0] 24 (0,0))],[(O,.cells #[.slice aa (A.1).length ab,.slice ac (A.2.1).length ae] 24 (0,0))],ag,ah]) rfl gC fun gD=>?_;refine JL.go 2 rfl ?_;obtain rfl:=oi gy;exact JL.kw (c9 _ _ ⟨gz,db,dc,rfl,rfl,gA,gD,gB⟩) rfl
         ·have dd:=c1;rw [if_neg (by rw [bM];exact Bool.false_ne_true)] at dd;refine JL.skip ?_;obtain rfl:=oi dd;exact JL.kw (c9 _ _ ⟨cY,ga,gb,rfl,rfl,(Le.refl _),c0,cZ⟩) rfl
       ·have de:=cV;rw [if_neg (by rw [bG];exact Bool.false_ne_true)] at de;refine JL.exit rfl ?_;obtain rfl:=oi de;obtain rfl:=fO _ bE;exact JL.kw (fN _ _ ⟨bF,aG,aH,aW,aX,rfl,rfl,(cN.trans aI),cW,(bD.mono aI),(cP.mono aI)⟩) rfl
      ·intro df;refine JL.BP (q:=0<ai.2.2.2.2) (i:=47) rfl (fun bO=>?_) (fun bO=>?_)
       ·have dg:=cT;rw [if_pos bO] at dg;refine JL.go 3 rfl ?_;obtain rfl:=oi dg;exact JL.kw (df _ _ ⟨aF,rfl,rfl,(Le.refl _),cO⟩) rfl
       ·have dh:=cT;rw [if_neg bO] at dh;refine JL.go 3 rfl ?_;obtain rfl:=oi dh;exact JL.kw (df _ _ ⟨aF,rfl,rfl,(Le.refl _),cO⟩) rfl
    ·intro di;refine JL.split (t:=a9.1) rfl (fun bP=>?_) (fun bP=>?_)
     ·have dj:=ck;rw [if_pos bP] at dj;obtain⟨hF,gE,gF⟩:=bs dj;refine JL.go 3 rfl ?_;refine JL.Y rfl (fun ρ h=>Yl.A4 (h _ _ rfl) (h _ _ rfl) gE) ?_;obtain⟨aZ,gG,gH⟩:=bs gF;refine JS.Bw 0 (FW cg gG) rfl rfl (Ay func41 rfl) ci rfl ?_;rintro _ hG _ gI ⟨dk,dl,rfl,rfl,gJ⟩ gK;refine JS.lit (pp:=rI) [iV aZ.1] [aZ.1] rfl rfl rfl underlying28 (Ah type3) (AN type3) (by decide) rfl rfl rfl ⟨rfl,trivial⟩ gK fun gL hH gM gN=>?_;refine JL.go 2 rfl ?_;refine JS.BA 5 gM gN rfl fun gO dm gP gQ=>?_;refine JS.norm (S':= [[(K,.cells #[.slice dk (aZ.2.1).length dl,iV aZ.2.2.1,.int .u64 ((aZ.2.2.2:Nat):Int)] 92 (0,0))],[(U,.cells #[.slice none 0 0,.slice none 0 0] 24 (0,0))],[(O,.cells #[.slice aa (A.1).length ab,.slice ac (A.2.1).length ae] 24 (0,0))],ag,ah,[]]) rfl gQ fun gR=>?_;obtain rfl:=oi gH;exact JL.kw (di _ _ ⟨gO,(some ⟨gL,0,none⟩),1,dk,dl,rfl,rfl,(gI.trans dm),gR,gP,(gJ.mono dm)⟩) rfl
     ·have dn:=ck;rw [if_neg (by rw [bP];exact Bool.false_ne_true)] at dn;refine JL.skip ?_;obtain rfl:=oi dn;exact JL.kw (di _ _ ⟨cd,a7,a8,ce,cf,rfl,rfl,(Le.refl _),ci,(em.mono az),cg⟩) rfl
   ·intro dp;refine JL.split (t:=a5.1) rfl (fun bQ=>?_) (fun bQ=>?_)
    ·have dq:=cc;rw [if_pos bQ] at dq;obtain⟨hI,gS,gT⟩:=bs dq;refine JL.go 5 rfl ?_;refine JL.Y rfl (fun ρ h=>Yl.A4 (h _ _ rfl) (h _ _ rfl) gS) ?_;obtain⟨bR,gU,gV⟩:=bs gT;refine JS.Bw 0 (MK ca gU) rfl rfl (Ay func96 rfl) cb rfl ?_;rintro _ hJ _ dr ⟨dt,du,rfl,rfl,gW⟩ gX;refine JS.norm (S':= [[(K,.cells #[.slice dt (bR.2.1).length du,iV bR.2.2.1,.int .u64 ((bR.2.2.2:Nat):Int)] 92 (0,0))],[(U,.cells #[.slice none 0 0,.slice none 0 0] 24 (0,0))],[(O,.cells #[.slice aa (A.1).length ab,.slice ac (A.2.1).length ae] 24 (0,0))],ag,ah,ef]) rfl gX fun gY=>?_;refine JS.BA 5 (b7.mono (ar.trans dr)) gY rfl fun hK dv gZ g0=>?_;obtain⟨hL,g1,g2⟩:=bs gV;refine JS.cl (M0 gZ g1) rfl rfl (Ay func98 rfl) g0 ?_;rintro _ g3 _ dw ⟨g4,g5,rfl,rfl,g6⟩ g7;refine JL.go 2 rfl ?_;obtain rfl:=oi g2;exact JL.kw (dp _ _ ⟨g3,g4,g5,dt,du,rfl,rfl,((dr.trans dv).trans dw),g7,g6,(gW.mono (dv.trans dw))⟩) rfl
    ·have dx:=cc;rw [if_neg (by rw [bQ];exact Bool.false_ne_true)] at dx;refine JL.skip ?_;refine JS.BA 5 (b7.mono ar) cb rfl fun g8 dy g9 ha=>?_;refine JS.norm (S':= [[(K,.cells #[.slice b8 (a5.2.1).length b9,iV a5.2.2.1,.int .u64 ((a5.2.2.2:Nat):Int)] 92 (0,0))],[(U,.cells #[.slice none 0 0,.slice none 0 0] 24 (0,0))],[(O,.cells #[.slice aa (A.1).length ab,.slice ac (A.2.1).length ae] 24 (0,0))],ag,ah,[]]) rfl ha fun hb=>?_;obtain rfl:=oi dx;exact JL.kw (dp _ _ ⟨g8,(some ⟨ee,0,none⟩),1,b8,b9,rfl,rfl,dy,hb,g9,(ca.mono dy)⟩) rfl
  ·have dz:=bm;rw [if_neg bn] at dz;refine JL.exit rfl ?_;obtain rfl:=oi dz;obtain rfl:=dZ _ aU;exact JL.kw (dY _ _ ⟨aJ,a0,a1,aa,ab,ag,ac,ae,ah,rfl,rfl,a2,b4,b5,a3,a4⟩) rfl
end Pal
namespace Pal
theorem Af.upto{S A:Type}{body:S→Option (AU S A)}{Q:A→Prop}{K:S}{F:Nat}(n:Nat)(I:Nat→S→Prop)(W:I 0 K)(aa:n<F)
  (round:∀i s,i<n→I i s→Af (body s) (AU.sat (I (i+1)) Q)) (last:∀s,I n s→Af (body s) (fun st=>∃a,st= .done a∧Q a)):Af (Pal.iter body F K) Q:=by
 refine Af.iter (fun m s=>∃i,i≤n∧m=n - i∧I i s) ?_ (m:=n - 0) ⟨0,Nat.zero_le _,rfl,W⟩ (by omega);rintro m s ⟨i,hi,rfl,O⟩;rcases Nat.lt_or_ge i n with Z | ab
 ·refine(round i s Z O).mono ?_;intro st U;cases st with
  | more s'=>exact⟨n - (i+1),by omega,i+1,by omega,rfl,U⟩
  | done a=>exact U
 ·obtain rfl:i=n:=by omega
  refine(last s O).mono ?_;rintro st ⟨a,rfl,h⟩;exact h
theorem Af.DX{α:Type}{o:Option α}{a:α}(h:Af o (fun x=>x=a)):o=some a:=by obtain⟨x,A,rfl⟩:=h;exact A
theorem LW(F:Nat)(a lo hi:Int):f101 F a lo hi=some (decide (a<lo∨hi<a)):=by
 unfold f101;by_cases h:a<lo
 ·simp [h]
 ·simp [h]
theorem LX(F:Nat){s n:Nat}(hs:s<65536)(U:n≤16):f103 F s (n:Int)=some (s.testBit n):=by
 unfold f103;have A:Hb s (n:Int)=some (s>>>n):=by unfold Hb;rw [if_pos (by omega)];rfl
 rw [A];simp only [Option.bind_some];have K:s>>>n<65536:=Nat.lt_of_le_of_lt (Nat.shiftRight_le _ _) hs;have O:Gz (s>>>n) 1=some (s>>>n&&& 1):=if_pos ⟨K,by omega⟩;rw [O];simp only [Option.bind_some];rw [Pa]
theorem Qa(F:Nat){s n:Nat}(hs:s<65536)(A:n<16):f90 F s (n:Int)=some (s ||| 1<<<n):=by
 unfold f90;have K:G7 (n:Int)=some (1<<<n):=by unfold G7;rw [if_pos (by omega)];rfl
 rw [K];simp only [Option.bind_some];have O:1<<<n<65536:=by rw [Nat.one_shiftLeft];exact Nat.pow_lt_pow_right (by omega) (show n<16 from A)
 have U:F6 s (1<<<n)=some (s ||| 1<<<n):=if_pos ⟨hs,O⟩;rw [U];rfl
theorem MS{a b:Nat}(A:a<65536)(hb:b<65536):a ||| b<65536:=Nat.or_lt_two_pow (n:=16) A hb
theorem Qs{n:Nat}(A:n<16):1<<<n<65536:=by rw [Nat.one_shiftLeft];exact Nat.pow_lt_pow_right (by omega) (show n<16 from A)
def El(n:Nat)(l:List Int):Prop:=∀x∈l,0≤x∧x<(n:Int)
def Cf(l:List Int):Nat:=l.foldl (fun s x=>s ||| 1<<<x.toNat) 0
theorem NQ(l:List Int)(x:Int):Cf (l++ [x])=Cf l ||| 1<<<x.toNat:=by simp [Cf]
theorem IV{l:List Int}(h:El 16 l):Cf l<65536:=by
 have key:∀(l:List Int) (s:Nat),s<65536→El 16 l→l.foldl (fun s x=>s ||| 1<<<x.toNat) s<65536:=by
  intro l
  induction l with
  | nil=>intro s hs _;exact hs
  | cons x l K=>
   intro s hs A;have U:=A x (by simp);exact K _ (MS hs (Qs (by omega))) fun y O=>A y (by simp [O])
 exact key l 0 (by omega) h
theorem IK{l:List Int}(h:∀x∈l,0≤x)(n:Nat):(Cf l).testBit n=decide ((n:Int)∈l):=by
 have key:∀(l:List Int) (s:Nat),(∀x∈l,0≤x)→(l.foldl (fun s x=>s ||| 1<<<x.toNat) s).testBit n=(s.testBit n || decide ((n:Int)∈l)):=by
  intro l
  induction l with
  | nil=>intro s _;simp
  | cons x l K=>
   intro s A;have U:=A x (by simp);rw [List.foldl_cons,K _ fun y O=>A y (by simp [O]),Nat.testBit_or];have e:(1<<<x.toNat).testBit n=decide ((n:Int)=x):=by
    rw [Nat.one_shiftLeft,Nat.testBit_two_pow];exact decide_eq_decide.2 ⟨fun h=>by omega,fun h=>by omega⟩
   rw [e,Bool.or_assoc];congr 1;simp
 rw [Cf,key l 0 h];simp
theorem LP{F:Nat}{l:List Int}(U:100<F)(W:l.length<100)(h:El 16 l):f120 F l=some (Cf l):=by
 refine Af.DX ?_;unfold f120;refine Af.b (S:=fun r=>r=Cf l) ?_ (by rintro r rfl;exact Af.intro rfl);refine Af.upto l.length (fun i s=>s=(Cf (l.take i),(i:Int))) (by simp [Cf]) (by omega) ?_ ?_
 ·rintro i s hi rfl;unfold HM;refine Af.pos (by simp;omega) ?_;refine Af.Bv (m:=i) rfl hi ?_;have Z:=h l[i] (List.getElem_mem hi);have K:l[i]=((l[i].toNat:Nat):Int):=by omega
  have hs:Cf (l.take i)<65536:=IV fun y O=>h y (List.mem_of_mem_take O);have A:=Qa F (n:=l[i].toNat) hs (by omega);rw [← K] at A;refine Af.be A ?_;refine Af.A5 ((i+1:Nat):Int) (by simp) (by omega) (by omega) ?_;refine Af.intro ?_;show _=_;rw [List.take_add_one,List.getElem?_eq_getElem hi];simp only [Option.toList_some];rw [NQ]
 ·rintro s rfl;unfold HM;refine Af.neg (by simp) ?_;exact Af.intro ⟨_,rfl,by simp⟩
def BO(s:Nat)(k:Nat):List Int:=((List.range k).filter (fun n=>s.testBit n)).map (fun(n:Nat)=>(n:Int))
theorem NC(s k:Nat):BO s (k+1)=if s.testBit k=true then BO s k++ [(k:Int)] else BO s k:=by
 unfold BO;rw [List.range_succ,List.filter_append];by_cases h:s.testBit k=true
 ·rw [if_pos h];simp [h]
 ·rw [if_neg h];simp [h]
theorem Ga(s k:Nat):(BO s k).length≤k:=by
 unfold BO;rw [List.length_map];exact Nat.le_trans (List.length_filter_le _ _) (by simp)
theorem Ep{s k:Nat}{x:Int}:x∈BO s k↔∃n:Nat,n<k∧s.testBit n=true∧x=(n:Int):=by
 unfold BO;simp only [List.mem_map,List.mem_filter,List.mem_range];exact⟨fun⟨n,⟨A,K⟩,O⟩=>⟨n,A,K,O.symm⟩,fun⟨n,A,K,O⟩=>⟨n,⟨A,K⟩,O.symm⟩⟩
theorem I8{F s:Nat}(A:100<F)(hs:s<65536):f89 F s=some (BO s 16):=by
 refine Af.DX ?_;unfold f89;refine Af.b (S:=fun r=>r=BO s 16) ?_ (by rintro r rfl;exact Af.intro rfl);refine Af.upto 16 (fun i st=>st=(BO s i,(i:Int))) rfl (by omega) ?_ ?_
 ·rintro i st hi rfl;unfold HW;refine Af.pos (by simp only;omega) ?_;refine Af.be (LX F hs (by omega)) ?_;have hlen:=Ga s i;refine Af.b (S:=fun r=>r=BO s (i+1)) ?_ ?_
  ·rw [NC];refine Af.ite (fun h=>?_) (fun h=>?_)
   ·rw [if_pos h];exact Af.Rw (by simp only;omega) (Af.intro rfl)
   ·rw [if_neg h];exact Af.intro rfl
  ·rintro r rfl;refine Af.A5 ((i+1:Nat):Int) (by simp) (by omega) (by omega) ?_;exact Af.intro rfl
 ·rintro st rfl;unfold HW;exact Af.neg (by simp) (Af.intro ⟨_,rfl,rfl⟩)
theorem Pn{F:Nat}{l:List Int}{x:Int}(U:100<F)(W:l.length<100):Af (f107 F l x) (fun r=>decide (0≤r)=decide (x∈l)):=by
 unfold f107;refine Af.b (S:=fun q=>match q with | Sum.inl r=>0≤r∧x∈l | Sum.inr _=>x ∉ l) ?_ ?_
 ·refine Af.upto l.length (fun i s=>s=(i:Int)∧x ∉ l.take i) ⟨rfl,by simp⟩ (by omega) ?_ ?_
  ·rintro i s hi ⟨rfl,A⟩;unfold HJ;refine Af.pos (by omega) ?_;refine Af.Bv (m:=i) rfl hi ?_;refine Af.ite (fun h=>?_) (fun h=>?_)
   ·exact Af.intro ⟨by omega,by rw [← h];exact List.getElem_mem hi⟩
   ·refine Af.A5 ((i+1:Nat):Int) (by simp) (by omega) (by omega) ?_;refine Af.intro ⟨rfl,?_⟩;rw [List.take_add_one,List.getElem?_eq_getElem hi];simp only [Option.toList_some,List.mem_append,List.mem_singleton];rintro(K | K)
    ·exact A K
    ·exact h K.symm
  ·rintro s ⟨rfl,A⟩;unfold HJ;exact Af.neg (by omega) (Af.intro ⟨_,rfl,by simpa using A⟩)
 ·rintro(r | u) O
  ·exact Af.intro (by rw [decide_eq_true O.1,decide_eq_true O.2])
  ·exact Af.intro (by rw [decide_eq_false O];rfl)
theorem Mt{F:Nat}{l:List Int}{x:Int}(A:100<F)(K:l.length<100):f53 F l x=some (decide (x∈l)):=by
 refine Af.DX ?_;unfold f53;refine Af.b (Pn A K) ?_;intro r O;exact Af.intro O
end Pal
namespace Pal
abbrev JW:=List (List Int)×List (List Int)
structure VL (n:Nat) (l:List Int):Prop where
 len:l.length≤3
 inr:El n l
 So:l.Pairwise (·<·)
structure VJ (n:Nat) (J:JW):Prop where
 pos:0<n
 le:n≤8
 l1:J.1.length=n
 l2:J.2.length=n
 nx:∀(i:Nat) l,J.1[i]? =some l→VL n l∧0<l.length
 fl:∀(i:Nat) l,J.2[i]? =some l→VL n l∧(i:Int) ∉ l
theorem QD{l:List Int}(h:l.Pairwise (·<·)){i:Nat}(hi:i<l.length)(A:0<i):¬(l[i]≤l[i - 1]'(by omega)):=by
 have:=List.pairwise_iff_getElem.1 h (i - 1) i (by omega) hi (by omega);omega
theorem Lr{F n:Nat}{J:JW}{m:Nat}{l:List Int}{b:Bool}(K:100<F)(O:J.1.length=n)(U:0<n∧n≤8)(A:VL n l)(hb:b=true∨(m:Int) ∉ l):f136 F J (m:Int) l b=some none:=by
 refine Af.DX ?_;unfold f136;have hlen:=A.len;refine Af.b (S:=fun q=>q=Sum.inr ()) ?_ (by rintro q rfl;exact Af.intro rfl);refine Af.upto l.length (fun i s=>s=(i:Int)) rfl (by omega) ?_ ?_
 ·rintro i s hi rfl;unfold HT;have W:=A.inr l[i] (List.getElem_mem hi);refine Af.pos (by omega) ?_;refine Af.Bv (m:=i) rfl hi ?_;refine Af.A5 ((n - 1:Nat):Int) (by omega) (by omega) (by omega) ?_;refine Af.be (LW F _ _ _) ?_;refine Af.neg (by simp;omega) ?_;refine Af.b (S:=fun c=>c=false) ?_ ?_
  ·refine Af.ite (fun h=>?_) (fun h=>Af.intro rfl);rcases hb with rfl | hb
   ·exact Af.intro rfl
   ·exact absurd (h▸List.getElem_mem hi) hb
  ·rintro c rfl;refine Af.neg (by simp) ?_;refine Af.b (S:=fun c=>c=false) ?_ ?_
   ·refine Af.ite (fun h=>?_) (fun h=>Af.intro rfl);refine Af.A5 ((i - 1:Nat):Int) (by omega) (by omega) (by omega) ?_;refine Af.Bv (m:=i - 1) rfl (by omega) ?_;exact Af.intro (decide_eq_false (QD A.So hi (by omega)))
   ·rintro c rfl;refine Af.neg (by simp) ?_;refine Af.A5 ((i+1:Nat):Int) (by simp) (by omega) (by omega) ?_;exact Af.intro rfl
 ·rintro s rfl;unfold HT;exact Af.neg (by omega) (Af.intro ⟨_,rfl,rfl⟩)
theorem Px{F n:Nat}{J:JW}(O:100<F)(A:VJ n J):f113 F J=some none:=by
 have U:=A.l1;have ab:=A.l2;have W:=A.pos;have Z:=A.le;refine Af.DX ?_;unfold f113;refine Af.neg (by omega) (Af.neg (by omega) (Af.neg (by omega) ?_));refine Af.b (S:=fun q=>q=Sum.inr ()) ?_ (by rintro q rfl;exact Af.intro rfl);refine Af.upto n (fun i s=>s=(i:Int)) rfl (by omega) ?_ ?_
 ·rintro i s hi rfl;unfold HU;have aa:i<J.1.length:=by omega
  have K:i<J.2.length:=by omega
  obtain⟨v1,v2⟩:=A.nx i _ (List.getElem?_eq_getElem aa);obtain⟨w1,w2⟩:=A.fl i _ (List.getElem?_eq_getElem K);have ac:=v1.len;have ae:=w1.len;refine Af.pos (by omega) ?_;refine Af.Bv (m:=i) rfl aa ?_;refine Af.neg (by omega) (Af.neg (by omega) ?_);refine Af.be (Lr O U ⟨W,Z⟩ v1 (.inl rfl)) ?_;refine Af.neg (by simp) ?_;refine Af.Bv (m:=i) rfl K ?_;refine Af.neg (by omega) ?_;refine Af.Bv (m:=i) rfl K ?_;refine Af.be (Lr O U ⟨W,Z⟩ w1 (.inr w2)) ?_;refine Af.neg (by simp) ?_;refine Af.A5 ((i+1:Nat):Int) (by simp) (by omega) (by omega) ?_;exact Af.intro rfl
 ·rintro s rfl;unfold HU;exact Af.neg (by omega) (Af.intro ⟨_,rfl,rfl⟩)
theorem NV(F:Nat):Gs F none=some 0:=by
 unfold Gs f112;have h:∃b,f135 F=some b:=by unfold f135;exact⟨_,rfl⟩
 obtain⟨b,hb⟩:=h;rw [hb];cases b <;> rfl
theorem QZ{F n:Nat}{J:JW}(A:100<F)(K:VJ n J):f67 F J=some 0:=by
 unfold f67;rw [Px A K];simp only [Option.bind_some];rw [NV];rfl
def Ek(nx:List (List Int))(s:Nat):Nat:=(BO s 16).foldl (fun o m=>o ||| Cf (nx.getD m.toNat [])) 0
theorem VJ.Na{n:Nat}{J:JW}(A:VJ n J)(m:Nat):VL n (J.1.getD m []):=by
 rw [List.getD_eq_getElem?_getD];cases h:J.1[m]? with
 | none=>exact⟨by simp,fun x K=>by simp at K,by simp⟩
 | some l=>exact(A.nx m l h).1
theorem El.mono{n m:Nat}{l:List Int}(h:El n l)(hle:n≤m):El m l:=fun x A=>by have:=h x A;omega
theorem LL{n:Nat}{J:JW}(O:VJ n J)(s k:Nat):(Ek J.1 s).testBit k=true↔∃m,m<16∧s.testBit m=true∧(k:Int)∈J.1.getD m []:=by
 have key:∀(l:List Int) (o:Nat),(l.foldl (fun o m=>o ||| Cf (J.1.getD m.toNat [])) o).testBit k=true↔o.testBit k=true∨∃m∈l,(k:Int)∈J.1.getD m.toNat []:=by
  intro l
  induction l with
  | nil=>intro o;simp
  | cons x l U=>
   intro o;rw [List.foldl_cons,U,Nat.testBit_or,Bool.or_eq_true,IK fun y W=>((O.Na x.toNat).inr y W).1,decide_eq_true_eq];simp only [List.mem_cons,exists_eq_or_imp,or_assoc]
 unfold Ek;rw [key];simp only [Nat.zero_testBit,Bool.false_eq_true,false_or];constructor
 ·rintro⟨x,Z,aa⟩;obtain⟨m,A,K,rfl⟩:=Ep.1 Z;exact⟨m,A,K,aa⟩
 ·rintro⟨m,A,K,ab⟩;exact⟨(m:Int),Ep.2 ⟨m,A,K,rfl⟩,by simpa using ab⟩
theorem NL{n s:Nat}(h:∀k,n≤k→s.testBit k=false):s<2 ^ n:=Nat.lt_pow_two_of_testBit s h
theorem L8{n:Nat}{J:JW}(A:VJ n J)(s:Nat):Ek J.1 s<2 ^ n:=by
 refine NL fun k O=>?_;cases h:(Ek J.1 s).testBit k with
 | false=>rfl
 | true=>
  obtain⟨m,_,_,K⟩:=(LL A s k).1 h;have:=(A.Na m).inr _ K;omega
theorem I0{n:Nat}(h:n≤8):2 ^ n≤256:=Nat.pow_le_pow_right (by omega) h
theorem FK{n s k:Nat}(h:s<2 ^ n)(K:s.testBit k=true):k<n:=by
 rcases Nat.lt_or_ge k n with A | A
 ·exact A
 ·rw [Nat.testBit_lt_two_pow (Nat.lt_of_lt_of_le h (Nat.pow_le_pow_right (by omega) A))] at K;cases K
theorem Ow{F n:Nat}{J:JW}{A:List Nat}{s:Nat}(W:100<F)(K:VJ n J)(hs:s<2 ^ n):G2 F (J.1,J.2,A) s=some (Ek J.1 s,(J.1,J.2,A)):=by
 have ag:=K.l1;have ac:=K.le;have ah:=I0 ac;refine Af.DX ?_;unfold G2;refine Af.be (I8 W (by omega)) ?_;refine Af.b (S:=fun r=>r=Ek J.1 s) ?_ (by rintro r rfl;exact Af.intro rfl);have hlen:=Ga s 16;refine Af.upto (BO s 16).length (fun i st=>st=(((BO s 16).take i).foldl (fun o m=>o ||| Cf (J.1.getD m.toNat [])) 0,(i:Int))∧((BO s 16).take i).foldl (fun o m=>o ||| Cf (J.1.getD m.toNat [])) 0<65536) ⟨rfl,by simp⟩ (by omega) ?_ ?_
 ·rintro i st hi ⟨rfl,Z⟩;unfold HG;obtain⟨m,ai,ae,aa⟩:=Ep.1 (List.getElem_mem hi);have hm:=FK hs ae;have O:m<J.1.length:=by omega
  have U:=(K.nx m _ (List.getElem?_eq_getElem O)).1;have aj:=U.len;refine Af.pos (by simp;omega) ?_;refine Af.Bv (m:=i) rfl hi ?_;refine Af.Bv (m:=m) aa O ?_;refine Af.be (LP W (show J.1[m].length<100 by omega) (U.inr.mono (by omega))) ?_;have ab:Cf J.1[m]<65536:=IV (U.inr.mono (by omega));refine Af.be (b:=((BO s 16).take i).foldl (fun o m=>o ||| Cf (J.1.getD m.toNat [])) 0 ||| Cf J.1[m]) (if_pos ⟨Z,ab⟩) ?_;refine Af.A5 ((i+1:Nat):Int) (by simp) (by omega) (by omega) ?_;have e:((BO s 16).take (i+1)).foldl (fun o m=>o ||| Cf (J.1.getD m.toNat [])) 0=((BO s 16).take i).foldl (fun o m=>o ||| Cf (J.1.getD m.toNat [])) 0 ||| Cf J.1[m]:=by
   rw [List.take_add_one,List.getElem?_eq_getElem hi,List.foldl_append,aa];simp [List.getD_eq_getElem?_getD,O]
  refine Af.intro ⟨?_,?_⟩
  ·rw [e]
  ·rw [e];exact MS Z ab
 ·rintro st ⟨rfl,_⟩;unfold HG;refine Af.neg (by simp) (Af.intro ⟨_,rfl,?_⟩);rw [List.take_length];rfl
def AG(J:JW):Nat→Nat
 | 0=>1
 | a+1=>Ek J.1 (AG J a)
theorem Gx{n:Nat}{J:JW}(A:VJ n J):∀a,AG J a<2 ^ n
 | 0=>Nat.one_lt_two_pow (by have:=A.pos;omega)
 | a+1=>L8 A _
def D3(J:JW):List Nat:=(List.range 13).map (AG J)
def Hc(J:JW)(n k:Nat)(A:List Nat):Prop:=A.length=13∧(∀i,i≤k→i<13→A[i]? =some (AG J i))∧∀x∈A,x<2 ^ n
theorem Hc.all{J:JW}{n:Nat}{A:List Nat}(h:Hc J n 12 A):A=D3 J:=by
 apply List.ext_getElem?;intro i;rcases Nat.lt_or_ge i 13 with hi | hi
 ·rw [h.2.1 i (by omega) hi];simp [D3,hi]
 ·rw [List.getElem?_eq_none (by rw [h.1];exact hi),List.getElem?_eq_none (by simp [D3];exact hi)]
theorem Kr{F n:Nat}{J:JW}{A:List Nat}(ac:100<F)(Z:VJ n J)(ae:A.length=13)(aa:∀x∈A,x<2 ^ n):
  Af (iter (GZ F) F (J.1,J.2,A,A,0)) (fun r=>r.1=J.1∧r.2.1=J.2∧r.2.2.1=A∧r.2.2.2.length=13∧r.2.2.2[0]? =A[0]? ∧(∀i,i<12→∀s,A[i]? =some s→r.2.2.2[i+1]? =some (Ek J.1 s))∧∀x∈r.2.2.2,x<2 ^ n):=by
 refine Af.upto 12 (fun k st=>∃B:List Nat,st=(J.1,J.2,A,B,(k:Int))∧B.length=13∧B[0]? =A[0]? ∧(∀i,i<k→∀s,A[i]? =some s→B[i+1]? =some (Ek J.1 s))∧∀x∈B,x<2 ^ n) ⟨A,rfl,ae,rfl,fun i hi=>by omega,aa⟩ (by omega) ?_ ?_
 ·rintro k st ah ⟨B,rfl,K,O,hs,hb⟩;unfold GZ;have U:k<A.length:=by omega
  have ab:k+1<B.length:=by omega
  refine Af.pos (by simp only;omega) ?_;refine Af.A5 ((k+1:Nat):Int) (by simp) (by omega) (by omega) ?_;refine Af.Bv (m:=k) rfl U ?_;refine Af.be (Ow ac Z (aa _ (List.getElem_mem U))) ?_;refine Af.Bv (m:=k+1) rfl ab ?_;refine Af.A5 ((k+1:Nat):Int) (by simp) (by omega) (by omega) ?_;refine Af.intro ⟨B.set (k+1) (Ek J.1 A[k]),rfl,by simpa using K,?_,?_,?_⟩
  ·rw [List.getElem?_set_ne (by omega)];exact O
  ·intro i hi s W;by_cases e:i=k
   ·subst e;rw [List.getElem?_set_self ab];have:A[i]=s:=by rw [List.getElem?_eq_getElem U] at W;exact Option.some.inj W
    rw [this]
   ·rw [List.getElem?_set_ne (by omega)];exact hs i (by omega) s W
  ·intro x ag;rcases List.mem_or_eq_of_mem_set ag with h | h
   ·exact hb x h
   ·subst h;exact L8 Z _
 ·rintro st ⟨B,rfl,K,O,hs,hb⟩;unfold GZ;refine Af.neg (by simp) (Af.intro ⟨_,rfl,rfl,rfl,rfl,K,O,hs,hb⟩)
theorem QK{F n:Nat}{J:JW}(ai:100<F)(ae:VJ n J):f92 F J=some (some (J.1,J.2,D3 J)):=by
 have aq:=ae.pos;refine Af.DX ?_;unfold f92;refine Af.Bv (m:=0) rfl (by simp) ?_;refine Af.b (S:=fun q=>q=Sum.inl (some (J.1,J.2,D3 J))) ?_ (by rintro q rfl;exact Af.intro rfl);refine Af.upto 12 (fun k st=>∃A:List Nat,st=(J.1,J.2,A)∧Hc J n k A) ?_ (by omega) ?_ ?_
 ·refine⟨_,rfl,by simp,fun i hi _=>?_,fun x aj=>?_⟩
  ·obtain rfl:i=0:=by omega
   rfl
  ·rcases List.mem_or_eq_of_mem_set aj with h | h
   ·simp at h;subst h;exact Nat.two_pow_pos n
   ·subst h;exact Nat.one_lt_two_pow (by omega)
 ·rintro k st ar ⟨A,rfl,K⟩;unfold H2;refine Af.b (Kr ai ae K.1 K.2.2) ?_;rintro⟨ak,al,ag,B⟩ ⟨Z,aa,ab,O,ac,U,W⟩;simp only at Z aa ab O ac U W ⊢;subst Z aa ab;refine Af.ite (fun h=>?_) (fun h=>?_)
  ·refine Af.intro ⟨B,rfl,O,fun i hi ah=>?_,W⟩;cases i with
   | zero=>rw [ac];exact K.2.1 0 (by omega) (by omega)
   | succ i=>exact U i (by omega) _ (K.2.1 i (by omega) (by omega))
  ·have e:B=ag:=Decidable.byContradiction fun am=>h am;subst e;refine Af.intro ?_;show _=_;have an:Hc J n 12 B:=by
    refine⟨O,fun i hi ah=>?_,W⟩;have:∀i,i<13→B[i]? =some (AG J i):=by
     intro i
     induction i with
     | zero=>intro _;exact K.2.1 0 (by omega) (by omega)
     | succ i ao=>intro h;exact U i (by omega) _ (ao (by omega))
    exact this i ah
   rw [an.all]
 ·rintro st ⟨A,rfl,K⟩;unfold H2;refine Af.b (Kr ai ae K.1 K.2.2) ?_;rintro⟨ak,al,ag,B⟩ ⟨Z,aa,ab,O,ac,U,W⟩;simp only at Z aa ab O ac U W ⊢;subst Z aa ab;have ap:Hc J n 12 B:=by
   refine⟨O,fun i hi ah=>?_,W⟩;cases i with
   | zero=>rw [ac];exact K.2.1 0 (by omega) (by omega)
   | succ i=>exact U i (by omega) _ (K.2.1 i (by omega) (by omega))
  have e:B=ag:=by rw [ap.all,K.all]
  refine Af.neg (by rw [e];simp) (Af.intro ⟨_,rfl,?_⟩);rw [K.all]
end Pal
namespace Pal
theorem IW(J:JW){a:Nat}(A:a<13):(D3 J)[a]? =some (AG J a):=by simp [D3,A]
theorem I3{F n:Nat}{J:JW}{ys:List Int}(A:100<F)(K:VJ n J)(O:ys.length<100)(h:El 13 ys):f106 F J ys=some (some (J.1,J.2,D3 J),0):=by
 refine Af.DX ?_;unfold f106;refine Af.be (QZ A K) ?_;refine Af.neg (by simp) ?_;refine Af.b (S:=fun q=>q=Sum.inr ()) ?_ ?_
 ·refine Af.upto ys.length (fun i s=>s=(i:Int)) rfl (by omega) ?_ ?_
  ·rintro i s hi rfl;unfold HO;have U:=h ys[i] (List.getElem_mem hi);refine Af.pos (by omega) ?_;refine Af.Bv (m:=i) rfl hi ?_;refine Af.be (LW F _ _ _) ?_;refine Af.neg (by simp;omega) ?_;refine Af.A5 ((i+1:Nat):Int) (by simp) (by omega) (by omega) ?_;exact Af.intro rfl
  ·rintro s rfl;unfold HO;exact Af.neg (by omega) (Af.intro ⟨_,rfl,rfl⟩)
 ·rintro q rfl;rw [Sum.elim_inr];refine Af.be (QK A K) ?_;exact Af.intro rfl
theorem MA{F n a:Nat}{J:JW}(K:100<F)(A:VJ n J)(U:a<13):f51 F J (a:Int)=some (BO (AG J a) 16,0):=by
 have W:=I0 A.le;have Z:=Gx A a;refine Af.DX ?_;unfold f51;refine Af.be (I3 K A (by simp) (fun x O=>by simp at O;subst O;omega)) ?_;refine Af.neg (by simp) ?_;refine Af.be (b:=(J.1,J.2,D3 J)) rfl ?_;refine Af.be (De (m:=a) rfl (IW J U)) ?_;refine Af.be (I8 K (by omega)) ?_;exact Af.intro rfl
abbrev Du:=List Int×Int×Nat
def BG(k:Nat)(b:Du):Prop:=0≤b.2.1∧b.2.1≤(k:Int)
theorem BG.mono{k k':Nat}{b:Du}(h:BG k b)(A:k≤k'):BG k' b:=⟨h.1,by have:=h.2;omega⟩
theorem Pc{F k:Nat}{b:Du}(hb:BG k b)(A:k<1000000):Af (f100 F b) (fun r=>r.1<2 ^ 64∧BG (k+1) r.2):=by
 obtain⟨K,O⟩:=hb;unfold f100;refine Af.A5 (b.2.1+1) rfl (by omega) (by omega) ?_;have key:∀x:Nat,(x % 2 ^ 64)>>>11<2 ^ 64:=fun x=>Nat.lt_of_le_of_lt (Nat.shiftRight_le _ _) (Nat.mod_lt _ (Nat.two_pow_pos 64));refine Af.b (S:=fun _=>True) ?_ ?_
 ·refine Af.ite (fun h=>?_) (fun h=>?_)
  ·refine Af.A5 b.2.1 (by omega) (by omega) (by omega) ?_;refine Af.Bv (m:=b.2.1.toNat) (by omega) (by omega) ?_;exact Af.intro trivial
  ·exact Af.intro trivial
 ·intro x _;exact Af.intro ⟨key _,by simp only;omega,by simp only;omega⟩
theorem Om{a:Nat}(h:a<2 ^ 62):F5 a=(a:Int):=by
 unfold F5;exact FI (by omega)
theorem FR{F k:Nat}{b:Du}{m:Int}(hb:BG k b)(K:k<1000000)(hm:m<1000000):Af (f41 F b m) (fun r=>0≤r.1∧(r.1≤m∨r.1=0)∧BG (k+1) r.2):=by
 unfold f41;refine Af.b (Pc hb K) ?_;rintro⟨x,Z⟩ ⟨aa,A⟩;refine Af.ite (fun h=>?_) (fun h=>?_)
 ·exact Af.intro ⟨by simp,.inr rfl,A⟩
 ·have O:BQ m=m.toNat:=by unfold BQ;omega
  have U:(BQ m+1) % 2 ^ 64=m.toNat+1:=by rw [O];omega
  have W:x % (m.toNat+1)<m.toNat+1:=Nat.mod_lt _ (by omega);refine Af.be (b:=x % (m.toNat+1)) (by rw [U];unfold Ij;rw [if_neg (by omega)]) ?_;refine Af.intro ?_;simp only;generalize x % (m.toNat+1)=z at W ⊢;rw [Om (by omega)];exact⟨by omega,.inl (by omega),A⟩
theorem Mz{F k:Nat}{b:Du}{lo hi:Int}(hb:BG k b)(K:k<1000000)(W:0≤lo)(Z:lo≤hi)(aa:hi<1000):Af (f96 F b lo hi) (fun r=>lo≤r.1∧r.1≤hi∧BG (k+1) r.2):=by
 unfold f96;refine Af.A5 (hi - lo) rfl (by omega) (by omega) ?_;refine Af.b (FR hb K (by omega)) ?_;rintro⟨x,ab⟩ ⟨O,U,A⟩;simp only at O U A ⊢;refine Af.A5 (lo+x) rfl (by omega) (by omega) ?_;exact Af.intro ⟨by simp only;omega,by simp only;omega,A⟩
theorem Je{F k:Nat}{b:Du}{m:Int}(hb:BG k b)(A:k<1000000)(O:1≤m)(U:m<1000):Af (f97 F b m) (fun r=>BG (k+1) r.2):=by
 unfold f97;refine Af.A5 (m - 1) rfl (by omega) (by omega) ?_;refine Af.b (FR hb A (by omega)) ?_;rintro⟨x,W⟩ ⟨Z,aa,K⟩;exact Af.intro K
theorem QJ{F k:Nat}{b:Du}{l:List Int}(hb:BG k b)(O:k<1000000)(Z:0<l.length)(aa:l.length<1000):Af (f99 F b l) (fun r=>r.1∈l∧BG (k+1) r.2):=by
 unfold f99;refine Af.A5 ((l.length - 1:Nat):Int) (by omega) (by omega) (by omega) ?_;refine Af.b (FR hb O (by omega)) ?_;rintro⟨x,ab⟩ ⟨U,W,A⟩;simp only at U W A ⊢;have K:x.toNat<l.length:=by omega
 refine Af.Bv (m:=x.toNat) (by omega) K ?_;exact Af.intro ⟨List.getElem_mem K,A⟩
theorem PH{F:Nat}{x:Int}(A:100<F):f98 F [] x=some [x]:=by
 obtain⟨F,rfl⟩:∃k,F=k+1:=⟨F - 1,by omega⟩;refine Af.DX ?_;unfold f98;refine Af.be (b:=([],false)) ?_ ?_
 ·unfold iter;rfl
 ·refine Af.be (b:= [x]) ?_ (Af.intro rfl)
  rfl
theorem PD{F:Nat}{a x:Int}(ae:100<F):f98 F [a] x=some (if x<a then [x,a] else if x=a then [a] else [a,x]):=by
 obtain⟨F,rfl⟩:∃k,F=k+2:=⟨F - 2,by omega⟩;refine Af.DX ?_;unfold f98;have O:Aw 1=some 1:=rfl;have U:ix [a] 0=some a:=rfl;have r0:room ([]:List Int) x=some [x]:=if_pos (by simp);have aa:room ([]:List Int) a=some [a]:=if_pos (by simp);have ab:room [x] a=some [x,a]:=if_pos (by simp);have ac:room [a] x=some [a,x]:=if_pos (by simp);have step:Gn (F+2) [a] x ([],false,0)=some (.more (if x<a then([x,a],true,1) else if x=a then([x],true,1) else([a],false,1))):=by
  unfold Gn;rcases Int.lt_trichotomy x a with h | h | h
  ·have W:x≤a:=by omega
   have Z:a≠x:=by omega
   simp [U,h,W,Z,r0,ab,O]
  ·subst h;simp [U,r0,O]
  ·have W:¬x≤a:=by omega
   have Z:a≠x:=by omega
   have A:¬x<a:=by omega
   have K:¬x=a:=by omega
   simp [U,W,Z,A,K,aa,O]
 have last:∀(o:List Int) (b:Bool),Gn (F+2) [a] x (o,b,1)=some (.done (o,b)):=by
  intro o b;unfold Gn;simp
 rcases Int.lt_trichotomy x a with h | h | h
 ·rw [if_pos h] at step;refine Af.be (b:=([x,a],true)) ?_ ?_
  ·unfold iter;rw [step];simp only;unfold iter;rw [last]
  ·rw [if_pos h];exact Af.be (b:= [x,a]) (by simp) (Af.intro rfl)
 ·subst h;rw [if_neg (by omega),if_pos rfl] at step;refine Af.be (b:=([x],true)) ?_ ?_
  ·unfold iter;rw [step];simp only;unfold iter;rw [last]
  ·rw [if_neg (show ¬x<x by omega),if_pos (rfl:x=x)];exact Af.be (b:= [x]) (by simp) (Af.intro rfl)
 ·have A:¬x<a:=by omega
  have K:¬x=a:=by omega
  rw [if_neg A,if_neg K] at step;refine Af.be (b:=([a],false)) ?_ ?_
  ·unfold iter;rw [step];simp only;unfold iter;rw [last]
  ·rw [if_neg A,if_neg K];exact Af.be (b:= [a,x]) (by simp [ac]) (Af.intro rfl)
theorem ME{F n:Nat}{l:List Int}{x:Int}(K:100<F)(O:El n l)(U:l.length≤1)(W:0≤x∧x<(n:Int)):Af (f98 F l x) (fun r=>VL n r∧0<r.length∧r.length≤l.length+1∧∀y∈r,y=x∨y∈l):=by
 match l,U with
 | [],_=>
  rw [PH K];exact Af.intro ⟨⟨by simp,fun y A=>by simp at A;subst A;exact W,by simp⟩,by simp,by simp,fun y A=>by simpa using A⟩
 | [a],_=>
  rw [PD K];have Z:=O a (by simp);refine Af.intro ?_;rcases Int.lt_trichotomy x a with h | h | h
  ·rw [if_pos h];exact⟨⟨by simp,fun y A=>by simp at A;rcases A with rfl | rfl <;> assumption,by simpa using h⟩,by simp,by simp,fun y A=>by simpa using A⟩
  ·rw [if_neg (by omega),if_pos h];exact⟨⟨by simp,fun y A=>by simp at A;subst A;exact Z,by simp⟩,by simp,by simp,fun y A=>by simp at A;subst A;simp⟩
  ·rw [if_neg (by omega),if_neg (by omega)];exact⟨⟨by simp,fun y A=>by simp at A;rcases A with rfl | rfl <;> assumption,by simpa using h⟩,by simp,by simp,fun y A=>by simp at A;rcases A with rfl | rfl <;> simp⟩
 | a::b::l,h=>simp at h
structure PJ (n i:Nat) (N A:List (List Int)):Prop where
 l1:N.length=i
 l2:A.length=i
 nx:∀(q:Nat) l,N[q]? =some l→VL n l∧0<l.length
 fl:∀(q:Nat) l,A[q]? =some l→VL n l∧(q:Int) ∉ l
theorem PJ.snoc{n i:Nat}{N O:List (List Int)}{a b:List Int}(h:PJ n i N O)(U:VL n a∧0<a.length)(hb:VL n b∧(i:Int) ∉ b):PJ n (i+1) (N++ [a]) (O++ [b]):=by
 refine⟨by simp [h.l1],by simp [h.l2],fun q l A=>?_,fun q l A=>?_⟩
 ·rcases Nat.lt_or_ge q N.length with K | K
  ·rw [List.getElem?_append_left K] at A;exact h.nx q l A
  ·rw [List.getElem?_append_right K] at A;have:q - N.length=0:=by
    rcases Nat.eq_zero_or_pos (q - N.length) with e | e
    ·exact e
    ·rw [List.getElem?_eq_none (by simp;omega)] at A;cases A
   rw [this] at A;simp at A;subst A;exact U
 ·rcases Nat.lt_or_ge q O.length with K | K
  ·rw [List.getElem?_append_left K] at A;exact h.fl q l A
  ·rw [List.getElem?_append_right K] at A;have e:q - O.length=0:=by
    rcases Nat.eq_zero_or_pos (q - O.length) with e | e
    ·exact e
    ·rw [List.getElem?_eq_none (by simp;omega)] at A;cases A
   rw [e] at A;simp at A;subst A;have:q=i:=by have:=h.l2;omega
   subst this;exact hb
theorem N8{F n i k:Nat}{ab:Int×Du}{ac:(List (List Int))×(List (List Int))×(List Int)×Int×Nat×Int}{b:Du}{c:Int}(an:100<F)(ae:ab.1=(n:Int))(ag:ac.2.2.2.2.2=(i:Int))(hi:i<n)(au:n≤8)(hb:BG k b)(av:k<1000)(aw:c=0∨c=1∨c=2):
  Af (iter (H3 F ab ac) F (b.1,b.2.1,b.2.2,[],c)) (fun r=>VL n r.1∧(i:Int) ∉ r.1∧BG (k+10) r.2):=by
 refine Af.iter (fun m st=>∃(l:List Int) (A:Du),st=(A.1,A.2.1,A.2.2,l,(m:Int))∧m≤2∧VL n l∧(i:Int) ∉ l∧l.length≤2 - m∧BG (k+10 - 4*m) A) ?_ (m:=c.toNat) ⟨[],b,by simp;omega,by omega,⟨by simp,fun x ao=>by simp at ao,by simp⟩,by simp,by simp,hb.mono (by omega)⟩ (by omega);rintro m st ⟨l,A,rfl,ay,W,Z,hlen,ah⟩;unfold H3;refine Af.b (S:=fun q=>q=decide (0<m∧1<n)) ?_ ?_
 ·refine Af.ite (fun h=>?_) (fun h=>?_)
  ·refine Af.intro ?_;rw [ae];exact decide_eq_decide.2 ⟨fun ai=>⟨by simp only at h;omega,by omega⟩,fun ai=>by omega⟩
  ·refine Af.intro ?_;have:¬0<m:=by simp only at h;omega
   simp [this]
 ·rintro q rfl;refine Af.ite (fun h=>?_) (fun h=>?_)
  ·have ai:0<m∧1<n:=of_decide_eq_true h;refine Af.A5 ((i:Int) - 1) (by rw [ag]) (by omega) (by omega) ?_;refine Af.b (FR (F:=F) (b:=(A.1,A.2.1,A.2.2)) (m:=max 0 ((i:Int) - 1)) ah (by omega) (by omega)) ?_;rintro⟨y,az⟩ ⟨aj,ap,ak⟩;simp only at aj ap ak ⊢;refine Af.b (Je (F:=F) ak (by omega) (by omega) (by omega)) ?_;rintro⟨o,aA⟩ aa;simp only at aa ⊢;refine Af.b (S:=fun r=>0≤r.1∧r.1<(n:Int)∧BG (k+10 - 4*m+1+1+1) r.2) ?_ ?_
   ·refine Af.ite (fun _=>?_) (fun _=>?_)
    ·refine Af.A5 ((n:Int) - 1) (by rw [ae]) (by omega) (by omega) ?_;refine Af.b (FR (F:=F) aa (by omega) (by omega)) ?_;rintro⟨z,al⟩ ⟨K,O,U⟩;exact Af.intro ⟨K,by simp only at K O ⊢;omega,U⟩
    ·exact Af.intro ⟨aj,by simp only;omega,BG.mono aa (by omega)⟩
   ·rintro⟨z,al⟩ ⟨K,O,U⟩;simp only at K O U ⊢;refine Af.b (S:=fun r=>VL n r∧(i:Int) ∉ r∧r.length≤l.length+1) ?_ ?_
    ·rw [ag];refine Af.ite (fun aq=>?_) (fun _=>?_)
     ·refine Af.b (ME (F:=F) an W.inr (by omega) ⟨K,O⟩) ?_;rintro r ⟨v1,v2,am,v4⟩;refine Af.intro ⟨v1,fun ar=>?_,am⟩;rcases v4 _ ar with e | e
      ·exact aq e.symm
      ·exact Z e
     ·exact Af.intro ⟨W,Z,by omega⟩
    ·rintro r ⟨v1,v2,am⟩;refine Af.A5 ((m - 1:Nat):Int) (by omega) (by omega) (by omega) ?_;exact Af.intro ⟨m - 1,by omega,r,al,rfl,by omega,v1,v2,by omega,U.mono (by omega)⟩
  ·exact Af.intro ⟨W,Z,ah.mono (by omega)⟩
theorem Qq{F k mx:Nat}{b:Du}(ai:100<F)(hb:BG k b)(aC:k<100)(aD:1≤mx)(aE:mx≤8):Af (f39 F b (mx:Int)) (fun r=>(∃n,n≤mx∧VJ n r.1)∧BG (k+301) r.2):=by
 unfold f39;refine Af.b (Mz (F:=F) hb (by omega) (by omega) (by omega) (by omega)) ?_;rintro⟨aj,av⟩ ⟨n1,aw,ak⟩;simp only at n1 aw ak;obtain⟨n,rfl⟩:∃n:Nat,aj=(n:Int):=⟨aj.toNat,by omega⟩;have aF:1≤n:=by omega
 have al:n≤8:=by omega
 refine Af.b (S:=fun r=>PJ n n r.2.2.2.1 r.2.2.2.2∧BG (k+301) (r.1,r.2.1,r.2.2.1)) ?_ ?_
 ·refine Af.upto n (fun i st=>∃(N K:List (List Int)) (W:Du),st=(N,K,W.1,W.2.1,W.2.2,(i:Int))∧PJ n i N K∧BG (k+1+30*i) W) ⟨[],[],av,rfl,⟨rfl,rfl,fun q l aa=>by simp at aa,fun q l aa=>by simp at aa⟩,ak⟩ (by omega) ?_ ?_
  ·rintro i st hi ⟨N,K,Z,rfl,A,ab⟩;unfold HX;refine Af.pos (by simp only;omega) ?_;refine Af.A5 ((n:Int) - 1) rfl (by omega) (by omega) ?_;refine Af.A5 ((i+1:Nat):Int) (by simp) (by omega) (by omega) ?_;refine Af.b (Je (F:=F) (b:=(Z.1,Z.2.1,Z.2.2)) ab (by omega) (by omega) (by omega)) ?_;rintro⟨o,aG⟩ ac;simp only at ac ⊢;have am:El n [min ((n:Int) - 1) ((i+1:Nat):Int)]:=fun x O=>by simp at O;subst O;omega
   refine Af.b (S:=fun r=>VL n r.1∧0<r.1.length∧BG (k+1+30*i+2) r.2) ?_ ?_
   ·refine Af.ite (fun _=>?_) (fun _=>?_)
    ·refine Af.A5 ((n:Int) - 1) rfl (by omega) (by omega) ?_;refine Af.b (Mz (F:=F) ac (by omega) (by omega) (by omega) (by omega)) ?_;rintro⟨y,an⟩ ⟨ae,ag,U⟩;simp only at ae ag U ⊢;refine Af.b (ME (F:=F) ai am (by simp) ⟨by omega,by omega⟩) ?_;rintro r ⟨v1,v2,aH,v4⟩;exact Af.intro ⟨v1,v2,U⟩
    ·exact Af.intro ⟨⟨by simp,am,by simp⟩,by simp,BG.mono ac (by omega)⟩
   ·rintro⟨nx,an⟩ ⟨w1,w2,w3⟩;simp only at w1 w2 w3 ⊢;refine Af.b (Je (F:=F) (b:=an) w3 (by omega) (by omega) (by omega)) ?_;rintro⟨aI,aJ⟩ ah;simp only at ah ⊢;refine Af.b (S:=fun r=>VL n r.1∧0<r.1.length∧BG (k+1+30*i+4) r.2) ?_ ?_
    ·refine Af.ite (fun _=>?_) (fun _=>?_)
     ·refine Af.A5 ((n:Int) - 1) rfl (by omega) (by omega) ?_;refine Af.b (FR (F:=F) ah (by omega) (by omega)) ?_;rintro⟨y,ao⟩ ⟨ae,ag,U⟩;simp only at ae ag U ⊢;exact Af.intro ⟨⟨by simp,fun x O=>by simp at O;subst O;omega,by simp⟩,by simp,U⟩
     ·exact Af.intro ⟨w1,w2,BG.mono ah (by omega)⟩
    ·rintro⟨ap,ao⟩ ⟨u1,aq,ar⟩;simp only at u1 aq ar ⊢;refine Af.b (QJ (F:=F) (b:=ao) ar (by omega) (by simp) (by simp)) ?_;rintro⟨c,ay⟩ ⟨au,c2⟩;simp only at au c2 ⊢;have az:c=0∨c=1∨c=2:=by simp at au;omega
     refine Af.b (N8 (F:=F) (b:=ay) ai rfl rfl hi al c2 (by omega) az) ?_;rintro⟨fl,aA⟩ ⟨t1,t2,t3⟩;simp only at t1 t2 t3 ⊢;have aK:=A.l1;have aL:=A.l2;refine Af.be (b:=N++ [ap]) (if_pos (by simp;omega)) ?_;refine Af.be (b:=K++ [fl]) (if_pos (by simp;omega)) ?_;refine Af.A5 ((i+1:Nat):Int) (by simp) (by omega) (by omega) ?_;exact Af.intro ⟨N++ [ap],K++ [fl],aA,rfl,A.snoc ⟨u1,aq⟩ ⟨t1,t2⟩,t3.mono (by omega)⟩
  ·rintro st ⟨N,K,Z,rfl,A,ab⟩;unfold HX;refine Af.neg (by simp) (Af.intro ⟨_,rfl,A,ab.mono (by omega)⟩)
 ·rintro⟨aM,aN,aO,N,K⟩ ⟨A,aB⟩;refine Af.intro ⟨⟨n,by omega,?_⟩,aB⟩;exact⟨by omega,al,A.l1,A.l2,A.nx,A.fl⟩
end Pal
namespace Pal
open Go Go.Conc Go.Proofs
open Go.Proofs.Tryz
end Pal
namespace Pal
end Pal
namespace Pal
open Go Go.Conc Go.Proofs
open Go.Proofs.Tryz
def GV(fuel:Nat)(x14:((List (List Int))×(List (List Int)))×((List Int)×Int×Nat))(K:(List Int)×Int)(U:(List Int)×Int)(O:Bool×Int)(A:Bool×Int):Option (AU (Bool×Int) (Bool)):=
 (ix K.1 (O.2)).bind fun W=>
 (ix x14.1.2 (W)).bind fun Z=>
 if A.2<((Z).length:Int) then(
  Option.bind (
   if A.1=true then(
    some true
   ) else(
    (ix K.1 (O.2)).bind fun aa=>
    (ix x14.1.2 (aa)).bind fun ab=>
    (ix ab (A.2)).bind fun ac=>
    (f53 fuel U.1 ac).bind fun ae=>
    some ae
   )
  ) fun ag=>
  (Aw (A.2+1)).bind fun ah=>
  some (.more (ag,ah))
 ) else(
  some (.done A.1)
 )
def GX(fuel:Nat)(x14:((List (List Int))×(List (List Int)))×((List Int)×Int×Nat))(K:(List Int)×Int)(O:(List Int)×Int)(A:Bool×Int):Option (AU (Bool×Int) ((Bool)⊕(Bool))):=
 if A.2<((K.1).length:Int) then(
  (ix K.1 (A.2)).bind fun U=>
  Option.bind (
   if U<0 then(
    some true
   ) else(
    (ix K.1 (A.2)).bind fun W=>
    some (decide (((x14.1.2).length:Int)≤W))
   )
  ) fun Z=>
  if Z=true then(
   some (.done (Sum.inl false))
  ) else(
   Option.bind (
    if A.1=true then(
     some true
    ) else(
     (ix K.1 (A.2)).bind fun aa=>
     (f53 fuel O.1 aa).bind fun ab=>
     some ab
    )
   ) fun ac=>
   Option.bind (iter (GV fuel x14 K O A) fuel (ac,0)) fun ae=>
   (Aw (A.2+1)).bind fun ag=>
   some (.more (ae,ag))
  )
 ) else(
  some (.done (Sum.inr A.1))
 )
def H5(fuel:Nat)(x14:((List (List Int))×(List (List Int)))×((List Int)×Int×Nat))(W:Int×((List Int)×Int×Nat))(O:Int×Int)(Z:(List Int)×Int)(A:Int):Option (AU (Int) ((Bool)⊕(Unit))):=
 if A≤12 then(
  (f51 fuel x14.1 A).bind fun U=>
  (f59 fuel x14.1 W.1 A).bind fun K=>
  Option.bind (
   if U.2≠0 then(
    some true
   ) else(
    some (decide (K.2≠0))
   )
  ) fun aa=>
  Option.bind (
   if aa=true then(
    some true
   ) else(
    if K.1=true then(
     some (decide (A<O.1))
    ) else(
     some false
    )
   )
  ) fun ab=>
  Option.bind (
   if ab=true then(
    some true
   ) else(
    if A=O.1 then(
     some (!K.1)
    ) else(
     some false
    )
   )
  ) fun ac=>
  if ac=true then(
   some (.done (Sum.inl false))
  ) else(
   Option.bind (iter (GX fuel x14 Z U) fuel (false,0)) fun ae=>
   Sum.elim (fun r=>some (.done (Sum.inl r))) (fun ag=>
   if((ag) != (K.1))=true then(
    some (.done (Sum.inl false))
   ) else(
    (Aw (A+1)).bind fun ah=>
    some (.more ah)
   )
   ) ae
  )
 ) else(
  some (.done (Sum.inr ()))
 )
def f14(fuel:Nat)(p0:List Int):Option (Bool):=
 (f23 fuel p0).bind fun U=>
 (f39 fuel U 7).bind fun x14=>
 (f41 fuel x14.2 12).bind fun A=>
 (f57 fuel x14.1 A.1).bind fun K=>
 (f51 fuel x14.1 A.1).bind fun O=>
 Option.bind (
  if K.2≠0 then(
   some true
  ) else(
   some (decide (O.2≠0))
  )
 ) fun W=>
 Option.bind (
  if W=true then(
   some true
  ) else(
   some (decide (K.1<0))
  )
 ) fun Z=>
 Option.bind (
  if Z=true then(
   some true
  ) else(
   some (decide (A.1<K.1))
  )
 ) fun aa=>
 if aa=true then(
  some false
 ) else(
  Option.bind (iter (H5 fuel x14 A K O) fuel 0) fun ab=>
  Sum.elim (fun r=>some r) (fun ae=>
  (f22 fuel).bind fun ac=>
  some ac
  ) ab
 )
theorem Pu{E H:LH}{bF:Option Addr}{c2:Nat}{p0:List Int}(dg:Ar rI E bF c2 (p0)){fuel:Nat}{r:Bool}(bG:f14 fuel p0=some r):(Ce Tryz.prog).ok (GO Tryz.prog (fun v _=>v= .bool r)) (G (Frame.enter Tryz.prog 14 ([.slice bF (p0).length c2]:List Value).toArray .normal) []) (mk E H []):=by
 refine NZ func14 rfl rfl (Nat.le_of_ble_eq_true rfl) ?_;have dh:Az E H [[]]:=trivial;unfold f14 at bG;obtain⟨fG,di,dj⟩:=bs bG;refine JL.go 7 rfl ?_;refine JS.cl (Rt dg di) rfl rfl (Ay func23 rfl) dh ?_;rintro _ fH _ fI ⟨bH,fJ,fK,rfl,rfl,dk⟩ dl;obtain⟨x14,dm,dn⟩:=bs dj;refine JL.go 5 rfl ?_;refine JS.Bw 1 (Rr dk dm) rfl rfl (Ay func39 rfl) dl rfl ?_;rintro _ fL _ fM ⟨bI,bJ,bK,bL,fN,fO,rfl,rfl,aQ,aE,dp⟩ dq;obtain⟨A,dr,dt⟩:=bs dn;refine JL.go 1 rfl ?_;refine JS.Bw 1 (FW dp dr) rfl rfl (Ay func41 rfl) dq rfl ?_;rintro _ fP _ aw ⟨bM,bN,rfl,rfl,fQ⟩ du;refine JS.norm (S':= [[],[(bH,.cells #[.slice bM (A.2.1).length bN,iV A.2.2.1,.int .u64 ((A.2.2.2:Nat):Int)] 92 (0,0))]]) rfl du fun dv=>?_;refine JS.alloc rfl rfl rfl dv (AN type24) fun O dw=>?_;refine JS.st (v:= .agg #[.slice bI (x14.1.1).length bJ,.slice bK (x14.1.2).length bL]) (off:=0) 2 dw (Ah type24) rfl rfl rfl rfl fun dx=>?_;refine JS.Bi 2 dx rfl fun dy ay aA dz=>?_;replace aA:At dy O 0 [.slice bI (x14.1.1).length bJ,.slice bK (x14.1.2).length bL]:=aA;refine JL.go 4 rfl ?_;refine JL.Bt aA (Ao underlying24) (Ah type24) rfl rfl ?_;obtain⟨K,dA,dB⟩:=bs dt;refine JL.go 1 rfl ?_;refine JS.cl (MO (aQ.mono (aw.trans ay)) (aE.mono (aw.trans ay)) dA) rfl rfl (Ay func57 rfl) dz ?_;rintro _ fR _ ai ⟨rfl,rfl⟩ dC;refine JS.norm (S':= [[],[(bH,.cells #[.slice bM (A.2.1).length bN,iV A.2.2.1,.int .u64 ((A.2.2.2:Nat):Int)] 92 (0,0))],[],[]]) rfl dC fun dD=>?_;refine JL.go 8 rfl ?_;refine JL.Bt (aA.mono ai) (Ao underlying24) (Ah type24) rfl rfl ?_;obtain⟨U,dE,dF⟩:=bs dB;refine JL.go 1 rfl ?_;refine JS.cl (Jp (aQ.mono ((aw.trans ay).trans ai)) (aE.mono ((aw.trans ay).trans ai)) dE) rfl rfl (Ay func51 rfl) dD ?_;rintro _ aU _ av ⟨Z,aa,rfl,rfl,aJ⟩ bO;obtain⟨bP,bQ,dG⟩:=bs dF;refine JL.go 12 rfl ?_;refine JL.By [6,7,8,9,10,11,12,13,14] (fun L s=>∃(aK:LH),Jm aU H aK [] [(4,.pointer (some ⟨O,0,none⟩)),(5,iV A.1),(6,iV K.1),(8,.slice Z (U.1).length aa),(41,.bool bP)] L s) ?_ ?_
 ·rintro _ _ ⟨aK,rfl,rfl,ab,bR⟩;obtain⟨bS,bT,dH⟩:=bs dG;refine JL.go 1 rfl ?_;refine JL.By [10,11,12,13,14] (fun L s=>∃(aL:LH),Jm aK H aL [] [(4,.pointer (some ⟨O,0,none⟩)),(5,iV A.1),(6,iV K.1),(8,.slice Z (U.1).length aa),(45,.bool bS)] L s) ?_ ?_
  ·rintro _ _ ⟨aL,rfl,rfl,ac,bU⟩;obtain⟨bV,bW,bX⟩:=bs dH;refine JL.go 1 rfl ?_;refine JL.By [] (fun L s=>∃(aM:LH),Jm aL H aM [] [(4,.pointer (some ⟨O,0,none⟩)),(5,iV A.1),(6,iV K.1),(8,.slice Z (U.1).length aa),(50,.bool bV)] L s) ?_ ?_
   ·rintro _ _ ⟨aM,rfl,rfl,ae,dI⟩;refine JL.done ?_;refine JL.split (t:=bV) rfl (fun aV=>?_) (fun aV=>?_)
    ·have bY:=bX;rw [if_pos aV] at bY;refine JL.go 4 rfl ?_;obtain rfl:=oi bY;exact JL.DV rfl (JO.end (v:= .bool false) rfl (by decide+kernel) func14 rfl rfl rfl)
    ·have bZ:=bX;rw [if_neg (by rw [aV];exact Bool.false_ne_true)] at bZ;obtain⟨b0,dJ,aR⟩:=bs bZ;refine JL.go 6 rfl ?_;refine JL.join (fun L s=>∃(b1:Unit) (b2:LH),b0=Sum.inr b1∧Jm aM H b2 [] [] L s) ?_ ?_
     ·rintro _ _ ⟨b1,b2,rfl,rfl,rfl,fS,dK⟩;have dL:=elim_inr aR;obtain⟨dM,dN,dO⟩:=bs dL;refine JL.go 2 rfl ?_;refine JS.cl (Rs dN) rfl rfl (Ay func22 rfl) dK ?_;rintro _ fT _ fU ⟨rfl,rfl⟩ fV;refine JL.go 2 rfl ?_;obtain rfl:=oi dO;exact JL.DV rfl (JO.end (v:= .bool dM) rfl (by decide+kernel) func14 rfl rfl rfl)
     ·intro dP;refine JL.block ?_;refine JL.wk [(4,.pointer (some ⟨O,0,none⟩)),(5,iV A.1),(6,iV K.1),(8,.slice Z (U.1).length aa),(10,iV 0)] rfl ?_;refine JL.Bg dJ (fun L s ag=>∃(aW:LH),Jm aM H aW [] [(4,.pointer (some ⟨O,0,none⟩)),(5,iV A.1),(6,iV K.1),(8,.slice Z (U.1).length aa),(10,iV ag)] L s) ⟨aM,rfl,rfl,(Le.refl _),dI⟩ ?_;rintro _ _ ag ⟨aW,rfl,rfl,W,b3⟩ aS ⟨fW,aF⟩ dQ;have aX:=aF;unfold H5 at aX;refine JL.go 6 rfl ?_;refine JL.ifs (p:=ag≤12) rfl (fun aY=>?_) (fun aY=>?_)
      ·have b4:=aX;rw [if_pos aY] at b4;refine JL.go 5 rfl ?_;refine JL.Bt (aA.mono (((((ai.trans av).trans ab).trans ac).trans ae).trans W)) (Ao underlying24) (Ah type24) rfl rfl ?_;obtain⟨am,dR,dS⟩:=bs b4;refine JL.go 1 rfl ?_;refine JS.cl (Jp (aQ.mono (((((((aw.trans ay).trans ai).trans av).trans ab).trans ac).trans ae).trans W)) (aE.mono (((((((aw.trans ay).trans ai).trans av).trans ab).trans ac).trans ae).trans W)) dR) rfl rfl (Ay func51 rfl) b3 ?_;rintro _ fX _ aj ⟨ar,au,rfl,rfl,b5⟩ dT;refine JL.go 8 rfl ?_;refine JL.Bt (aA.mono ((((((ai.trans av).trans ab).trans ac).trans ae).trans W).trans aj)) (Ao underlying24) (Ah type24) rfl rfl ?_;obtain⟨ah,dU,dV⟩:=bs dS;refine JL.go 2 rfl ?_;refine JS.cl (Rl (aQ.mono ((((((((aw.trans ay).trans ai).trans av).trans ab).trans ac).trans ae).trans W).trans aj)) (aE.mono ((((((((aw.trans ay).trans ai).trans av).trans ab).trans ac).trans ae).trans W).trans aj)) dU) rfl rfl (Ay func59 rfl) dT ?_;rintro _ aZ _ an ⟨rfl,rfl⟩ dW;refine JS.norm (S':= [[],[]]) rfl dW fun b6=>?_;obtain⟨b7,b8,dX⟩:=bs dV;refine JL.go 12 rfl ?_;refine JL.By [6,7,8,9,10,11,12,13,14,15,16,17,18,19,20,21,22] (fun L s=>∃(aG:LH),Jm aZ H aG [] [(4,.pointer (some ⟨O,0,none⟩)),(5,iV A.1),(6,iV K.1),(8,.slice Z (U.1).length aa),(10,iV ag),(11,.slice ar (am.1).length au),(13,.bool ah.1),(73,.bool b7)] L s) ?_ ?_
       ·rintro _ _ ⟨aG,rfl,rfl,ao,a0⟩;obtain⟨b9,ca,dY⟩:=bs dX;refine JL.go 1 rfl ?_;refine JL.By [14,15,16,17,18,19,20,21,22] (fun L s=>∃(aH:LH),Jm aG H aH [] [(4,.pointer (some ⟨O,0,none⟩)),(5,iV A.1),(6,iV K.1),(8,.slice Z (U.1).length aa),(10,iV ag),(11,.slice ar (am.1).length au),(13,.bool ah.1),(81,.bool b9)] L s) ?_ ?_
        ·rintro _ _ ⟨aH,rfl,rfl,ap,a1⟩;obtain⟨cb,cc,cd⟩:=bs dY;refine JL.go 1 rfl ?_;refine JL.By [] (fun L s=>∃(aN:LH),Jm aH H aN [] [(4,.pointer (some ⟨O,0,none⟩)),(5,iV A.1),(6,iV K.1),(8,.slice Z (U.1).length aa),(10,iV ag),(11,.slice ar (am.1).length au),(13,.bool ah.1),(90,.bool cb)] L s) ?_ ?_
         ·rintro _ _ ⟨aN,rfl,rfl,aq,dZ⟩;refine JL.done ?_;refine JL.split (t:=cb) rfl (fun a2=>?_) (fun a2=>?_)
          ·have ce:=cd;rw [if_pos a2] at ce;refine JL.go 4 rfl ?_;obtain rfl:=oi ce;obtain rfl:=aS _ aF;have ea:=elim_inl aR;obtain rfl:=oi ea;exact JL.DV rfl (JO.end (v:= .bool false) rfl (by decide+kernel) func14 rfl rfl rfl)
          ·have cf:=cd;rw [if_neg (by rw [a2];exact Bool.false_ne_true)] at cf;obtain⟨cg,eb,ci⟩:=bs cf;refine JL.go 10 rfl ?_;refine JL.join (fun L s=>∃(aO:Bool) (a3:LH),cg=Sum.inr aO∧Jm aN H a3 [] [(4,.pointer (some ⟨O,0,none⟩)),(5,iV A.1),(6,iV K.1),(8,.slice Z (U.1).length aa),(10,iV ag),(13,.bool ah.1),(15,.bool aO)] L s) ?_ ?_
           ·rintro _ _ ⟨aO,a3,rfl,rfl,rfl,ec,ed⟩;have ck:=elim_inr ci;refine JL.go 4 rfl ?_;refine JL.Y (v:= .bool (((aO) != (ah.1)))) rfl (fun ρ h=>Yl.Sd underlying4 (h _ _ rfl) (h _ _ rfl)) ?_;refine JL.done ?_;refine JL.split (t:=((aO) != (ah.1))) rfl (fun a4=>?_) (fun a4=>?_)
            ·have cm:=ck;rw [if_pos a4] at cm;refine JL.go 4 rfl ?_;obtain rfl:=oi cm;obtain rfl:=aS _ aF;have ee:=elim_inl aR;obtain rfl:=oi ee;exact JL.DV rfl (JO.end (v:= .bool false) rfl (by decide+kernel) func14 rfl rfl rfl)
            ·have cn:=ck;rw [if_neg (by rw [a4];exact Bool.false_ne_true)] at cn;obtain⟨ef,eg,eh⟩:=bs cn;refine JL.go 4 rfl ?_;refine JL.Y rfl (fun ρ h=>Yl.A1 (h _ _ rfl) (h _ _ rfl) eg) ?_;refine JL.go 2 rfl ?_;obtain rfl:=oi eh;exact JL.kw (dQ _ _ ef ⟨a3,rfl,rfl,((((((W.trans aj).trans an).trans ao).trans ap).trans aq).trans ec),ed⟩ aF) rfl
           ·intro ei;refine JL.block ?_;refine JL.wk [(4,.pointer (some ⟨O,0,none⟩)),(5,iV A.1),(6,iV K.1),(8,.slice Z (U.1).length aa),(10,iV ag),(11,.slice ar (am.1).length au),(13,.bool ah.1),(15,.bool false),(16,iV 0)] rfl ?_;refine JL.Bg eb (fun L s ak=>∃(aB:LH),Jm aN H aB [] [(4,.pointer (some ⟨O,0,none⟩)),(5,iV A.1),(6,iV K.1),(8,.slice Z (U.1).length aa),(10,iV ag),(11,.slice ar (am.1).length au),(13,.bool ah.1),(15,.bool ak.1),(16,iV ak.2)] L s) ⟨aN,rfl,rfl,(Le.refl _),dZ⟩ ?_;rintro _ _ ak ⟨aB,rfl,rfl,al,a5⟩ co ⟨fY,aT⟩ ej;have a6:=aT;unfold GX at a6;refine JL.go 5 rfl ?_;refine JL.Y rfl (fun ρ h=>Yl.len rfl underlying28 (h _ _ rfl)) ?_;refine JL.go 2 rfl ?_;refine JL.ifs (p:=ak.2<((U.1).length:Int)) rfl (fun a7=>?_) (fun a7=>?_)
            ·have cp:=a6;rw [if_pos a7] at cp;refine JL.go 5 rfl ?_;refine JG.CQ 15 mixed rfl (by decide+kernel) fun ht=>?_;refine JG.mv 0 ht rfl rfl ?_;refine JG.mv 1 ht rfl rfl ?_;obtain⟨cq,ek,el⟩:=bs cp;refine JG.idx 2 (aJ.mono (((((((((ab.trans ac).trans ae).trans W).trans aj).trans an).trans ao).trans ap).trans aq).trans al)) ek rfl ht (by decide+kernel) rfl rfl rfl rfl rfl underlying28 (Ah type3) ?_;rintro em eo _ rfl a8;replace a8:At aB em eo [iV cq]:=a8;refine JG.ld 3 ht 0 a8 (Ao underlying3) rfl rfl rfl rfl ?_;refine JG.mv 4 ht rfl rfl ?_;refine JG.mv 5 ht rfl rfl ?_;obtain⟨cr,ct,cu⟩:=bs el;refine Av.join 0 #[true,true,true,true,true,true,true,true,true,true,true,true,true,true,true] (fun L s=>L= [(4,.pointer (some ⟨O,0,none⟩)),(5,iV A.1),(6,iV K.1),(8,.slice Z (U.1).length aa),(10,iV ag),(11,.slice ar (am.1).length au),(13,.bool ah.1),(15,.bool ak.1),(16,iV ak.2),(111,.bool cr)]∧s=Ap aB H []) ?_ ?_
             ·rintro _ _ ⟨rfl,rfl⟩;refine Av.fin (by decide+kernel) ?_;refine JL.split (t:=cr) rfl (fun a9=>?_) (fun a9=>?_)
              ·have cv:=cu;rw [if_pos a9] at cv;refine JL.go 4 rfl ?_;obtain rfl:=oi cv;obtain rfl:=co _ aT;have ep:=elim_inl ci;obtain rfl:=oi ep;obtain rfl:=aS _ aF;have eq:=elim_inl aR;obtain rfl:=oi eq;exact JL.DV rfl (JO.end (v:= .bool false) rfl (by decide+kernel) func14 rfl rfl rfl)
              ·have cw:=cu;rw [if_neg (by rw [a9];exact Bool.false_ne_true)] at cw;obtain⟨cy,cz,er⟩:=bs cw;refine JL.go 5 rfl ?_;refine JL.By [9] (fun L s=>∃(aP:LH),Jm aB H aP [] [(4,.pointer (some ⟨O,0,none⟩)),(5,iV A.1),(6,iV K.1),(8,.slice Z (U.1).length aa),(10,iV ag),(11,.slice ar (am.1).length au),(13,.bool ah.1),(16,iV ak.2),(120,.bool cy)] L s) ?_ ?_
               ·rintro _ _ ⟨aP,rfl,rfl,aD,et⟩;obtain⟨cA,eu,ew⟩:=bs er;refine JL.go 6 rfl ?_;refine JL.join (fun L s=>∃(ba:LH),Jm aP H ba [] [(4,.pointer (some ⟨O,0,none⟩)),(5,iV A.1),(6,iV K.1),(8,.slice Z (U.1).length aa),(10,iV ag),(11,.slice ar (am.1).length au),(13,.bool ah.1),(15,.bool cA),(16,iV ak.2)] L s) ?_ ?_
                ·rintro _ _ ⟨ba,rfl,rfl,ex,ey⟩;obtain⟨ez,eA,eB⟩:=bs ew;refine JL.go 3 rfl ?_;refine JL.Y rfl (fun ρ h=>Yl.A1 (h _ _ rfl) (h _ _ rfl) eA) ?_;refine JL.go 2 rfl ?_;obtain rfl:=oi eB;exact JL.kw (ej _ _ (cA,ez) ⟨ba,rfl,rfl,((al.trans aD).trans ex),ey⟩ aT) rfl
                ·intro eC;refine JL.block ?_;refine JL.wk [(4,.pointer (some ⟨O,0,none⟩)),(5,iV A.1),(6,iV K.1),(8,.slice Z (U.1).length aa),(10,iV ag),(11,.slice ar (am.1).length au),(13,.bool ah.1),(15,.bool cy),(16,iV ak.2),(17,iV 0)] rfl ?_;refine JL.Bg eu (fun L s aI=>∃(az:LH),Jm aP H az [] [(4,.pointer (some ⟨O,0,none⟩)),(5,iV A.1),(6,iV K.1),(8,.slice Z (U.1).length aa),(10,iV ag),(11,.slice ar (am.1).length au),(13,.bool ah.1),(15,.bool aI.1),(16,iV ak.2),(17,iV aI.2)] L s) ⟨aP,rfl,rfl,(Le.refl _),et⟩ ?_;rintro _ _ aI ⟨az,rfl,rfl,aC,bb⟩ eD ⟨fZ,bc⟩ eE;have cB:=bc;unfold GV at cB;refine JL.go 2 rfl ?_;refine JG.CQ 10 mixed rfl (by decide+kernel) fun ht=>?_;refine JG.mv 0 ht rfl rfl ?_;refine JG.fd 1 ht underlying24 (Ah type22) rfl rfl rfl rfl ?_;refine JG.ld 2 ht 1 (aA.mono (((((((((((((ai.trans av).trans ab).trans ac).trans ae).trans W).trans aj).trans an).trans ao).trans ap).trans aq).trans al).trans aD).trans aC)) (Ao underlying22) rfl rfl rfl rfl ?_;refine JG.mv 3 ht rfl rfl ?_;refine JG.mv 4 ht rfl rfl ?_;obtain⟨eF,eG,eH⟩:=bs cB;refine JG.idx 5 (aJ.mono (((((((((((ab.trans ac).trans ae).trans W).trans aj).trans an).trans ao).trans ap).trans aq).trans al).trans aD).trans aC)) eG rfl ht (by decide+kernel) rfl rfl rfl rfl rfl underlying28 (Ah type3) ?_;rintro eI eJ _ rfl bd;replace bd:At az eI eJ [iV eF]:=bd;refine JG.ld 6 ht 0 bd (Ao underlying3) rfl rfl rfl rfl ?_;obtain⟨cC,eK,cD⟩:=bs eH;refine JG.idx 7 (aE.mono (((((((((((((((aw.trans ay).trans ai).trans av).trans ab).trans ac).trans ae).trans W).trans aj).trans an).trans ao).trans ap).trans aq).trans al).trans aD).trans aC)) eK rfl ht (by decide+kernel) rfl rfl rfl rfl rfl underlying22 (Ah type28) ?_;rintro eL eM _ ⟨eN,eO,rfl,ga⟩ bf;replace bf:At az eL eM [.slice eN (cC).length eO]:=bf;refine JG.ld 8 ht 0 bf (Ao underlying28) rfl rfl rfl rfl ?_;refine JG.V 9 ht rfl rfl (fun ρ h s' hs=>Yl.len rfl underlying28 (h _ _ rfl)) ?_;refine Av.leaf (tail:= [10]) (by decide+kernel) (fun t=>A3 (by decide+kernel) BE t) ?_;refine JL.go 2 rfl ?_;refine JL.ifs (p:=aI.2<((cC).length:Int)) rfl (fun bg=>?_) (fun bg=>?_)
                 ·have cE:=cD;rw [if_pos bg] at cE;refine JL.go 3 rfl ?_;refine JG.CQ 16 mixed rfl (by decide+kernel) fun ht=>?_;refine JG.mv 0 ht rfl rfl ?_;refine JG.mv 1 ht rfl rfl ?_;obtain⟨cF,cG,eP⟩:=bs cE;refine Av.join 1 #[true,true,true,true,true,true,true,true,true,true,true,true,true,true,true,true,false] (fun L s=>∃(bh:LH),Jm az H bh [] [(4,.pointer (some ⟨O,0,none⟩)),(5,iV A.1),(6,iV K.1),(8,.slice Z (U.1).length aa),(10,iV ag),(11,.slice ar (am.1).length au),(13,.bool ah.1),(16,iV ak.2),(17,iV aI.2),(149,.bool cF)] L s) ?_ ?_
                  ·rintro _ _ ⟨bh,rfl,rfl,eQ,eR⟩;refine Av.leaf (tail:= [16]) (by decide+kernel) (fun t=>A3 (by decide+kernel) BE t) ?_;obtain⟨eS,eT,eU⟩:=bs eP;refine JL.go 5 rfl ?_;refine JL.Y rfl (fun ρ h=>Yl.A1 (h _ _ rfl) (h _ _ rfl) eT) ?_;refine JL.go 2 rfl ?_;obtain rfl:=oi eU;exact JL.kw (eE _ _ (cF,eS) ⟨bh,rfl,rfl,(aC.trans eQ),eR⟩ bc) rfl
                  ·intro cH;refine Av.BW (c:=aI.1) (i:=135) rfl (fun bi=>?_) (fun bi=>?_)
                   ·have cI:=cG;rw [if_pos bi] at cI;refine JG.mv 2 ht rfl rfl ?_;refine JG.mv 3 ht rfl rfl ?_;refine JG.mv 4 ht rfl rfl ?_;refine JG.mv 5 ht rfl rfl ?_;refine JG.mv 6 ht rfl rfl ?_;refine JG.mv 7 ht rfl rfl ?_;refine JG.mv 8 ht rfl rfl ?_;refine JG.mv 9 ht rfl rfl ?_;refine JG.mv 10 ht rfl rfl ?_;refine JG.mv 11 ht rfl rfl ?_;refine JG.mv 12 ht rfl rfl ?_;refine JG.mv 13 ht rfl rfl ?_;refine JG.mv 14 ht rfl rfl ?_;refine JG.mv 15 ht rfl rfl ?_;obtain rfl:=oi cI;refine Av.BK ?_ (cH _ _ ⟨az,rfl,rfl,(Le.refl _),bb⟩);exact⟨rfl,rfl,rfl,rfl,rfl,rfl,rfl,rfl,rfl,rfl,trivial⟩
                   ·have cJ:=cG;rw [if_neg (by rw [bi];exact Bool.false_ne_true)] at cJ;refine JG.mv 2 ht rfl rfl ?_;refine JG.fd 3 ht underlying24 (Ah type22) rfl rfl rfl rfl ?_;refine JG.ld 4 ht 1 (aA.mono (((((((((((((ai.trans av).trans ab).trans ac).trans ae).trans W).trans aj).trans an).trans ao).trans ap).trans aq).trans al).trans aD).trans aC)) (Ao underlying22) rfl rfl rfl rfl ?_;refine JG.mv 5 ht rfl rfl ?_;refine JG.mv 6 ht rfl rfl ?_;obtain⟨eV,eW,eX⟩:=bs cJ;refine JG.idx 7 (aJ.mono (((((((((((ab.trans ac).trans ae).trans W).trans aj).trans an).trans ao).trans ap).trans aq).trans al).trans aD).trans aC)) eW rfl ht (by decide+kernel) rfl rfl rfl rfl rfl underlying28 (Ah type3) ?_;rintro eY eZ _ rfl bj;replace bj:At az eY eZ [iV eV]:=bj;refine JG.ld 8 ht 0 bj (Ao underlying3) rfl rfl rfl rfl ?_;obtain⟨e0,e1,e2⟩:=bs eX;refine JG.idx 9 (aE.mono (((((((((((((((aw.trans ay).trans ai).trans av).trans ab).trans ac).trans ae).trans W).trans aj).trans an).trans ao).trans ap).trans aq).trans al).trans aD).trans aC)) e1 rfl ht (by decide+kernel) rfl rfl rfl rfl rfl underlying22 (Ah type28) ?_;rintro e3 e4 _ ⟨e5,e6,rfl,e7⟩ bk;replace bk:At az e3 e4 [.slice e5 (e0).length e6]:=bk;refine JG.ld 10 ht 0 bk (Ao underlying28) rfl rfl rfl rfl ?_;refine JG.mv 11 ht rfl rfl ?_;obtain⟨cK,e8,e9⟩:=bs e2;refine JG.idx 12 e7 e8 rfl ht (by decide+kernel) rfl rfl rfl rfl rfl underlying28 (Ah type3) ?_;rintro fa fb _ rfl bl;replace bl:At az fa fb [iV cK]:=bl;refine JG.ld 13 ht 0 bl (Ao underlying3) rfl rfl rfl rfl ?_;obtain⟨gb,fc,fe⟩:=bs e9;refine JG.call (i:=14) (vs:= [.slice ar (am.1).length au,iV cK]) (MY (b5.mono ((((((an.trans ao).trans ap).trans aq).trans al).trans aD).trans aC)) fc) (by decide+kernel) rfl rfl rfl (Ay func53 rfl) rfl bb ?_;rintro _ ff _ fg ⟨rfl,rfl⟩ fh;refine JG.mv 15 ht rfl rfl ?_;obtain rfl:=oi fe;refine Av.BK ?_ (cH _ _ ⟨ff,rfl,rfl,fg,fh⟩);exact⟨rfl,rfl,rfl,rfl,rfl,rfl,rfl,rfl,rfl,rfl,trivial⟩
                 ·have cM:=cD;rw [if_neg bg] at cM;refine JL.exit rfl ?_;obtain rfl:=oi cM;obtain rfl:=eD _ bc;exact JL.kw (eC _ _ ⟨az,rfl,rfl,aC,bb⟩) rfl
               ·intro cN;refine JL.BW (c:=ak.1) (i:=113) rfl (fun bm=>?_) (fun bm=>?_)
                ·have cO:=cz;rw [if_pos bm] at cO;refine JL.go 7 rfl ?_;obtain rfl:=oi cO;exact JL.kw (cN _ _ ⟨aB,rfl,rfl,(Le.refl _),a5⟩) rfl
                ·have cP:=cz;rw [if_neg (by rw [bm];exact Bool.false_ne_true)] at cP;obtain⟨fj,fk,fm⟩:=bs cP;refine JL.go 3 rfl ?_;refine JS.BH (aJ.mono (((((((((ab.trans ac).trans ae).trans W).trans aj).trans an).trans ao).trans ap).trans aq).trans al)) fk rfl rfl rfl rfl rfl underlying28 (Ah type3) ?_;rintro fo fp _ rfl bn;replace bn:At aB fo fp [iV fj]:=bn;refine JL.ld 0 bn (Ao underlying3) rfl rfl rfl ?_;obtain⟨gc,fq,fs⟩:=bs fm;refine JS.cl (MY (b5.mono ((((an.trans ao).trans ap).trans aq).trans al)) fq) rfl rfl (Ay func53 rfl) a5 ?_;rintro _ fu _ fv ⟨rfl,rfl⟩ fw;refine JL.go 1 rfl ?_;obtain rfl:=oi fs;exact JL.kw (cN _ _ ⟨fu,rfl,rfl,fv,fw⟩) rfl
             ·intro cQ;refine Av.BP (q:=cq<0) (i:=102) rfl (fun bo=>?_) (fun bo=>?_)
              ·have cR:=ct;rw [if_pos bo] at cR;refine JG.mv 6 ht rfl rfl ?_;refine JG.mv 7 ht rfl rfl ?_;refine JG.mv 8 ht rfl rfl ?_;refine JG.mv 9 ht rfl rfl ?_;refine JG.mv 10 ht rfl rfl ?_;refine JG.mv 11 ht rfl rfl ?_;refine JG.mv 12 ht rfl rfl ?_;refine JG.mv 13 ht rfl rfl ?_;refine JG.mv 14 ht rfl rfl ?_;obtain rfl:=oi cR;refine Av.BK ?_ (cQ _ _ ⟨rfl,rfl⟩);exact⟨rfl,rfl,rfl,rfl,rfl,rfl,rfl,rfl,rfl,rfl,trivial⟩
              ·have cT:=ct;rw [if_neg bo] at cT;refine JG.mv 6 ht rfl rfl ?_;refine JG.mv 7 ht rfl rfl ?_;obtain⟨fx,fy,fz⟩:=bs cT;refine JG.idx 8 (aJ.mono (((((((((ab.trans ac).trans ae).trans W).trans aj).trans an).trans ao).trans ap).trans aq).trans al)) fy rfl ht (by decide+kernel) rfl rfl rfl rfl rfl underlying28 (Ah type3) ?_;rintro fA fB _ rfl bp;replace bp:At aB fA fB [iV fx]:=bp;refine JG.ld 9 ht 0 bp (Ao underlying3) rfl rfl rfl rfl ?_;refine JG.fd 10 ht underlying24 (Ah type22) rfl rfl rfl rfl ?_;refine JG.ld 11 ht 1 (aA.mono (((((((((((ai.trans av).trans ab).trans ac).trans ae).trans W).trans aj).trans an).trans ao).trans ap).trans aq).trans al)) (Ao underlying22) rfl rfl rfl rfl ?_;refine JG.V 12 ht rfl rfl (fun ρ h s' hs=>Yl.len rfl underlying22 (h _ _ rfl)) ?_;refine JG.mv 13 ht rfl rfl ?_;refine JG.mv 14 ht rfl rfl ?_;obtain rfl:=oi fz;refine Av.BK ?_ (cQ _ _ ⟨rfl,rfl⟩);exact⟨rfl,rfl,rfl,rfl,rfl,rfl,rfl,rfl,rfl,rfl,trivial⟩
            ·have cV:=a6;rw [if_neg a7] at cV;refine JL.exit rfl ?_;obtain rfl:=oi cV;have fC:cg=(Sum.inr ak.1):=(co _ aT).symm;exact JL.kw (ei _ _ ⟨ak.1,aB,fC,rfl,rfl,al,a5⟩) rfl
         ·intro bq;refine JL.BW (c:=b9) (i:=82) rfl (fun br=>?_) (fun br=>?_)
          ·have cW:=cc;rw [if_pos br] at cW;refine JL.go 8 rfl ?_;obtain rfl:=oi cW;exact JL.kw (bq _ _ ⟨aH,rfl,rfl,(Le.refl _),a1⟩) rfl
          ·have bu:=cc;rw [if_neg (by rw [br];exact Bool.false_ne_true)] at bu;refine JL.go 4 rfl ?_;refine JL.BP (q:=ag=K.1) (i:=86) rfl (fun bv=>?_) (fun bv=>?_)
           ·have cX:=bu;rw [if_pos bv] at cX;refine JL.go 1 rfl ?_;refine JL.Y (v:= .bool (!ah.1)) rfl (fun ρ h=>Yl.not (h _ _ rfl)) ?_;refine JL.go 2 rfl ?_;obtain rfl:=oi cX;exact JL.kw (bq _ _ ⟨aH,rfl,rfl,(Le.refl _),a1⟩) rfl
           ·have cY:=bu;rw [if_neg bv] at cY;refine JL.go 4 rfl ?_;obtain rfl:=oi cY;exact JL.kw (bq _ _ ⟨aH,rfl,rfl,(Le.refl _),a1⟩) rfl
        ·intro bw;refine JL.BW (c:=b7) (i:=74) rfl (fun bx=>?_) (fun bx=>?_)
         ·have cZ:=ca;rw [if_pos bx] at cZ;refine JL.go 7 rfl ?_;obtain rfl:=oi cZ;exact JL.kw (bw _ _ ⟨aG,rfl,rfl,(Le.refl _),a0⟩) rfl
         ·have bz:=ca;rw [if_neg (by rw [bx];exact Bool.false_ne_true)] at bz;refine JL.go 2 rfl ?_;refine JL.BW (c:=ah.1) (i:=76) rfl (fun bA=>?_) (fun bA=>?_)
          ·have c0:=bz;rw [if_pos bA] at c0;refine JL.go 5 rfl ?_;obtain rfl:=oi c0;exact JL.kw (bw _ _ ⟨aG,rfl,rfl,(Le.refl _),a0⟩) rfl
          ·have c1:=bz;rw [if_neg (by rw [bA];exact Bool.false_ne_true)] at c1;refine JL.go 5 rfl ?_;obtain rfl:=oi c1;exact JL.kw (bw _ _ ⟨aG,rfl,rfl,(Le.refl _),a0⟩) rfl
       ·intro c3;refine JL.BP (q:=am.2≠0) (i:=70) rfl (fun bB=>?_) (fun bB=>?_)
        ·have c4:=b8;rw [if_pos bB] at c4;refine JL.go 3 rfl ?_;obtain rfl:=oi c4;exact JL.kw (c3 _ _ ⟨aZ,rfl,rfl,(Le.refl _),b6⟩) rfl
        ·have c5:=b8;rw [if_neg bB] at c5;refine JL.go 3 rfl ?_;obtain rfl:=oi c5;exact JL.kw (c3 _ _ ⟨aZ,rfl,rfl,(Le.refl _),b6⟩) rfl
      ·have c6:=aX;rw [if_neg aY] at c6;refine JL.exit rfl ?_;obtain rfl:=oi c6;have fD:b0=(Sum.inr ()):=(aS _ aF).symm;exact JL.kw (dP _ _ ⟨(),aW,fD,rfl,rfl,W,b3⟩) rfl
   ·intro c7;refine JL.BW (c:=bS) (i:=46) rfl (fun bC=>?_) (fun bC=>?_)
    ·have c8:=bW;rw [if_pos bC] at c8;refine JL.go 4 rfl ?_;obtain rfl:=oi c8;exact JL.kw (c7 _ _ ⟨aL,rfl,rfl,(Le.refl _),bU⟩) rfl
    ·have c9:=bW;rw [if_neg (by rw [bC];exact Bool.false_ne_true)] at c9;refine JL.go 4 rfl ?_;obtain rfl:=oi c9;exact JL.kw (c7 _ _ ⟨aL,rfl,rfl,(Le.refl _),bU⟩) rfl
  ·intro da;refine JL.BW (c:=bP) (i:=42) rfl (fun bD=>?_) (fun bD=>?_)
   ·have db:=bT;rw [if_pos bD] at db;refine JL.go 3 rfl ?_;obtain rfl:=oi db;exact JL.kw (da _ _ ⟨aK,rfl,rfl,(Le.refl _),bR⟩) rfl
   ·have dc:=bT;rw [if_neg (by rw [bD];exact Bool.false_ne_true)] at dc;refine JL.go 3 rfl ?_;obtain rfl:=oi dc;exact JL.kw (da _ _ ⟨aK,rfl,rfl,(Le.refl _),bR⟩) rfl
 ·intro dd;refine JL.BP (q:=K.2≠0) (i:=38) rfl (fun bE=>?_) (fun bE=>?_)
  ·have de:=bQ;rw [if_pos bE] at de;refine JL.go 3 rfl ?_;refine JS.drop 1 bO rfl fun fE=>?_;obtain rfl:=oi de;exact JL.kw (dd _ _ ⟨aU,rfl,rfl,(Le.refl _),fE⟩) rfl
  ·have df:=bQ;rw [if_neg bE] at df;refine JL.go 3 rfl ?_;refine JS.drop 1 bO rfl fun fF=>?_;obtain rfl:=oi df;exact JL.kw (dd _ _ ⟨aU,rfl,rfl,(Le.refl _),fF⟩) rfl
end Pal
namespace Pal
def PS(J:JW)(a b:Nat):Prop:=∃m:Nat,(AG J a).testBit m=true∧((AG J b).testBit m=true∨∃x:Nat,(x:Int)∈J.2.getD m []∧(AG J b).testBit x=true)
theorem VJ.Nc{n:Nat}{J:JW}(A:VJ n J)(m:Nat):VL n (J.2.getD m []):=by
 rw [List.getD_eq_getElem?_getD];cases h:J.2[m]? with
 | none=>exact⟨by simp,fun x K=>by simp at K,by simp⟩
 | some l=>exact(A.fl m l h).1
theorem P9{a b:Nat}:a&&& b≠0↔∃k,a.testBit k=true∧b.testBit k=true:=by
 constructor
 ·intro h;obtain⟨k,A⟩:=Nat.exists_testBit_of_ne_zero h;rw [Nat.testBit_and,Bool.and_eq_true] at A;exact⟨k,A⟩
 ·rintro⟨k,K,O⟩ h;have:(a&&& b).testBit k=true:=by rw [Nat.testBit_and,K,O];rfl
  rw [h] at this;simp at this
theorem LM{n:Nat}{J:JW}(A:VJ n J):∀a,∃m,(AG J a).testBit m=true
 | 0=>⟨0,by show(1:Nat).testBit 0=true;decide⟩
 | a+1=>by
  obtain⟨m,hm⟩:=LM A a
  have O:=FK (Gx A a) hm
  have U:=A.l1;have W:=A.le
  have K:m<J.1.length:=by omega
  obtain⟨v1,v2⟩:=A.nx m _ (List.getElem?_eq_getElem K);have Z:=v1.inr J.1[m][0] (List.getElem_mem v2);refine⟨J.1[m][0].toNat,?_⟩;show(Ek J.1 (AG J a)).testBit _=true;rw [LL A];refine⟨m,by omega,hm,?_⟩;rw [List.getD_eq_getElem?_getD,List.getElem?_eq_getElem K];rw [show((J.1[m][0].toNat:Nat):Int)=J.1[m][0] by omega];exact List.getElem_mem v2
theorem PS.self{n:Nat}{J:JW}(A:VJ n J)(a:Nat):PS J a a:=let ⟨m,hm⟩:=LM A a;⟨m,hm,.inl hm⟩
theorem Ln{F n a b:Nat}{J:JW}(ac:100<F)(O:VJ n J)(aj:a<13)(hb:b<13):Af (f109 F (J.1,J.2,D3 J) (a:Int) (b:Int)) (fun r=>r=true↔PS J a b):=by
 have am:=I0 O.le;have ae:=Gx O a;have an:=Gx O b;have ao:=O.l2;have ap:=O.le;unfold f109;refine Af.be (De (m:=b) rfl (IW J hb)) ?_;refine Af.be (De (m:=a) rfl (IW J aj)) ?_;refine Af.be (I8 ac (by omega)) ?_;have hlen:=Ga (AG J a) 16;refine Af.b (S:=fun q=>(q=Sum.inl true∧PS J a b)∨(q=Sum.inr ()∧¬PS J a b)) ?_ ?_
 ·refine Af.upto (BO (AG J a) 16).length (fun i s=>s=(i:Int)∧∀m:Nat,(m:Int)∈(BO (AG J a) 16).take i→¬((AG J b).testBit m=true∨∃x:Nat,(x:Int)∈J.2.getD m []∧(AG J b).testBit x=true)) ⟨rfl,by simp⟩ (by omega) ?_ ?_
  ·rintro i s hi ⟨rfl,ab⟩;unfold HH;have ak:=List.getElem_mem hi;obtain⟨m,aq,ag,ah⟩:=Ep.1 ak;have ar:=FK ae ag;refine Af.pos (by omega) ?_;refine Af.Bv (m:=i) rfl hi ?_;rw [ah];refine Af.be (LX F (by omega) (by omega)) ?_;have W:=O.Nc m;have al:J.2[m]? =some (J.2.getD m []):=by rw [List.getD_eq_getElem?_getD,List.getElem?_eq_getElem (by omega)];rfl
   have ai:El 16 (J.2.getD m []):=fun x U=>by have:=W.inr x U;omega
   refine Af.b (S:=fun c=>c=true↔((AG J b).testBit m=true∨∃x:Nat,(x:Int)∈J.2.getD m []∧(AG J b).testBit x=true)) ?_ ?_
   ·refine Af.ite (fun h=>Af.intro ⟨fun _=> .inl h,fun _=>rfl⟩) (fun h=>?_);refine Af.be (De (m:=m) rfl al) ?_;refine Af.be (LP ac (by have:=W.len;omega) ai) ?_;refine Af.be (b:=AG J b&&& Cf (J.2.getD m [])) (if_pos ⟨by omega,IV ai⟩) ?_;refine Af.intro ?_;rw [decide_eq_true_iff];have e:((AG J b&&& Cf (J.2.getD m []):Nat):Int)≠((0:Nat):Int)↔AG J b&&& Cf (J.2.getD m [])≠0:=by omega
    rw [e,P9];constructor
    ·rintro⟨k,k1,Z⟩;rw [IK (fun x U=>(W.inr x U).1)] at Z;exact .inr ⟨k,of_decide_eq_true Z,k1⟩
    ·rintro(A | ⟨k,k1,Z⟩)
     ·exact absurd A h
     ·exact⟨k,Z,by rw [IK (fun x U=>(W.inr x U).1)];exact decide_eq_true k1⟩
   ·intro c aa;refine Af.ite (fun h=>?_) (fun h=>?_)
    ·exact Af.intro (.inl ⟨rfl,m,ag,aa.1 h⟩)
    ·refine Af.A5 ((i+1:Nat):Int) (by simp) (by omega) (by omega) ?_;refine Af.intro ⟨rfl,fun k K=>?_⟩;rw [List.take_add_one,List.getElem?_eq_getElem hi] at K;simp only [Option.toList_some,List.mem_append,List.mem_singleton] at K;rcases K with K | K
     ·exact ab k K
     ·rw [ah] at K;obtain rfl:k=m:=by omega
      exact fun A=>h (aa.2 A)
  ·rintro s ⟨rfl,ab⟩;unfold HH;refine Af.neg (by omega) (Af.intro ⟨_,rfl,.inr ⟨rfl,?_⟩⟩);rintro⟨m,hm,aa⟩;refine ab m ?_ aa;rw [List.take_length,Ep];exact⟨m,by have:=FK ae hm;omega,hm,rfl⟩
 ·rintro q (⟨rfl,h⟩ | ⟨rfl,h⟩)
  ·exact Af.intro ⟨fun _=>h,fun _=>rfl⟩
  ·exact Af.intro ⟨fun A=>(by cases A),fun A=>absurd A h⟩
theorem Qt{F n a b:Nat}{J:JW}(A:100<F)(K:VJ n J)(U:a<13)(hb:b<13):Af (f59 F J (a:Int) (b:Int)) (fun r=>(r.1=true↔PS J a b)∧r.2=0):=by
 unfold f59;refine Af.be (I3 A K (by simp) (fun x O=>by simp at O;rcases O with rfl | rfl <;> omega)) ?_;refine Af.neg (by simp) ?_;refine Af.be (b:=(J.1,J.2,D3 J)) rfl ?_;refine Af.b (Ln A K U hb) ?_;intro r W;exact Af.intro ⟨W,rfl⟩
theorem QV{F n a:Nat}{J:JW}(U:100<F)(O:VJ n J)(ab:a<13):Af (f57 F J (a:Int)) (fun r=>r.2=0∧∃k:Nat,r.1=(k:Int)∧k≤a∧PS J a k∧∀j,j<k→¬PS J a j):=by
 unfold f57;refine Af.be (I3 U O (by simp) (fun x W=>by simp at W;subst W;omega)) ?_;refine Af.neg (by simp) ?_;refine Af.be (b:=(J.1,J.2,D3 J)) rfl ?_;refine Af.b (S:=fun r=>∃k:Nat,r=(k:Int)∧k≤a∧PS J a k∧∀j,j<k→¬PS J a j) ?_ (fun r K=>Af.intro ⟨rfl,K⟩);refine Af.iter (fun m s=>∃k:Nat,s=(k:Int)∧k≤a∧m=a - k∧∀j,j<k→¬PS J a j) ?_ (m:=a) ⟨0,rfl,by omega,rfl,fun j ac=>by omega⟩ (by omega);rintro m s ⟨k,rfl,ae,rfl,Z⟩;unfold Jf;refine Af.b (Ln U O ab (by omega)) ?_;intro r K;refine Af.ite (fun h=>?_) (fun h=>?_)
 ·have aa:¬PS J a k:=fun A=>by rw [K.2 A] at h;cases h
  have ag:k≠a:=fun e=>by subst e;exact aa (PS.self O k)
  refine Af.A5 ((k+1:Nat):Int) (by simp) (by omega) (by omega) ?_;refine Af.intro ⟨a - (k+1),by omega,k+1,rfl,by omega,rfl,fun j ac=>?_⟩;rcases Nat.lt_or_ge j k with A | A
  ·exact Z j A
  ·obtain rfl:j=k:=by omega
   exact aa
 ·have A:r=true:=by cases r <;> simp_all
  exact Af.intro ⟨k,rfl,ae,K.1 A,Z⟩
theorem QG{F n b m:Nat}{x14:JW×Du}{own other:List Int×Int}{i:Nat}{due:Bool}(ae:100<F)(O:VJ n x14.1)(hm:m<n)(hi:own.1[i]? =some (m:Int))(ac:other.1=BO (AG x14.1 b) 16)(d0:Bool):
  Af (iter (GV F x14 own other (due,(i:Int))) F (d0,0)) (fun r=>r=true↔d0=true∨∃x:Nat,(x:Int)∈x14.1.2.getD m []∧(AG x14.1 b).testBit x=true):=by
 obtain⟨J,ai⟩:=x14;obtain⟨own,q⟩:=own;obtain⟨other,aj⟩:=other;simp only at O ac hi ⊢;subst ac;have ak:=O.l2;have al:=O.le;have Z:=O.Nc m;have W:J.2[m]? =some (J.2.getD m []):=by rw [List.getD_eq_getElem?_getD,List.getElem?_eq_getElem (by omega)];rfl
 have hlen:=Z.len;have am:=Ga (AG J b) 16;generalize J.2.getD m []=l at Z W hlen;refine Af.upto l.length (fun k s=>∃d:Bool,s=(d,(k:Int))∧(d=true↔d0=true∨∃x:Nat,(x:Int)∈l.take k∧(AG J b).testBit x=true)) ⟨d0,rfl,by simp⟩ (by omega) ?_ ?_
 ·rintro k s aa ⟨d,rfl,U⟩;unfold GV;refine Af.be (De (m:=i) rfl hi) ?_;refine Af.be (De (m:=m) rfl W) ?_;refine Af.pos (by simp only;omega) ?_;have an:=Z.inr l[k] (List.getElem_mem aa);refine Af.b (S:=fun c=>c=true↔d0=true∨∃x:Nat,(x:Int)∈l.take (k+1)∧(AG J b).testBit x=true) ?_ ?_
  ·rw [List.take_add_one,List.getElem?_eq_getElem aa];simp only [Option.toList_some,List.mem_append,List.mem_singleton];refine Af.ite (fun h=>Af.intro ⟨fun _=>?_,fun _=>rfl⟩) (fun h=>?_)
   ·rcases U.1 h with ab | ⟨x,K,A⟩
    ·exact .inl ab
    ·exact .inr ⟨x,.inl K,A⟩
   ·refine Af.be (De (m:=i) rfl hi) ?_;refine Af.be (De (m:=m) rfl W) ?_;refine Af.Bv (m:=k) rfl aa ?_;refine Af.be (Mt ae (by omega)) ?_;refine Af.intro ?_;rw [decide_eq_true_iff,Ep];constructor
    ·rintro⟨x,K,A,ag⟩;exact .inr ⟨x,.inr ag.symm,A⟩
    ·rintro(ab | ⟨x,K | K,A⟩)
     ·exact absurd (U.2 (.inl ab)) h
     ·exact absurd (U.2 (.inr ⟨x,K,A⟩)) h
     ·exact⟨x,by have:=FK (Gx O b) A;omega,A,K.symm⟩
  ·intro c ah;refine Af.A5 ((k+1:Nat):Int) (by simp) (by omega) (by omega) ?_;exact Af.intro ⟨c,rfl,ah⟩
 ·rintro s ⟨d,rfl,U⟩;unfold GV;refine Af.be (De (m:=i) rfl hi) ?_;refine Af.be (De (m:=m) rfl W) ?_;refine Af.neg (by simp only;omega) (Af.intro ⟨_,rfl,?_⟩);rw [U,List.take_length]
theorem PO{F n a b:Nat}{x14:JW×Du}(ac:100<F)(K:VJ n x14.1):
  Af (iter (GX F x14 (BO (AG x14.1 a) 16,0) (BO (AG x14.1 b) 16,0)) F (false,0)) (fun r=>∃d:Bool,r=Sum.inr d∧(d=true↔PS x14.1 a b)):=by
 obtain⟨J,ah⟩:=x14;simp only at K ⊢;have ae:=Gx K a;have O:=K.l2;have ap:=K.le;have aq:=Ga (AG J a) 16;have ar:=Ga (AG J b) 16;refine Af.upto (BO (AG J a) 16).length (fun k s=>∃d:Bool,s=(d,(k:Int))∧(d=true↔∃m:Nat,(m:Int)∈(BO (AG J a) 16).take k∧((AG J b).testBit m=true∨∃x:Nat,(x:Int)∈J.2.getD m []∧(AG J b).testBit x=true))) ⟨false,rfl,by simp⟩ (by omega) ?_ ?_
 ·rintro k s ag ⟨d,rfl,Z⟩;unfold GX;obtain⟨m,au,ai,aj⟩:=Ep.1 (List.getElem_mem ag);have ak:=FK ae ai;have hi:(BO (AG J a) 16)[k]? =some (m:Int):=by rw [List.getElem?_eq_getElem ag,aj]
  refine Af.pos (by simp only;omega) ?_;refine Af.be (De (m:=k) rfl hi) ?_;refine Af.b (S:=fun c=>c=false) ?_ ?_
  ·refine Af.neg (by omega) ?_;refine Af.be (De (m:=k) rfl hi) ?_;exact Af.intro (decide_eq_false (by simp only;omega))
  ·rintro c rfl;refine Af.neg (by simp) ?_;refine Af.b (S:=fun c=>c=true↔d=true∨(AG J b).testBit m=true) ?_ ?_
   ·refine Af.ite (fun h=>Af.intro ⟨fun _=> .inl h,fun _=>rfl⟩) (fun h=>?_);refine Af.be (De (m:=k) rfl hi) ?_;refine Af.be (Mt ac (by simp only;omega)) ?_;refine Af.intro ?_;rw [decide_eq_true_iff,Ep];constructor
    ·rintro⟨x,al,aa,am⟩;obtain rfl:x=m:=by omega
     exact .inr aa
    ·rintro(ab | ab)
     ·exact absurd ab h
     ·exact⟨m,by omega,ab,rfl⟩
   ·intro c an;refine Af.b (QG (F:=F) (b:=b) (m:=m) (i:=k) (x14:=(J,ah)) (own:=(BO (AG J a) 16,0)) (other:=(BO (AG J b) 16,0)) (due:=d) ac K ak hi rfl c) ?_;intro r ao;refine Af.A5 ((k+1:Nat):Int) (by simp) (by omega) (by omega) ?_;refine Af.intro ⟨r,rfl,?_⟩;rw [ao,an,Z,List.take_add_one,hi];simp only [Option.toList_some,List.mem_append,List.mem_singleton];constructor
    ·rintro((⟨y,U,A⟩ | h) | h)
     ·exact⟨y,.inl U,A⟩
     ·exact⟨m,.inr rfl,.inl h⟩
     ·exact⟨m,.inr rfl,.inr h⟩
    ·rintro⟨y,U | U,A⟩
     ·exact .inl (.inl ⟨y,U,A⟩)
     ·obtain rfl:y=m:=by omega
      rcases A with A | A
      ·exact .inl (.inr A)
      ·exact .inr A
 ·rintro s ⟨d,rfl,Z⟩;unfold GX;refine Af.neg (by simp only;omega) (Af.intro ⟨_,rfl,d,rfl,?_⟩);rw [Z,List.take_length];constructor
  ·rintro⟨m,W,O⟩;obtain⟨x,al,aa,am⟩:=Ep.1 W;obtain rfl:m=x:=by omega
   exact⟨m,aa,O⟩
  ·rintro⟨m,W,O⟩;exact⟨m,Ep.2 ⟨m,by have:=FK ae W;omega,W,rfl⟩,O⟩
theorem Q3{F:Nat}(A:100<F)(hs:f22 F=some true)(Iu:List Int):f14 F Iu=some true:=by
 refine Af.DX ?_;unfold f14;refine Af.be (b:=(Iu,0,2685821657736338717)) rfl ?_;refine Af.b (Qq (F:=F) (k:=0) (mx:=7) (b:=(Iu,0,2685821657736338717)) A ⟨Int.le_refl _,Int.le_refl _⟩ (by omega) (by omega) (by omega)) ?_;rintro⟨J,b⟩ ⟨⟨n,ai,K⟩,hb⟩;simp only at K hb ⊢;refine Af.b (FR hb (by omega) (by omega)) ?_;rintro⟨Z,aj⟩ ⟨ab,ac,ak⟩;simp only at ab ac ⊢;obtain⟨a,rfl⟩:∃a:Nat,Z=(a:Int):=⟨Z.toNat,by omega⟩;have U:a<13:=by omega
 refine Af.b (QV A K U) ?_;rintro⟨got,z⟩ ⟨O,k,aa,al,ae,ag⟩;simp only at O aa;subst O;subst aa;refine Af.be (MA A K U) ?_;refine Af.b (S:=fun c=>c=false) (Af.neg (by simp) (Af.intro (by simp))) ?_;rintro c rfl;refine Af.b (S:=fun c=>c=false) (Af.neg (by simp) (Af.intro (decide_eq_false (by simp only;omega)))) ?_;rintro c rfl;refine Af.b (S:=fun c=>c=false) (Af.neg (by simp) (Af.intro (decide_eq_false (by simp only;omega)))) ?_;rintro c rfl;refine Af.neg (by simp) ?_;refine Af.b (S:=fun q=>q=Sum.inr ()) ?_ ?_
 ·refine Af.upto 13 (fun i st=>st=(i:Int)) rfl (by omega) ?_ ?_
  ·rintro i st hi rfl;unfold H5;refine Af.pos (by omega) ?_;refine Af.be (MA A K hi) ?_;refine Af.b (Qt A K U hi) ?_;rintro⟨is,z⟩ ⟨W,O⟩;simp only at O W;subst O;refine Af.b (S:=fun c=>c=false) (Af.neg (by simp) (Af.intro (by simp))) ?_;rintro c rfl;refine Af.b (S:=fun c=>c=false) ?_ ?_
   ·refine Af.neg (by simp) ?_;refine Af.ite (fun h=>Af.intro (decide_eq_false fun ah=>?_)) (fun _=>Af.intro rfl);exact ag i (by simp only at ah;omega) (W.1 h)
   ·rintro c rfl;refine Af.b (S:=fun c=>c=false) ?_ ?_
    ·refine Af.neg (by simp) ?_;refine Af.ite (fun h=>Af.intro ?_) (fun _=>Af.intro rfl);simp only at h;obtain rfl:i=k:=by omega
     rw [W.2 ae];rfl
    ·rintro c rfl;refine Af.neg (by simp) ?_;refine Af.b (PO (F:=F) (x14:=(J,b)) (a:=a) (b:=i) A K) ?_;rintro r ⟨d,rfl,am⟩;rw [Sum.elim_inr];have e:d=is:=by
      cases d <;> cases is <;> simp_all
     subst e;refine Af.neg (by simp) ?_;refine Af.A5 ((i+1:Nat):Int) (by simp) (by omega) (by omega) ?_;exact Af.intro rfl
  ·rintro st rfl;unfold H5;exact Af.neg (by simp) (Af.intro ⟨_,rfl,rfl⟩)
 ·rintro q rfl;rw [Sum.elim_inr];refine Af.be hs ?_;exact Af.intro rfl
end Pal
namespace Pal
end Pal
