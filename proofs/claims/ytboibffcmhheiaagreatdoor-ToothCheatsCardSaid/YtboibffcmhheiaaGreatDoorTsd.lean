/- ToothCheats Part 4 of 8. -/
import Derived.Test.YtboibffcmhheiaaGreatDoorTsb
import Derived.Test.YtboibffcmhheiaaGreatDoorTsc
import Derived.Conc.WgGenN3
import Derived.Sort.AssemblyPlain
import Derived.Sort.Walk13a
set_option linter.all false
set_option maxRecDepth 100000
namespace Pal
open Go Go.Conc Go.Proofs
open Go.Proofs.Tryz
def Lg(fuel:Nat)(K:Br)(O:AW)(age:Int)(ms:List Int)(fl:Nat)(m:Int):Option (Option (List Int×Nat)):=
 (Ky fuel (K,O,age,ms,fl) ((ms).length:Int) m).bind fun A=>
 if(!A.2)=true then(
  some none
 ) else(
  (f175 fuel ms).bind fun U=>
  (C7 U ([m]:List Int)).bind fun Z=>
  (Gz (fl) (A.1)).bind fun aa=>
  some (some (Z,aa))
 )
theorem Tg{J:Judge Tryz.prog}{A:Type}{I:A→LH→Seg→Prop}(bb:∀x E E' X,Le E E'→I x E X→I x E' X){E:LH}{K k1 U:Nat}{aS aT Z ab:Ar}{aU aV aa ac:Nat}{aW:List Value}{am:Br}{O:AW}{age:Int}{ms:List Int}{fl:Nat}(bc:At E k1 U (([.slice aS (am.1).length aU,.slice aT (am.2.1).length aV]:List Value)++aW))(bd:Ao (rL rI) E aS aU (am.1))(bf:Ao (rL rI) E aT aV (am.2.1))(bg:(rA 13 (rN .u16)).r E aW (am.2.2))(bh:Ao Bv E Z aa O)(aB:Ao rI E ab ac ms){aX:Value}{X:Seg}{acc acc':A}(bi:I acc E X){m:Int}{fuel:Nat}{r:Option (List Int×Nat)}(aY:Lg fuel am O age ms fl m=some r)
  (bj:r=none→acc'=acc)
  (aZ:∀q,r=some q→∀E' a c,Le E E'→Ao rI E' a c q.1→Dc J aX [] E' ([(K,.cells #[.pointer (some ⟨k1,U,none⟩),.slice Z O.length aa,iV age,.slice a q.1.length c,.int .u16 ((q.2:Nat):Int)] 175 (0,0))]++X) (fun w bk bl=>∃aq mv ar ah,w= .bool true∧bl= [(K,.cells #[.pointer (some ⟨k1,U,none⟩),.slice Z O.length aa,aq,mv,ar] 175 (0,0))]++ah∧I acc' bk ah)):
  Aq J 155 [.pointer (some ⟨K,0,none⟩),iV m,aX] E ([(K,.cells #[.pointer (some ⟨k1,U,none⟩),.slice Z O.length aa,iV age,.slice ab ms.length ac,.int .u16 ((fl:Nat):Int)] 175 (0,0))]++X) (fun w E' B'=>∃ah,w= .bool true∧B'= [(K,.cells #[.pointer (some ⟨k1,U,none⟩),.slice Z O.length aa,iV age,.slice ab ms.length ac,.int .u16 ((fl:Nat):Int)] 175 (0,0))]++ah∧I acc' E' ah):=by
 refine Aq.en func155 rfl rfl fun Q a0 cs H aC aD=>?_;refine JS.split (S':= [[(K,.cells #[.pointer (some ⟨k1,U,none⟩),.slice Z O.length aa,iV age,.slice ab ms.length ac,.int .u16 ((fl:Nat):Int)] 175 (0,0))],X]) (by simp) aC fun aC=>?_;unfold Lg at aY;refine zg 2 rfl ?_;refine JS.box (v:= .pointer (some ⟨K,0,none⟩)) rfl rfl rfl aC rfl fun an bm=>?_;refine JS.Ba 2 bm rfl fun b6 ae aj au=>?_;refine zg 3 rfl ?_;refine JG.Ce 13 [K] ⟨⟨0,_,rfl⟩,trivial⟩ au mixed rfl (by decide+kernel) fun ht=>?_;refine JG.V (v:= .pointer (some ⟨K,0,none⟩)) 0 ht rfl rfl (fun ρ h s' hs=>Yl.load (Al underlying173) (h _ _ rfl) (At.CO (j:=0) aj (CM au hs ⟨⟨0,_,rfl⟩,trivial⟩) rfl)) ?_;refine JG.V (v:= .pointer (some ⟨K,0,none⟩)) 1 ht rfl rfl (fun ρ h s' hs=>Yl.load (Al underlying173) (h _ _ rfl) (At.CO (j:=0) aj (CM au hs ⟨⟨0,_,rfl⟩,trivial⟩) rfl)) ?_;refine JG.mv 2 ht rfl rfl ?_;refine JG.fd 3 ht underlying175 (Ag type104) rfl rfl rfl rfl ?_;refine JG.fd 4 ht underlying104 (Ag type28) rfl rfl rfl rfl ?_;refine JG.V (v:= .slice ab (ms).length ac) 5 ht rfl rfl (fun ρ h s' hs=>Yl.load (Al underlying28) (h _ _ rfl) (Bl (o:=3) 0 au rfl (by simp [AH]) hs rfl)) ?_;refine JG.V 6 ht rfl rfl (fun ρ h s' hs=>Yl.len rfl underlying28 (h _ _ rfl)) ?_;refine JG.mv 7 ht rfl rfl ?_;obtain⟨a1,bn,a2⟩:=bs aY;refine JG.NZ (i:=8) (vs:= [.pointer (some ⟨K,0,none⟩),iV ((ms).length:Int),iV m]) 0 ⟨⟨0,_,rfl⟩,trivial⟩ (RF (bc.mono ae) (bd.mono ae) (bf.mono ae) (Rp.mono _ ae bg) (bh.mono ae) (aB.mono ae) bn) (fun _ _ _ h=>h.2) (by decide+kernel) rfl rfl rfl (Aw func174 rfl) rfl au rfl ?_;rintro _ b7 ag ⟨rfl,_⟩ aE;refine JG.ms ht rfl [9,10,11,12] rfl ?_;refine Av.leaf (tail:= [13]) (by decide+kernel) (fun t=>A1 (by decide+kernel) BM t) ?_;refine zg 6 rfl ?_;refine JL.Y (v:= .bool (!a1.2)) rfl (fun ρ h=>Yl.not (h _ _ rfl)) ?_;refine JL.done ?_;refine JL.split (t:=(!a1.2)) rfl (fun aF=>?_) (fun aF=>?_)
 ·have bo:=ip a2 aF;refine zg 4 rfl ?_;obtain rfl:=oi bo;refine JL.rt func155 rfl rfl ?_;exact aD _ _ _ _ (ae.trans ag) rfl ⟨X,rfl,by simp,by rw [bj rfl];exact bb _ _ _ _ (ae.trans ag) bi⟩ aE
 ·have bp:=ib a2 aF;refine zg 3 rfl ?_;refine JL.ld 0 (aj.mono ag) (Al underlying173) rfl rfl rfl ?_;refine zg 1 rfl ?_;refine JL.fd underlying175 (Ag type104) rfl rfl rfl ?_;refine JL.Y rfl (fun ρ h=>Yl.Bs (vs:= [iV age,.slice ab (ms).length ac,.int .u16 ((fl:Nat):Int)]) (Al underlying104) (Ag type104) (h _ _ rfl) (D8 (off:=2) 0 aE rfl rfl)) ?_;refine JS.alloc rfl rfl rfl aE (AO type104) fun ao bq=>?_;refine JS.st (v:= .agg #[iV age,.slice ab (ms).length ac,.int .u16 ((fl:Nat):Int)]) (off:=0) 3 bq (Ag type104) rfl rfl rfl rfl fun br=>?_;refine JS.Ba 3 br rfl fun b8 ai aG bu=>?_;refine JS.norm (S':= [[(K,.cells #[.pointer (some ⟨k1,U,none⟩),.slice Z (O).length aa,iV age,.slice ab (ms).length ac,.int .u16 ((fl:Nat):Int)] 175 (0,0))],X,[],[]]) rfl bu fun a3=>?_;refine zg 2 rfl ?_;refine JG.Co 7 mixed rfl (by decide+kernel) fun ht=>?_;refine JG.ld 0 ht 0 (aj.mono (ag.trans ai)) (Al underlying173) rfl rfl rfl rfl ?_;refine JG.fd 1 ht underlying104 (Ag type28) rfl rfl rfl rfl ?_;refine JG.ld 2 ht 1 aG (Al underlying28) rfl rfl rfl rfl ?_;refine JG.mv 4 ht rfl rfl ?_;obtain⟨b9,a4,bv⟩:=bs bp;obtain⟨ak,a5,a6⟩:=bs bv;refine JG.two (i:=3) (j:=5) rfl (by decide+kernel) ?_ ?_
  ·refine Take.OA (vs:= [.slice ab (ms).length ac]) a3 (NX (aB.mono ((ae.trans ag).trans ai)) a4) rfl rfl rfl (Aw func175 rfl) rfl ?_;rintro _ ca _ av ⟨cb,cc,cd,rfl,rfl,bw⟩ bx;refine JG.one (i:=5) rfl (by decide+kernel) ?_;refine Take.G8 (pp:=rI) [iV m] ([m]:List Int) bx rfl rfl rfl underlying28 (Ag type3) (AO type3) (by decide) rfl rfl rfl ⟨rfl,trivial⟩ fun ce a7 bz bA=>?_;refine JG.one (i:=6) rfl (by decide+kernel) ?_;refine Take.app0 (pp:=rI) 4 5 bA a5 rfl rfl rfl rfl rfl rfl rfl underlying28 underlying28 (Ag type3) (Cs type3) (AO type3) rfl (by decide) (by decide) bw bz rfl rfl fun aH aI cf bB bC bD=>?_;refine Av.leaf (tail:= [7,8,9,10]) (by decide+kernel) (fun t=>A1 (by decide+kernel) (A1 (by decide+kernel) (A1 (by decide+kernel) (A1 (by decide+kernel) BM))) t) ?_;refine JS.part 4 rfl bD fun bE=>?_;refine JS.drop 4 bE rfl fun bF=>?_;refine JS.norm (S':= [[(K,.cells #[.pointer (some ⟨k1,U,none⟩),.slice Z (O).length aa,iV age,.slice ab (ms).length ac,.int .u16 ((fl:Nat):Int)] 175 (0,0))],X,[],[],[],a7,bB]) rfl bF fun bG=>?_;refine zg 1 rfl ?_;refine JL.fd underlying175 (Ag type104) rfl rfl rfl ?_;refine JL.fd underlying104 (Ag type28) rfl rfl rfl ?_;refine JS.st (v:= .slice aH (ak).length aI) (off:=3) 0 bG (Ag type28) rfl rfl rfl rfl fun a8=>?_;refine zg 3 rfl ?_;refine JL.ld 0 (aj.mono ((ag.trans ai).trans av)) (Al underlying173) rfl rfl rfl ?_;refine zg 1 rfl ?_;refine JL.fd underlying175 (Ag type104) rfl rfl rfl ?_;refine JL.fd underlying104 (Ag type102) rfl rfl rfl ?_;refine JL.Y (v:= .int .u16 ((fl:Nat):Int)) rfl (fun ρ h=>Yl.load (Al underlying102) (h _ _ rfl) (Cw (j:=0) (off:=4) a8 rfl rfl)) ?_;obtain⟨aw,bH,bI⟩:=bs a6;refine zg 1 rfl ?_;refine JL.Y (v:= .int .u16 ((aw:Nat):Int)) rfl (fun ρ h=>Yl.HK (h _ _ rfl) (h _ _ rfl) bH) ?_;refine zg 1 rfl ?_;refine JL.fd underlying175 (Ag type104) rfl rfl rfl ?_;refine JL.fd underlying104 (Ag type102) rfl rfl rfl ?_;refine JS.st (v:= .int .u16 ((aw:Nat):Int)) (off:=4) 0 a8 (Ag type102) rfl rfl rfl rfl fun bJ=>?_;refine zg 2 rfl ?_;refine JS.BJ 6 bC bJ rfl fun cg az bK bL=>?_;refine JS.norm (S':= [[(K,.cells #[.pointer (some ⟨k1,U,none⟩),.slice Z (O).length aa,iV age,.slice aH (ak).length aI,.int .u16 ((aw:Nat):Int)] 175 (0,0))],X,[],[],[],a7,[]]) rfl bL fun bM=>?_;refine JS.drop 5 bM rfl fun bN=>?_;obtain rfl:=oi bI;refine JL.region ?_;refine JL.Y (v:= .func (.func 176) #[] [.pointer (some ⟨ao,0,none⟩),.pointer (some ⟨an,0,none⟩)].toArray) rfl (fun ρ h=>Yl.Gm (by simp) (by simp [h (.tmp 9) _ rfl,h (.tmp 3) _ rfl])) ?_;refine JL.NP (vs:= []) (caps:= [.pointer (some ⟨ao,0,none⟩),.pointer (some ⟨an,0,none⟩)]) rfl rfl rfl rfl rfl rfl ?_;refine zg 4 rfl ?_;refine JS.split (S':= [[(K,.cells #[.pointer (some ⟨k1,U,none⟩),.slice Z (O).length aa,iV age,.slice aH (ak).length aI,.int .u16 ((aw:Nat):Int)] 175 (0,0))]++X]) (by simp) bN fun aJ=>?_;refine JS.G1 (vs:= []) 0 (aZ (ak,aw) rfl _ _ _ ((((ae.trans ag).trans ai).trans av).trans az) bK) rfl rfl rfl rfl rfl aJ rfl ?_;rintro _ bO _ al ⟨aq,mv,ar,ah,rfl,rfl,aK⟩ aL;refine zg 2 rfl ?_;refine JL.EE rfl ?_;refine JO.N2 (vs:= []) (caps:= [.pointer (some ⟨ao,0,none⟩),.pointer (some ⟨an,0,none⟩)]) rfl func176 rfl rfl (Nat.le_of_ble_eq_true rfl) fun T aM todo=>?_;refine JS.split (S':= [[(K,.cells #[.pointer (some ⟨k1,U,none⟩),.slice Z O.length aa,aq,mv,ar] 175 (0,0))],ah]) (by simp) aL fun aN=>?_;refine JL.region ?_;refine JL.ld 0 (aj.mono ((((ag.trans ai).trans av).trans az).trans al)) (Al underlying173) rfl rfl rfl ?_;refine JL.Bj (aG.mono ((av.trans az).trans al)) (Al underlying104) (Ag type104) rfl rfl ?_;refine zg 1 rfl ?_;refine JL.fd underlying175 (Ag type104) rfl rfl rfl ?_;refine JS.st (v:= .agg #[iV age,.slice ab ms.length ac,.int .u16 ((fl:Nat):Int)]) (off:=2) 0 aN (Ag type104) rfl rfl rfl rfl fun aO=>?_;refine JS.norm (S':= [[(K,.cells #[.pointer (some ⟨k1,U,none⟩),.slice Z O.length aa,iV age,.slice ab ms.length ac,.int .u16 ((fl:Nat):Int)] 175 (0,0))],ah]) rfl aO fun aP=>?_;refine JL.done ?_;refine JL.out rfl ?_;refine JO.leaveD rfl func176 rfl (.inl rfl) ?_;refine(?_:JO J Q (base 155) Tryz.f155.ntmps _ [] (a0::cs) _) T aM todo;refine JO.leave (v:= .bool true) rfl (Bx.list func155 rfl (vs:= [.bool true]) ⟨rfl,trivial⟩) ?_;exact aD _ _ _ _ (((((ae.trans ag).trans ai).trans av).trans az).trans al) rfl ⟨ah,rfl,by simp,aK⟩ aP
  ·refine Take.G8 (pp:=rI) [iV m] ([m]:List Int) a3 rfl rfl rfl underlying28 (Ag type3) (AO type3) (by decide) rfl rfl rfl ⟨rfl,trivial⟩ fun ci a9 bP bQ=>?_;refine JG.one (i:=3) rfl (by decide+kernel) ?_;refine Take.OA (vs:= [.slice ab (ms).length ac]) bQ (NX (aB.mono ((ae.trans ag).trans ai)) a4) rfl rfl rfl (Aw func175 rfl) rfl ?_;rintro _ ck _ ap ⟨cm,cn,co,rfl,rfl,bR⟩ bS;refine JG.one (i:=6) rfl (by decide+kernel) ?_;refine Take.app0 (pp:=rI) 5 4 bS a5 rfl rfl rfl rfl rfl rfl rfl underlying28 underlying28 (Ag type3) (Cs type3) (AO type3) rfl (by decide) (by decide) bR (bP.mono ap) rfl rfl fun aQ aR cp bT bU bV=>?_;refine Av.leaf (tail:= [7,8,9,10]) (by decide+kernel) (fun t=>A1 (by decide+kernel) (A1 (by decide+kernel) (A1 (by decide+kernel) (A1 (by decide+kernel) BM))) t) ?_;refine JS.part 5 rfl bV fun bW=>?_;refine JS.drop 5 bW rfl fun bX=>?_;refine JS.norm (S':= [[(K,.cells #[.pointer (some ⟨k1,U,none⟩),.slice Z (O).length aa,iV age,.slice ab (ms).length ac,.int .u16 ((fl:Nat):Int)] 175 (0,0))],X,[],[],a9,[],bT]) rfl bX fun bY=>?_;refine zg 1 rfl ?_;refine JL.fd underlying175 (Ag type104) rfl rfl rfl ?_;refine JL.fd underlying104 (Ag type28) rfl rfl rfl ?_;refine JS.st (v:= .slice aQ (ak).length aR) (off:=3) 0 bY (Ag type28) rfl rfl rfl rfl fun ba=>?_;refine zg 3 rfl ?_;refine JL.ld 0 (aj.mono ((ag.trans ai).trans ap)) (Al underlying173) rfl rfl rfl ?_;refine zg 1 rfl ?_;refine JL.fd underlying175 (Ag type104) rfl rfl rfl ?_;refine JL.fd underlying104 (Ag type102) rfl rfl rfl ?_;refine JL.Y (v:= .int .u16 ((fl:Nat):Int)) rfl (fun ρ h=>Yl.load (Al underlying102) (h _ _ rfl) (Cw (j:=0) (off:=4) ba rfl rfl)) ?_;obtain⟨ay,bZ,b0⟩:=bs a6;refine zg 1 rfl ?_;refine JL.Y (v:= .int .u16 ((ay:Nat):Int)) rfl (fun ρ h=>Yl.HK (h _ _ rfl) (h _ _ rfl) bZ) ?_;refine zg 1 rfl ?_;refine JL.fd underlying175 (Ag type104) rfl rfl rfl ?_;refine JL.fd underlying104 (Ag type102) rfl rfl rfl ?_;refine JS.st (v:= .int .u16 ((ay:Nat):Int)) (off:=4) 0 ba (Ag type102) rfl rfl rfl rfl fun b1=>?_;refine zg 2 rfl ?_;refine JS.BJ 6 bU b1 rfl fun cq aA b2 b3=>?_;refine JS.norm (S':= [[(K,.cells #[.pointer (some ⟨k1,U,none⟩),.slice Z (O).length aa,iV age,.slice aQ (ak).length aR,.int .u16 ((ay:Nat):Int)] 175 (0,0))],X,[],[],a9,[],[]]) rfl b3 fun b4=>?_;refine JS.drop 4 b4 rfl fun b5=>?_;obtain rfl:=oi b0;refine JL.region ?_;refine JL.Y (v:= .func (.func 176) #[] [.pointer (some ⟨ao,0,none⟩),.pointer (some ⟨an,0,none⟩)].toArray) rfl (fun ρ h=>Yl.Gm (by simp) (by simp [h (.tmp 9) _ rfl,h (.tmp 3) _ rfl])) ?_;refine JL.NP (vs:= []) (caps:= [.pointer (some ⟨ao,0,none⟩),.pointer (some ⟨an,0,none⟩)]) rfl rfl rfl rfl rfl rfl ?_;refine zg 4 rfl ?_;refine JS.split (S':= [[(K,.cells #[.pointer (some ⟨k1,U,none⟩),.slice Z (O).length aa,iV age,.slice aQ (ak).length aR,.int .u16 ((ay:Nat):Int)] 175 (0,0))]++X]) (by simp) b5 fun aJ=>?_;refine JS.G1 (vs:= []) 0 (aZ (ak,ay) rfl _ _ _ ((((ae.trans ag).trans ai).trans ap).trans aA) b2) rfl rfl rfl rfl rfl aJ rfl ?_;rintro _ bO _ al ⟨aq,mv,ar,ah,rfl,rfl,aK⟩ aL;refine zg 2 rfl ?_;refine JL.EE rfl ?_;refine JO.N2 (vs:= []) (caps:= [.pointer (some ⟨ao,0,none⟩),.pointer (some ⟨an,0,none⟩)]) rfl func176 rfl rfl (Nat.le_of_ble_eq_true rfl) fun T aM todo=>?_;refine JS.split (S':= [[(K,.cells #[.pointer (some ⟨k1,U,none⟩),.slice Z O.length aa,aq,mv,ar] 175 (0,0))],ah]) (by simp) aL fun aN=>?_;refine JL.region ?_;refine JL.ld 0 (aj.mono ((((ag.trans ai).trans ap).trans aA).trans al)) (Al underlying173) rfl rfl rfl ?_;refine JL.Bj (aG.mono ((ap.trans aA).trans al)) (Al underlying104) (Ag type104) rfl rfl ?_;refine zg 1 rfl ?_;refine JL.fd underlying175 (Ag type104) rfl rfl rfl ?_;refine JS.st (v:= .agg #[iV age,.slice ab ms.length ac,.int .u16 ((fl:Nat):Int)]) (off:=2) 0 aN (Ag type104) rfl rfl rfl rfl fun aO=>?_;refine JS.norm (S':= [[(K,.cells #[.pointer (some ⟨k1,U,none⟩),.slice Z O.length aa,iV age,.slice ab ms.length ac,.int .u16 ((fl:Nat):Int)] 175 (0,0))],ah]) rfl aO fun aP=>?_;refine JL.done ?_;refine JL.out rfl ?_;refine JO.leaveD rfl func176 rfl (.inl rfl) ?_;refine(?_:JO J Q (base 155) Tryz.f155.ntmps _ [] (a0::cs) _) T aM todo;refine JO.leave (v:= .bool true) rfl (Bx.list func155 rfl (vs:= [.bool true]) ⟨rfl,trivial⟩) ?_;exact aD _ _ _ _ (((((ae.trans ag).trans ai).trans ap).trans aA).trans al) rfl ⟨ah,rfl,by simp,aK⟩ aP
end Pal
namespace Pal
open Go Go.Conc Go.Proofs
open Go.Proofs.Tryz
def K9(fuel:Nat)(A:Br)(U:AW)(age:Int)(ms:List Int)(fl:Nat)(n:Int):Option (Nat):=
 (ix A.1 (n)).bind fun K=>
 (f120 fuel K).bind fun O=>
 some O
theorem Un{J:Judge Tryz.prog}{E:LH}{K k1 O:Nat}{al an ae ag:Ar}{am ao ah ai:Nat}{ap:List Value}{U:Br}{Z:AW}{age:Int}{ms:List Int}{fl:Nat}(ay:At E k1 O (([.slice al (U.1).length am,.slice an (U.2.1).length ao]:List Value)++ap))(az:Ao (rL rI) E al am (U.1))(aU:Ao (rL rI) E an ao (U.2.1))(aV:(rA 13 (rN .u16)).r E ap (U.2.2))(aW:Ao Bv E ae ah Z)(aX:Ao rI E ag ai ms){aa ab:Nat}(aA:At E aa ab [.pointer (some ⟨K,0,none⟩)]){aj ak kf ac:Nat}(aB:At E kf ac [.func (.func 153) #[] [.pointer (some ⟨aa,ab,none⟩),.pointer (some ⟨aj,ak,none⟩),.pointer (some ⟨kf,ac,none⟩)].toArray]){aq on:Nat}{n:Int}(aC:At E aq on [iV n]){X:Seg}{fuel:Nat}{r:Nat}(ar:K9 fuel U Z age ms fl n=some r){R:Value→LH→Seg→Prop}
  (aD:∀E',Le E E'→Aq J 153 [.int .u16 ((r:Nat):Int),.pointer (some ⟨aa,ab,none⟩),.pointer (some ⟨aj,ak,none⟩),.pointer (some ⟨kf,ac,none⟩)] E' ([(K,.cells #[.pointer (some ⟨k1,O,none⟩),.slice ae Z.length ah,iV age,.slice ag ms.length ai,.int .u16 ((fl:Nat):Int)] 175 (0,0))]++X) R):
  Aq J 156 [.pointer (some ⟨kf,ac,none⟩),.pointer (some ⟨aa,ab,none⟩),.pointer (some ⟨aq,on,none⟩)] E ([(K,.cells #[.pointer (some ⟨k1,O,none⟩),.slice ae Z.length ah,iV age,.slice ag ms.length ai,.int .u16 ((fl:Nat):Int)] 175 (0,0))]++X) R:=by
 refine Aq.en func156 rfl rfl fun Q aY cs H A aE=>?_;refine JS.split (S':= [[(K,.cells #[.pointer (some ⟨k1,O,none⟩),.slice ae Z.length ah,iV age,.slice ag ms.length ai,.int .u16 ((fl:Nat):Int)] 175 (0,0))],X]) (by simp) A fun A=>?_;unfold K9 at ar;refine zg 5 rfl ?_;refine JG.Ce 13 [K] ⟨⟨0,_,rfl⟩,trivial⟩ A mixed rfl (by decide+kernel) fun ht=>?_;refine JG.V (v:= .func (.func 153) #[] [.pointer (some ⟨aa,ab,none⟩),.pointer (some ⟨aj,ak,none⟩),.pointer (some ⟨kf,ac,none⟩)].toArray) 0 ht rfl rfl (fun ρ h s' hs=>Yl.load (Al underlying201) (h _ _ rfl) (At.CO (j:=0) aB (CM A hs ⟨⟨0,_,rfl⟩,trivial⟩) rfl)) ?_;refine JG.V (v:= .pointer (some ⟨K,0,none⟩)) 1 ht rfl rfl (fun ρ h s' hs=>Yl.load (Al underlying173) (h _ _ rfl) (At.CO (j:=0) aA (CM A hs ⟨⟨0,_,rfl⟩,trivial⟩) rfl)) ?_;refine JG.mv 2 ht rfl rfl ?_;refine JG.fd 3 ht underlying175 (Ag type94) rfl rfl rfl rfl ?_;refine JG.V (v:= .pointer (some ⟨k1,O,none⟩)) 4 ht rfl rfl (fun ρ h s' hs=>Yl.load (Al underlying94) (h _ _ rfl) (Bl (o:=0) 0 A rfl (by simp [AH]) hs rfl)) ?_;refine JG.mv 5 ht rfl rfl ?_;refine JG.fd 6 ht underlying141 (Ag type24) rfl rfl rfl rfl ?_;refine JG.fd 7 ht underlying24 (Ag type22) rfl rfl rfl rfl ?_;refine JG.V (v:= .slice al (U.1).length am) 8 ht rfl rfl (fun ρ h s' hs=>Yl.load (Al underlying22) (h _ _ rfl) (At.CO (j:=0) ay (CM A hs ⟨⟨0,_,rfl⟩,trivial⟩) rfl)) ?_;refine JG.V (v:=iV n) 9 ht rfl rfl (fun ρ h s' hs=>Yl.load (Al underlying3) (h _ _ rfl) (At.CO (j:=0) aC (CM A hs ⟨⟨0,_,rfl⟩,trivial⟩) rfl)) ?_;obtain⟨au,aF,aG⟩:=bs ar;refine JG.idx 10 az aF rfl ht (by decide+kernel) rfl rfl rfl rfl rfl underlying22 (Ag type28) ?_;rintro aZ a0 _ ⟨av,c4,rfl,aH⟩ aI;refine JG.V (v:= .slice av (au).length c4) 11 ht rfl rfl (fun ρ h s' hs=>Yl.load (Al underlying28) (h _ _ rfl) (At.CO (j:=0) aI (CM A hs ⟨⟨0,_,rfl⟩,trivial⟩) rfl)) ?_;obtain⟨aJ,aK,aL⟩:=bs aG;refine JG.Jl (i:=12) ⟨⟨0,_,rfl⟩,trivial⟩ (vs:= [.slice av (au).length c4]) (GU aH aK) (by decide+kernel) rfl rfl rfl (Aw func120 rfl) rfl A ?_;rintro _ aM _ aw ⟨rfl,rfl⟩ aN;refine Av.leaf (tail:= [13,14]) (by decide+kernel) (fun t=>A1 (by decide+kernel) (A1 (by decide+kernel) BM) t) ?_;obtain rfl:=oi aL;refine JS.split (S':= [[(K,.cells #[.pointer (some ⟨k1,O,none⟩),.slice ae Z.length ah,iV age,.slice ag ms.length ai,.int .u16 ((fl:Nat):Int)] 175 (0,0))]++X]) (by simp) aN fun aO=>?_;have aP:Dc J (.func (.func 153) #[] [.pointer (some ⟨aa,ab,none⟩),.pointer (some ⟨aj,ak,none⟩),.pointer (some ⟨kf,ac,none⟩)].toArray) [.int .u16 ((aJ:Nat):Int)] aM ([(K,.cells #[.pointer (some ⟨k1,O,none⟩),.slice ae Z.length ah,iV age,.slice ag ms.length ai,.int .u16 ((fl:Nat):Int)] 175 (0,0))]++X) R:=Dc.ofFn (caps:= [.pointer (some ⟨aa,ab,none⟩),.pointer (some ⟨aj,ak,none⟩),.pointer (some ⟨kf,ac,none⟩)]) (Aw func153 rfl) (aD _ aw);refine JS.G1 0 aP rfl rfl rfl rfl rfl aO rfl ?_;rintro w a1 aQ aR aS aT;refine zg 2 rfl ?_;refine JL.rt func156 rfl rfl ?_;exact aE _ _ _ aQ (aw.trans aR) (by simp) aS aT
end Pal
namespace Pal
open Go Go.Conc Go.Proofs
open Go.Proofs.Tryz
def K8(fuel:Nat)(A:Br)(K:AW)(age:Int)(ms:List Int)(fl:Nat)(sm:Nat):Option (Option (List Int)):=
 (KD fuel (A,K,age,ms,fl)).bind fun O=>
 if O<((ms).length:Int) then(
  some none
 ) else(
  (f89 fuel sm).bind fun U=>
  some (some U)
 )
def ON(rec:Nat→List Int→Nat→List (List Int×Nat)→Option (List (List Int×Nat)))(fuel:Nat)(A:Br)(K:AW)(age:Int)(ms:List Int)(fl:Nat)(ac:List (List Int×Nat))(n:Int):Option (List (List Int×Nat)):=
 (Lg fuel A K age ms fl n).bind fun r=>match r with
  | none=>some ac
  | some q=>(K9 fuel A K age q.1 q.2 n).bind fun s'=>rec s' q.1 q.2 ac
def Js(ok:List (List Int×Nat)→Bool)(rec:Nat→List Int→Nat→List (List Int×Nat)→Option (List (List Int×Nat)))(fuel:Nat)(A:Br)(K:AW)(age:Int)(ms:List Int)(fl:Nat)(ac:List (List Int×Nat)):Option (List Int)→Option (List (List Int×Nat))
 | none=>if ok (ac++ [(ms,fl)])=true then some (ac++ [(ms,fl)]) else none
 | some l=>if l.length≤1000 then Fi (ON rec fuel A K age ms fl) l ac else none
def H4(ok:List (List Int×Nat)→Bool)(fuel:Nat)(A:Br)(K:AW)(age:Int):Nat→Nat→List Int→Nat→List (List Int×Nat)→Option (List (List Int×Nat))
 | 0,_,_,_,_=>none
 | g+1,sm,ms,fl,ac=>(K8 fuel A K age ms fl sm).bind fun r=>Js ok (H4 ok fuel A K age g) fuel A K age ms fl ac r
theorem Ss{J:Judge Tryz.prog}{I:List (List Int×Nat)→LH→Seg→Prop}(au:∀x E E' X,Le E E'→I x E X→I x E' X){E:LH}{A k1 ab:Nat}{aS aT ae Z:Ar}{aU aV ag aa:Nat}{aW:List Value}{ak:Br}{O:AW}{age:Int}{ms:List Int}{fl:Nat}(aG:At E k1 ab (([.slice aS (ak.1).length aU,.slice aT (ak.2.1).length aV]:List Value)++aW))(aH:Ao (rL rI) E aS aU (ak.1))(aI:Ao (rL rI) E aT aV (ak.2.1))(aJ:(rA 13 (rN .u16)).r E aW (ak.2.2))(aK:Ao Bv E ae ag O)(aL:Ao rI E Z aa ms){ao ap:Nat}(ay:At E ao ap [.pointer (some ⟨A,0,none⟩)]){aA aB kf aq:Nat}(a9:At E kf aq [.func (.func 153) #[] [.pointer (some ⟨ao,ap,none⟩),.pointer (some ⟨aA,aB,none⟩),.pointer (some ⟨kf,aq,none⟩)].toArray]){aM:Value}(ba:At E aA aB [aM]){X:Seg}{acc acc':List (List Int×Nat)}{ok:List (List Int×Nat)→Bool}(aX:I acc E X){rec:Nat→List Int→Nat→List (List Int×Nat)→Option (List (List Int×Nat))}(bb:∀s' al av ac aC,rec s' al av ac=some aC→∀E' K a c,Le E E'→Ao rI E' a c al→I ac E' K→Aq J 153 [.int .u16 ((s':Nat):Int),.pointer (some ⟨ao,ap,none⟩),.pointer (some ⟨aA,aB,none⟩),.pointer (some ⟨kf,aq,none⟩)] E' ([(A,.cells #[.pointer (some ⟨k1,ab,none⟩),.slice ae O.length ag,iV age,(.slice a al.length c),(.int .u16 ((av:Nat):Int))] 175 (0,0))]++K) (fun w E' B'=>∃aN mv aO K,w= .bool true∧B'= [(A,.cells #[.pointer (some ⟨k1,ab,none⟩),.slice ae O.length ag,aN,mv,aO] 175 (0,0))]++K∧I aC E' K))(bc:∀(E':LH) (K:Seg) (ac:List (List Int×Nat)) (al:List Int) (av:Nat) (a:Ar) (c:Nat),Le E E'→Ao rI E' a c al→I ac E' K→ok (ac++ [(al,av)])=true→Dc J aM [.agg #[iV age,.slice a al.length c,.int .u16 ((av:Nat):Int)]] E' K (fun w aY bd=>w= .bool true∧I (ac++ [(al,av)]) aY bd)){sm:Nat}{fuel:Nat}{r:Option (List Int)}(aZ:K8 fuel ak O age ms fl sm=some r)(ah:Js ok rec fuel ak O age ms fl acc r=some acc'):
  Aq J 153 [.int .u16 ((sm:Nat):Int),.pointer (some ⟨ao,ap,none⟩),.pointer (some ⟨aA,aB,none⟩),.pointer (some ⟨kf,aq,none⟩)] E ([(A,.cells #[.pointer (some ⟨k1,ab,none⟩),.slice ae O.length ag,iV age,.slice Z ms.length aa,.int .u16 ((fl:Nat):Int)] 175 (0,0))]++X) (fun w E' B'=>∃aN mv aO K,w= .bool true∧B'= [(A,.cells #[.pointer (some ⟨k1,ab,none⟩),.slice ae O.length ag,aN,mv,aO] 175 (0,0))]++K∧I acc' E' K):=by
 refine Aq.en func153 rfl rfl fun Q bP cs H ar a0=>?_;refine JS.split (S':= [[(A,.cells #[.pointer (some ⟨k1,ab,none⟩),.slice ae O.length ag,iV age,.slice Z ms.length aa,.int .u16 ((fl:Nat):Int)] 175 (0,0))],X]) (by simp) ar fun ar=>?_;unfold K8 at aZ;refine zg 6 rfl ?_;refine JG.Ce 8 [A] ⟨⟨0,_,rfl⟩,trivial⟩ ar mixed rfl (by decide+kernel) fun ht=>?_;refine JG.V (v:= .pointer (some ⟨A,0,none⟩)) 0 ht rfl rfl (fun ρ h s' hs=>Yl.load (Al underlying173) (h _ _ rfl) (At.CO (j:=0) ay (CM ar hs ⟨⟨0,_,rfl⟩,trivial⟩) rfl)) ?_;refine JG.mv 1 ht rfl rfl ?_;refine JG.fd 2 ht underlying175 (Ag type104) rfl rfl rfl rfl ?_;refine JG.fd 3 ht underlying104 (Ag type28) rfl rfl rfl rfl ?_;refine JG.V (v:= .slice Z (ms).length aa) 4 ht rfl rfl (fun ρ h s' hs=>Yl.load (Al underlying28) (h _ _ rfl) (Bl (o:=3) 0 ar rfl (by simp [AH]) hs rfl)) ?_;refine JG.V 5 ht rfl rfl (fun ρ h s' hs=>Yl.len rfl underlying28 (h _ _ rfl)) ?_;refine JG.V (v:= .pointer (some ⟨A,0,none⟩)) 6 ht rfl rfl (fun ρ h s' hs=>Yl.load (Al underlying173) (h _ _ rfl) (At.CO (j:=0) ay (CM ar hs ⟨⟨0,_,rfl⟩,trivial⟩) rfl)) ?_;obtain⟨bf,bg,a1⟩:=bs aZ;refine JG.NZ (i:=7) (vs:= [.pointer (some ⟨A,0,none⟩)]) 0 ⟨⟨0,_,rfl⟩,trivial⟩ (Rg aG aH aI aJ aK aL bg) (fun _ _ _ h=>h.2) (by decide+kernel) rfl rfl rfl (Aw func154 rfl) rfl ar rfl ?_;rintro _ a2 U ⟨rfl,_⟩ am;refine Av.leaf (tail:= [8]) (by decide+kernel) (fun t=>A1 (by decide+kernel) BM t) ?_;refine zg 2 rfl ?_;refine JL.ifs (p:=bf<((ms).length:Int)) rfl (fun aP=>?_) (fun aP=>?_)
 ·have bh:=ip a1 aP;refine JL.seq ?_;refine JG.Ce 5 [A] ⟨⟨0,_,rfl⟩,trivial⟩ am mixed rfl (by decide+kernel) fun ht=>?_;refine JG.V (v:=aM) 0 ht rfl rfl (fun ρ h s' hs=>Yl.load (Al underlying200) (h _ _ rfl) (At.CO (j:=0) (ba.mono U) (CM am hs ⟨⟨0,_,rfl⟩,trivial⟩) rfl)) ?_;refine JG.V (v:= .pointer (some ⟨A,0,none⟩)) 1 ht rfl rfl (fun ρ h s' hs=>Yl.load (Al underlying173) (h _ _ rfl) (At.CO (j:=0) (ay.mono U) (CM am hs ⟨⟨0,_,rfl⟩,trivial⟩) rfl)) ?_;refine JG.mv 2 ht rfl rfl ?_;refine JG.fd 3 ht underlying175 (Ag type104) rfl rfl rfl rfl ?_;refine JG.V 4 ht rfl rfl (fun ρ h s' hs=>Yl.Bs (vs:= [iV age,.slice Z (ms).length aa,.int .u16 ((fl:Nat):Int)]) (Al underlying104) (Ag type104) (h _ _ rfl) (P5 (o:=2) 0 am rfl (by simp [AH]) hs rfl)) ?_;refine Av.leaf (tail:= [5,6]) (by decide+kernel) (fun t=>A1 (by decide+kernel) (A1 (by decide+kernel) BM) t) ?_;obtain rfl:=oi bh;have a3:ok (acc++ [(ms,fl)])=true∧acc++ [(ms,fl)]=acc':=by
   simp only [Js] at ah;split at ah
   ·exact⟨by assumption,Option.some.inj ah⟩
   ·cases ah
  obtain⟨bi,a3⟩:=a3;subst acc';refine JS.G1 (vs:= [.agg #[iV age,.slice Z ms.length aa,.int .u16 ((fl:Nat):Int)]]) 1 (bc _ _ _ _ _ _ _ U (aL.mono U) (au _ _ _ _ U aX) bi) rfl rfl rfl rfl rfl am rfl ?_;rintro _ bQ bj bk ⟨rfl,bl⟩ bm;refine zg 2 rfl ?_;refine JL.rt func153 rfl rfl ?_;exact a0 _ _ _ _ (U.trans bk) rfl ⟨iV age,.slice Z ms.length aa,.int .u16 ((fl:Nat):Int),bj,rfl,by simp,bl⟩ bm
 ·have bn:=im a1 aP;obtain⟨aj,bo,bp⟩:=bs bn;refine zg 5 rfl ?_;refine JS.cl (Gp bo) rfl rfl (Aw func89 rfl) am ?_;rintro _ bq _ aQ ⟨a4,a5,rfl,rfl,br⟩ bu;refine JL.Y rfl (fun ρ h=>Yl.len rfl underlying28 (h _ _ rfl)) ?_;refine zg 2 rfl ?_;obtain rfl:=oi bp;have bv:(aj).length≤1000∧Fi (ON rec fuel ak O age ms fl) aj acc=some acc':=by
   simp only [Js] at ah;split at ah
   ·exact⟨by assumption,ah⟩
   ·cases ah
  obtain⟨hlen,ah⟩:=bv;refine JL.block ?_;refine JL.wk [(1,.pointer (some ⟨ao,ap,none⟩)),(3,.pointer (some ⟨kf,aq,none⟩)),(24,.slice a4 (aj).length a5),(25,iV ((aj).length:Int)),(26,iV 0)] rfl ?_;refine JS.split (S':= [[(A,.cells #[.pointer (some ⟨k1,ab,none⟩),.slice ae O.length ag,iV age,.slice Z ms.length aa,.int .u16 ((fl:Nat):Int)] 175 (0,0))],X]) (by simp) bu fun bw=>?_;refine JL.Q5 (l:=aj) ah (fun L s i ac=>∃aD aw,Jn bq H aD [[(A,.cells #[.pointer (some ⟨k1,ab,none⟩),.slice ae O.length ag,iV age,.slice Z ms.length aa,.int .u16 ((fl:Nat):Int)] 175 (0,0))],aw] [(1,.pointer (some ⟨ao,ap,none⟩)),(3,.pointer (some ⟨kf,aq,none⟩)),(24,.slice a4 (aj).length a5),(25,iV ((aj).length:Int)),(26,iV ((i:Nat):Int))] L s (I ac aD aw)) ⟨_,X,rfl,rfl,Le.refl _,bw,au _ _ _ _ (U.trans aQ) aX⟩ ?_ ?_
  ·rintro _ _ i ac n aC ⟨aD,aw,rfl,rfl,az,aR,aE⟩ bx bR bz bA;have bB:=(U.trans aQ).trans az;refine zg 5 rfl ?_;rw [decide_eq_true (show((i:Nat):Int)<((aj).length:Int) by omega)];refine zg 6 rfl ?_;have bC:ix aj ((i:Nat):Int)=some n:=by unfold ix;rw [if_pos (by omega)];exact bx
   refine JS.BF (br.mono az) bC rfl rfl rfl rfl rfl underlying28 (Ag type3) ?_;rintro kk bS _ rfl bD;refine JL.ld 0 bD (Al underlying3) rfl rfl rfl ?_;refine JS.alloc rfl rfl rfl aR (AO type3) fun bE bF=>?_;refine JS.st (v:=iV n) (off:=0) 2 bF (Ag type3) rfl rfl rfl rfl fun bG=>?_;refine JS.Ba 2 bG rfl fun bT aF a6 bH=>?_;have an:=bB.trans aF;refine zg 3 rfl ?_;refine JL.ld 0 (ay.mono an) (Al underlying173) rfl rfl rfl ?_;refine JL.ld 0 a6 (Al underlying3) rfl rfl rfl ?_;refine JL.Y (v:= .func (.func 156) #[] [.pointer (some ⟨kf,aq,none⟩),.pointer (some ⟨ao,ap,none⟩),.pointer (some ⟨bE,0,none⟩)].toArray) rfl (fun ρ h=>Yl.Gm (by simp) (by simp [h (.tmp 3) _ rfl,h (.tmp 1) _ rfl,h (.tmp 7) _ rfl])) ?_;refine JS.split (S':= [[(A,.cells #[.pointer (some ⟨k1,ab,none⟩),.slice ae O.length ag,iV age,.slice Z ms.length aa,.int .u16 ((fl:Nat):Int)] 175 (0,0))]++aw]) (by simp) bH fun am=>?_;obtain⟨q,bI,a7⟩:=Option.bind_eq_some_iff.1 bz;refine JS.BL 0 (Tg au (aG.mono an) (aH.mono an) (aI.mono an) (Rp.mono _ an aJ) (aK.mono an) (aL.mono an) (acc':=aC) (au _ _ _ _ aF aE) bI (fun e=>by subst e;exact(Option.some.inj a7).symm) (fun p e E' a c hle a8=>?_)) rfl rfl (Aw func155 rfl) am rfl ?_
   ·subst e;obtain⟨s',bJ,bK⟩:=Option.bind_eq_some_iff.1 a7;have ai:=an.trans hle;exact Dc.ofFn (Aw func156 rfl) (Un (aG.mono ai) (aH.mono ai) (aI.mono ai) (Rp.mono _ ai aJ) (aK.mono ai) a8 (ay.mono ai) (a9.mono ai) (a6.mono hle) bJ fun aY U=>bb _ _ _ _ _ bK _ _ _ _ (ai.trans U) (a8.mono U) (au _ _ _ _ (hle.trans U) (au _ _ _ _ aF aE)))
   rintro _ a2 _ ai ⟨K,rfl,rfl,bL⟩ bM;refine JL.Y (v:= .bool (!true)) rfl (fun ρ h=>Yl.not (h _ _ rfl)) ?_;refine zg 5 rfl ?_;have bN:Ax (((i:Nat):Int)+1)=some (((i+1:Nat)):Int):=by unfold Ax;rw [if_pos (by omega)];simp
   refine JL.Y rfl (fun ρ h=>Yl.A0 (h _ _ rfl) (h _ _ rfl) bN) ?_;refine zg 2 rfl ?_;refine JS.split (S':= [[(A,.cells #[.pointer (some ⟨k1,ab,none⟩),.slice ae O.length ag,iV age,.slice Z ms.length aa,.int .u16 ((fl:Nat):Int)] 175 (0,0))],K]) (by simp) bM fun bO=>?_;exact JL.kw (bA _ _ ⟨a2,K,rfl,rfl,(az.trans aF).trans ai,bO,bL⟩) rfl
  ·rintro _ _ ⟨aD,aw,rfl,rfl,az,aR,aE⟩;refine zg 5 rfl ?_;rw [decide_eq_false (Int.lt_irrefl _)];refine zg 6 rfl ?_;refine JL.rt func153 rfl rfl ?_;exact a0 _ _ _ _ ((U.trans aQ).trans az) rfl ⟨iV age,.slice Z ms.length aa,.int .u16 ((fl:Nat):Int),aw,rfl,by simp,aE⟩ aR
end Pal
namespace Pal
open Go Go.Conc Go.Proofs
open Go.Proofs.Tryz
theorem Q8{J:Judge Tryz.prog}{I:List (List Int×Nat)→LH→Seg→Prop}(aC:∀x E E' X,Le E E'→I x E X→I x E' X){E:LH}{ab k1 ae:Nat}{av aw ag:Ar}{ay az ah:Nat}{aA:List Value}{K:Br}{Z:AW}{age:Int}(aD:At E k1 ae (([.slice av (K.1).length ay,.slice aw (K.2.1).length az]:List Value)++aA))(aE:Ao (rL rI) E av ay (K.1))(aF:Ao (rL rI) E aw az (K.2.1))(aG:(rA 13 (rN .u16)).r E aA (K.2.2))(aH:Ao Bv E ag ah Z){ai aj:Nat}(aI:At E ai aj [.pointer (some ⟨ab,0,none⟩)]){ak al kf am:Nat}(aJ:At E kf am [.func (.func 153) #[] [.pointer (some ⟨ai,aj,none⟩),.pointer (some ⟨ak,al,none⟩),.pointer (some ⟨kf,am,none⟩)].toArray]){aB:Value}(aK:At E ak al [aB]){fuel:Nat}{ok:List (List Int×Nat)→Bool}(aL:∀(E':LH) (aa:Seg) (ac:List (List Int×Nat)) (A:List Int) (O:Nat) (a:Ar) (c:Nat),Le E E'→Ao rI E' a c A→I ac E' aa→ok (ac++ [(A,O)])=true→Dc J aB [.agg #[iV age,.slice a A.length c,.int .u16 ((O:Nat):Int)]] E' aa (fun w aM aN=>w= .bool true∧I (ac++ [(A,O)]) aM aN)):
  ∀(g sm:Nat) (ms:List Int) (fl:Nat) (ac U:List (List Int×Nat)),H4 ok fuel K Z age g sm ms fl ac=some U→∀E' X a c,Le E E'→Ao rI E' a c ms→I ac E' X→Aq J 153 [.int .u16 ((sm:Nat):Int),.pointer (some ⟨ai,aj,none⟩),.pointer (some ⟨ak,al,none⟩),.pointer (some ⟨kf,am,none⟩)] E' ([(ab,.cells #[.pointer (some ⟨k1,ae,none⟩),.slice ag Z.length ah,iV age,(.slice a ms.length c),.int .u16 ((fl:Nat):Int)] 175 (0,0))]++X) (fun w E' B'=>∃aO mv aP aa,w= .bool true∧B'= [(ab,.cells #[.pointer (some ⟨k1,ae,none⟩),.slice ag Z.length ah,aO,mv,aP] 175 (0,0))]++aa∧I U E' aa):=by
 intro g
 induction g with
 | zero=>intro sm ms fl ac U h;cases h
 | succ g aQ=>
  intro sm ms fl ac U h E' X a c hle aR aS;obtain⟨r,aT,aU⟩:=Option.bind_eq_some_iff.1 h;exact Ss aC (aD.mono hle) (aE.mono hle) (aF.mono hle) (Rp.mono _ hle aG) (aH.mono hle) aR (aI.mono hle) (aJ.mono hle) (aK.mono hle) aS (rec:=H4 ok fuel K Z age g) (fun s' A O ac U aV an ao ap c2 aq ar au=>aQ s' A O ac U aV an ao ap c2 (hle.trans aq) ar au) (fun an ao ac A O ap c2 aq ar au aW=>aL an ao ac A O ap c2 (hle.trans aq) ar au aW) aT aU
def HZ(fuel:Nat)(A:Br)(O:AW)(age:Int):Option Nat:=
 (ix A.2.2 (age)).bind fun K=>
 some K
theorem Mv{J:Judge Tryz.prog}{I:List (List Int×Nat)→LH→Seg→Prop}(aB:∀x E E' X,Le E E'→I x E X→I x E' X){E:LH}{O k1 U:Nat}{ap aq ae:Ar}{ar au ag:Nat}{aC:List Value}{ab:Br}{Z:AW}{age:Int}(aD:At E k1 U (([.slice ap (ab.1).length ar,.slice aq (ab.2.1).length au]:List Value)++aC))(aL:Ao (rL rI) E ap ar (ab.1))(aM:Ao (rL rI) E aq au (ab.2.1))(av:(rA 13 (rN .u16)).r E aC (ab.2.2))(aN:Ao Bv E ae ag Z){ah ai:Nat}(aw:At E ah ai [.pointer (some ⟨O,0,none⟩)]){aE aF:Nat}(aG:At E aE aF [iV age]){ak mv al:Value}{ay:Go.Fn}{X:Seg}{acc acc':List (List Int×Nat)}(aO:I acc E X){ok:List (List Int×Nat)→Bool}{fuel:Nat}(aP:∀(E':LH) (aa:Seg) (ac:List (List Int×Nat)) (ao:List Int) (az:Nat) (a:Ar) (c:Nat),Le E E'→Ao rI E' a c ao→I ac E' aa→ok (ac++ [(ao,az)])=true→Dc J (.func ay #[] #[]) [.agg #[iV age,.slice a ao.length c,.int .u16 ((az:Nat):Int)]] E' aa (fun w aQ aR=>w= .bool true∧I (ac++ [(ao,az)]) aQ aR)){r:Nat}(aH:HZ fuel ab Z age=some r)(aS:H4 ok fuel ab Z age fuel r [] 0 acc=some acc'):
  Aq J 152 [.func ay #[] #[],.pointer (some ⟨aE,aF,none⟩),.pointer (some ⟨ah,ai,none⟩)] E ([(O,.cells #[.pointer (some ⟨k1,U,none⟩),.slice ae Z.length ag,ak,mv,al] 175 (0,0))]++X) (fun w E' B'=>∃ak mv al aa,w= .tuple #[]∧B'= [(O,.cells #[.pointer (some ⟨k1,U,none⟩),.slice ae Z.length ag,ak,mv,al] 175 (0,0))]++aa∧I acc' E' aa):=by
 refine Aq.en func152 rfl rfl fun Q bm cs H aA aT=>?_;refine JS.split (S':= [[(O,.cells #[.pointer (some ⟨k1,U,none⟩),.slice ae Z.length ag,ak,mv,al] 175 (0,0))],X]) (by simp) aA fun aA=>?_;unfold HZ at aH;refine zg 2 rfl ?_;refine JS.box (v:= .func ay #[] #[]) rfl rfl rfl aA rfl fun an aU=>?_;refine JS.Ba 2 aU rfl fun bn A aV aW=>?_;refine zg 3 rfl ?_;refine JL.ld 0 (aw.mono A) (Al underlying173) rfl rfl rfl ?_;refine JL.ld 0 (aG.mono A) (Al underlying3) rfl rfl rfl ?_;refine JL.Y (v:= .agg #[iV age,.slice none 0 0,.int .u16 ((0:Nat):Int)]) rfl (fun ρ h=>Yl.Cb [(0,1),(1,1),(2,1)] h (AO type104) underlying104 ⟨rfl,Ag type3,rfl,Ag type28,rfl,Ag type102,trivial⟩ rfl rfl) ?_;refine zg 1 rfl ?_;refine JL.fd underlying175 (Ag type104) rfl rfl rfl ?_;refine JS.st (v:= .agg #[iV age,.slice none 0 0,.int .u16 ((0:Nat):Int)]) (off:=2) 0 aW (Ag type104) rfl rfl rfl rfl fun aX=>?_;refine zg 3 rfl ?_;refine JS.alloc rfl rfl rfl aX (AO type201) fun am aY=>?_;refine JS.norm (S':= [[(O,.cells #[.pointer (some ⟨k1,U,none⟩),.slice ae (Z).length ag,iV age,.slice none 0 0,.int .u16 ((0:Nat):Int)] 175 (0,0))],X,[],[(am,.cells #[.nilFunc] 201 (0,0))]]) rfl aY fun aZ=>?_;refine zg 3 rfl ?_;refine JL.Y (v:= .func (.func 153) #[] ([.pointer (some ⟨ah,ai,none⟩),.pointer (some ⟨an,0,none⟩),.pointer (some ⟨am,0,none⟩)]:List Value).toArray) rfl (fun ρ h=>Yl.Gm (by simp) (by simp [h (.tmp 2) _ rfl,h (.tmp 3) _ rfl,h (.tmp 4) _ rfl])) ?_;refine JS.st (v:= .func (.func 153) #[] ([.pointer (some ⟨ah,ai,none⟩),.pointer (some ⟨an,0,none⟩),.pointer (some ⟨am,0,none⟩)]:List Value).toArray) (off:=0) 3 aZ (Ag type201) rfl rfl rfl rfl fun a0=>?_;refine JS.Ba 3 a0 rfl fun a1 K aI aj=>?_;refine JL.done ?_;refine JG.Ce 11 [O] ⟨⟨0,_,rfl⟩,trivial⟩ aj mixed rfl (by decide+kernel) fun ht=>?_;refine JG.V (v:= .func (.func 153) #[] ([.pointer (some ⟨ah,ai,none⟩),.pointer (some ⟨an,0,none⟩),.pointer (some ⟨am,0,none⟩)]:List Value).toArray) 0 ht rfl rfl (fun ρ h s' hs=>Yl.load (Al underlying201) (h _ _ rfl) (At.CO (j:=0) aI (CM aj hs ⟨⟨0,_,rfl⟩,trivial⟩) rfl)) ?_;refine JG.V (v:= .pointer (some ⟨O,0,none⟩)) 1 ht rfl rfl (fun ρ h s' hs=>Yl.load (Al underlying173) (h _ _ rfl) (At.CO (j:=0) (aw.mono (A.trans K)) (CM aj hs ⟨⟨0,_,rfl⟩,trivial⟩) rfl)) ?_;refine JG.mv 2 ht rfl rfl ?_;refine JG.fd 3 ht underlying175 (Ag type94) rfl rfl rfl rfl ?_;refine JG.V (v:= .pointer (some ⟨k1,U,none⟩)) 4 ht rfl rfl (fun ρ h s' hs=>Yl.load (Al underlying94) (h _ _ rfl) (Bl (o:=0) 0 aj rfl (by simp [AH]) hs rfl)) ?_;refine JG.V (v:=iV age) 5 ht rfl rfl (fun ρ h s' hs=>Yl.load (Al underlying3) (h _ _ rfl) (At.CO (j:=0) (aG.mono (A.trans K)) (CM aj hs ⟨⟨0,_,rfl⟩,trivial⟩) rfl)) ?_;refine JG.mv 6 ht rfl rfl ?_;refine JG.fd 7 ht underlying141 (Ag type139) rfl rfl rfl rfl ?_;obtain⟨aJ,aK,a2⟩:=bs aH;obtain⟨_,rfl,a3,_,_⟩:=Ou (kk:=13) (pp:=(rN .u16)) (Rp.mono _ (A.trans K) av) (At.tail (l:= [.slice ap (ab.1).length ar,.slice aq (ab.2.1).length au]) (aD.mono (A.trans K))) aK;refine JG.V (v:= .pointer (some ⟨k1,(U+2+Int.toNat (age)*1),none⟩)) 8 ht rfl rfl (fun ρ h s' hs=>Yl.G3 (kk:=13) (pp:=(rN .u16)) (Rp.mono _ (A.trans K) av) aK underlying139 (Ag type138) (h _ _ rfl) (h _ _ rfl)) ?_;refine JG.fd 9 ht underlying138 (Ag type102) rfl rfl rfl rfl ?_;refine JG.V (v:= .int .u16 ((aJ:Nat):Int)) 10 ht rfl rfl (fun ρ h s' hs=>Yl.load (Al underlying102) (h _ _ rfl) (At.CO (j:=0) a3 (CM aj hs ⟨⟨0,_,rfl⟩,trivial⟩) rfl)) ?_;refine Av.leaf (tail:= [11]) (by decide+kernel) (fun t=>A1 (by decide+kernel) BM t) ?_;obtain rfl:=oi a2;have a4:Dc J (.func (.func 153) #[] [.pointer (some ⟨ah,ai,none⟩),.pointer (some ⟨an,0,none⟩),.pointer (some ⟨am,0,none⟩)].toArray) [.int .u16 ((aJ:Nat):Int)] a1 ([(O,.cells #[.pointer (some ⟨k1,U,none⟩),.slice ae Z.length ag,iV age,.slice none 0 0,.int .u16 ((0:Nat):Int)] 175 (0,0))]++X) (fun w E' B'=>∃ak mv al aa,w= .bool true∧B'= [(O,.cells #[.pointer (some ⟨k1,U,none⟩),.slice ae Z.length ag,ak,mv,al] 175 (0,0))]++aa∧I acc' E' aa):=Dc.ofFn (caps:= [.pointer (some ⟨ah,ai,none⟩),.pointer (some ⟨an,0,none⟩),.pointer (some ⟨am,0,none⟩)]) (Aw func153 rfl) (Q8 aB (aD.mono (A.trans K)) (aL.mono (A.trans K)) (aM.mono (A.trans K)) (Rp.mono _ (A.trans K) av) (aN.mono (A.trans K)) (aw.mono (A.trans K)) aI (aV.mono K) (fun a5 a6 ac a7 a8 a9 c2 ba bb bc bd=>aP a5 a6 ac a7 a8 a9 c2 (((A.trans K)).trans ba) bb bc bd) _ _ _ _ _ _ aS _ _ _ _ (Le.refl _) Ao.nil (aB _ _ _ _ (A.trans K) aO));refine JS.split (S':= [[(O,.cells #[.pointer (some ⟨k1,U,none⟩),.slice ae Z.length ag,iV age,.slice none 0 0,.int .u16 ((0:Nat):Int)] 175 (0,0))]++X]) (by simp) aj fun bf=>?_;refine JS.G1 0 a4 rfl rfl rfl rfl rfl bf rfl ?_;rintro w bo _ bg ⟨bh,bi,bj,aa,rfl,rfl,bk⟩ bl;refine JL.done ?_;refine JL.fin (v:= .tuple #[]) rfl rfl (Bx.list func152 rfl (vs:= []) trivial) ?_;exact aT _ _ _ _ ((A.trans K).trans bg) rfl ⟨bh,bi,bj,aa,rfl,by simp,bk⟩ bl
end Pal
namespace Pal
open Go Go.Conc Go.Proofs
open Go.Proofs.Tryz
noncomputable def F3:Code:=match Tryz.f127.body with | some (.seq _ (.seq _ (.seq (.seq _ (.block _ (.rangeFunc _ _ a _))) _)))=>a | _=> .skip
noncomputable def F2:Code:=match Tryz.f127.body with | some (.seq _ (.seq _ (.seq (.seq _ (.block _ (.rangeFunc _ _ _ b))) _)))=>b | _=> .skip
def add1(fuel:Nat)(age:Int)(q:Int×List (By))(x:List Int×Nat):Option (Int×List (By)):=
 (f130 fuel (age,x.1,x.2)).bind fun n=>He fuel q.1 q.2 (age,x.1,x.2) n
def Gj(fuel:Nat)(age:Int)(ac:List (List Int×Nat)):Option (Int×List (By)):=Fi (add1 fuel age) ac (0,[])
def IP(fuel:Nat)(age:Int)(l A K:Nat)(T:Array Value)(ac:List (List Int×Nat))(E:LH)(X:Seg):Prop:=
 ∃q a c g,Gj fuel age ac=some q∧X=(l,.loop ⟨.ready,none,127,T,#[17],F3,F2,K⟩)::([(A,.cells #[iV age,iV q.1,.slice a q.2.length c] 133 (0,0))]++g)∧OL 104 Ca E a c g q.2
theorem IP.mono{fuel:Nat}{age:Int}{l A K:Nat}{T:Array Value}:∀(ac:List (List Int×Nat)) (E E':LH) (X:Seg),Le E E'→IP fuel age l A K T ac E X→IP fuel age l A K T ac E' X:=
 fun ac E E' X hle ⟨q,a,c,g,O,U,Z⟩=>⟨q,a,c,g,O,U,Z.mono hle⟩
theorem LQ{α B:Type}{step:B→α→Option B}:∀{l:List α} {x:α} {b:B},Fi step (l++ [x]) b=(Fi step l b).bind fun A=>step A x
 | [],x,b=>by simp [Fi]
 | y::l,x,b=>by
  simp only [List.cons_append,Fi]
  cases step b y with
  | none=>rfl
  | some A=>exact LQ
theorem MP{J:Judge Tryz.prog}{fuel:Nat}{age:Int}{l A U:Nat}{T:Array Value}(ak:Has Tryz.f127.ntmps [(6,.pointer (some ⟨A,0,none⟩))] T){E:LH}{X:Seg}{ac:List (List Int×Nat)}{ms:List Int}{fl:Nat}{K:Ar}{O:Nat}(ag:Ao rI E K O ms)(al:IP fuel age l A U T ac E X)(am:(Gj fuel age (ac++ [(ms,fl)])).isSome=true):
  Dc J (.func (.yield l) #[] #[]) [.agg #[iV age,.slice K ms.length O,.int .u16 ((fl:Nat):Int)]] E X (fun w E' an=>w= .bool true∧IP fuel age l A U T (ac++ [(ms,fl)]) E' an):=by
 obtain⟨q,a,c,g,ah,rfl,ao⟩:=al;obtain⟨r,he⟩:=Option.isSome_iff_exists.1 am;have ai:add1 fuel age q (ms,fl)=some r:=by
  have aa:=he;unfold Gj at aa ah;rw [LQ,ah] at aa;exact aa
 refine Dc.yield (i:=0) (t:=17) rfl rfl fun Q ap cs H ab aq=>?_;refine(?_:JL J Q (Oi l 127) Tryz.f127.ntmps [(17,.agg #[iV age,.slice K ms.length O,.int .u16 ((fl:Nat):Int)]),(6,.pointer (some ⟨A,0,none⟩))] [] [.code F3,.beginRound,.code F2] (ap::cs) _) _ (ak.put (d:=some 17) rfl _);refine JS.split (S':= [[(l,.loop ⟨.ready,none,127,T,#[17],F3,F2,U⟩)],[(A,.cells #[iV age,iV q.1,.slice a q.2.length c] 133 (0,0))],g]) (by simp) ab fun ab=>?_;unfold add1 at ai;refine JL.region ?_;refine JS.alloc rfl rfl rfl ab (AO type104) fun aI ar=>?_;refine JS.st (v:= .agg #[iV age,.slice K (ms).length O,.int .u16 ((fl:Nat):Int)]) (off:=0) 3 ar (Ag type104) rfl rfl rfl rfl fun au=>?_;refine JS.Ba 3 au rfl fun aJ Z aj av=>?_;refine JL.done ?_;refine JL.beginRound 0 rfl rfl av rfl rfl fun aw=>?_;refine JL.block ?_;refine JG.Co 4 mixed rfl (by decide+kernel) fun ht=>?_;refine JG.fd 0 ht underlying133 (Ag type97) rfl rfl rfl rfl ?_;refine JG.Bj 1 ht aj (Al underlying104) (Ag type104) rfl rfl rfl ?_;refine JG.Bj 2 ht aj (Al underlying104) (Ag type104) rfl rfl rfl ?_;obtain⟨aK,ay,az⟩:=bs ai;refine JG.call (i:=3) (vs:= [.agg #[iV age,.slice K (ms).length O,.int .u16 ((fl:Nat):Int)]]) (Tf (p0:=(age,ms,fl)) (ag.mono Z) ay) (by decide+kernel) rfl rfl rfl (Aw func130 rfl) rfl aw ?_;rintro _ aL _ ae ⟨rfl,rfl⟩ aA;refine Av.leaf (tail:= [4]) (by decide+kernel) (fun t=>A1 (by decide+kernel) BM t) ?_;refine JS.split (S':= [[(l,.loop ⟨.busy,none,127,T,#[17],F3,F2,U⟩)],[(A,.cells #[iV age,iV q.1,.slice a q.2.length c] 133 (0,0))]++g]) (by simp) aA fun aB=>?_;refine JS.BL 1 (TA ((ao.mono (Z.trans ae))) (tr:=(age,ms,fl)) (ag.mono (Z.trans ae)) az) rfl rfl (Aw func122 rfl) aB rfl ?_;rintro _ aM _ aC ⟨aD,aE,g',rfl,rfl,aF⟩ aG;refine zg 2 rfl ?_;refine JL.endRound 0 rfl rfl aG rfl fun aH=>?_;exact aq _ _ _ _ ((Z.trans ae).trans aC) rfl ⟨rfl,r,aD,aE,g',he,by simp,aF⟩ aH
end Pal
namespace Pal
open Go Go.Conc Go.Proofs
open Go.Proofs.Tryz
open Go.Conc.Lib Go.ConcR.Gen
theorem L6{J:Judge Tryz.prog}{E:LH}{A:Nat}{age:Int}:Aq J 129 [.pointer (some ⟨A,0,none⟩),iV age] E [] (fun w E' B'=>∃K O,w= .func (.func 152) #[] [.pointer (some ⟨K,0,none⟩),.pointer (some ⟨O,0,none⟩)].toArray∧B'= []∧At E' K 0 [iV age]∧At E' O 0 [.pointer (some ⟨A,0,none⟩)]):=by
 refine Aq.en func129 rfl rfl fun Q am cs H ab ac=>?_;refine zg 2 rfl ?_;refine JS.box (v:= .pointer (some ⟨A,0,none⟩)) rfl rfl rfl ab rfl fun U ae=>?_;refine JS.Ba 1 ae rfl fun an ag ah ai=>?_;refine JS.box (v:=iV age) rfl rfl rfl ai rfl fun Z aj=>?_;refine JS.Ba 2 aj rfl fun ao aa ak al=>?_;refine zg 4 rfl ?_;refine JL.Y (v:= .func (.func 152) #[] ([.pointer (some ⟨Z,0,none⟩),.pointer (some ⟨U,0,none⟩)]:List Value).toArray) rfl (fun ρ h=>Yl.Gm (by simp) (by simp [h (.tmp 3) _ rfl,h (.tmp 2) _ rfl])) ?_;refine zg 2 rfl ?_;refine JL.rt func129 rfl rfl ?_;exact ac _ _ _ _ (ag.trans aa) rfl ⟨Z,U,rfl,by simp,ak,(ah.mono aa)⟩ al
def FG(fuel:Nat)(A:Br)(K:AW)(age:Int):Option (Int×List (By)):=
 (HZ fuel A K age).bind fun s=>(H4 (fun ac=>(Gj fuel age ac).isSome) fuel A K age fuel s [] 0 []).bind fun tr=>Gj fuel age tr
theorem QJ{L:WgLink}(aB:WgLib Tryz.prog L)(a6:L.done=128){F:Fam}{j:Nat}{E:LH}{k1 O:Nat}{a7 a8 U:Ar}{a9 ba Z:Nat}{bb:List Value}{ak:Br}{K:AW}{age:Int}(bc:At E k1 O (([.slice a7 (ak.1).length a9,.slice a8 (ak.2.1).length ba]:List Value)++bb))(bd:Ao (rL rI) E a7 a9 (ak.1))(bf:Ao (rL rI) E a8 ba (ak.2.1))(bg:(rA 13 (rN .u16)).r E bb (ak.2.2))(bh:Ao Bv E U Z K){aC aD aE ol ka al kc ag:Nat}(bl:At E aC aD [.pointer (some ⟨k1,O,none⟩)])(bm:At E aE ol [.slice U K.length Z])(aH:At E ka al [iV age])(bi:At E kc ag [.chan (some F.ch)])
  {fuel:Nat} {q:Int×List (By)} (aF:FG fuel ak K age=some q) (aG:F.has j=decide (0<q.2.length)) (bj:∀E' a c,Le E E'→Ao Ca E' a c q.2→F.msg j (.agg #[iV age,iV q.1,.slice a q.2.length c]) E'):
  Way Tryz.prog false (Stop Tryz.prog F (F.start j)) (born Tryz.prog ⟨.fn (.func 127) [.pointer (some F.sA),.pointer (some ⟨aC,aD,none⟩),.pointer (some ⟨aE,ol,none⟩),.pointer (some ⟨ka,al,none⟩),.pointer (some ⟨kc,ag,none⟩)].toArray,#[]⟩) ⟨E,fun _=>none,false⟩:=by
 refine Ml (fn:=Tryz.f127) (vs:= [.pointer (some F.sA),.pointer (some ⟨aC,aD,none⟩),.pointer (some ⟨aE,ol,none⟩),.pointer (some ⟨ka,al,none⟩),.pointer (some ⟨kc,ag,none⟩)]) func127 rfl rfl (by simp) (Nat.le_of_ble_eq_true rfl) ?_;obtain⟨H,bn⟩:∃H:LH,H=fun _=>none:=⟨_,rfl⟩;rw [← bn];have bk:Ay E H []:=trivial;refine(?_:JL (A8 Tryz.prog false) (Stop Tryz.prog F (F.start j)) (baseD 127) Tryz.f127.ntmps (DZ 0 [.pointer (some F.sA),.pointer (some ⟨aC,aD,none⟩),.pointer (some ⟨aE,ol,none⟩),.pointer (some ⟨ka,al,none⟩),.pointer (some ⟨kc,ag,none⟩)]) [] [.code _] [FF Tryz.prog] (Ap E H []));refine zg 2 rfl ?_;refine JL.defer (vs:= [.pointer (some F.sA)]) rfl rfl rfl rfl rfl ?_;refine zg 2 rfl ?_;refine JG.Co 8 mixed rfl (by decide+kernel) fun ht=>?_;refine JG.ld 0 ht 0 bl (Al underlying94) rfl rfl rfl rfl ?_;refine JG.ld 1 ht 0 bm (Al underlying25) rfl rfl rfl rfl ?_;refine JG.V (v:= .agg #[.pointer (some ⟨k1,O,none⟩),.slice U (K).length Z,iV 0,.slice none 0 0,.int .u16 ((0:Nat):Int)]) 2 ht rfl rfl (fun ρ h s' hs=>Yl.Cb [(0,1),(1,1),(2,3)] h (AO type175) underlying175 ⟨rfl,Ag type94,rfl,Ag type25,rfl,Ag type104,trivial⟩ rfl rfl) ?_;refine JG.ld 4 ht 0 aH (Al underlying3) rfl rfl rfl rfl ?_;refine JG.V (v:= .agg #[iV age,iV 0,.slice none 0 0]) 5 ht rfl rfl (fun ρ h s' hs=>Yl.Cb [(0,1),(1,2)] h (AO type133) underlying133 ⟨rfl,Ag type3,rfl,Ag type97,trivial⟩ rfl rfl) ?_;refine JG.two (i:=3) (j:=6) rfl (by decide+kernel) ?_ ?_
 ·refine Take.OJ (v:= .agg #[.pointer (some ⟨k1,O,none⟩),.slice U (K).length Z,iV 0,.slice none 0 0,.int .u16 ((0:Nat):Int)]) bk rfl rfl rfl rfl fun am ao=>?_;refine JG.one (i:=6) rfl (by decide+kernel) ?_;refine Take.NK ao rfl rfl rfl (AO type133) fun ah ap=>?_;refine JG.mv 7 ht rfl rfl ?_;refine Av.leaf (tail:= [8]) (by decide+kernel) (fun t=>A1 (by decide+kernel) BM t) ?_;refine JS.norm (S':= [[(am,.cells #[.pointer (some ⟨k1,O,none⟩),.slice U (K).length Z,iV 0,.slice none 0 0,.int .u16 ((0:Nat):Int)] 175 (0,0))],[(ah,.cells #[iV 0,iV 0,.slice none 0 0] 133 (0,0))]]) rfl ap fun aq=>?_;refine JS.st (v:= .agg #[iV age,iV 0,.slice none 0 0]) (off:=0) 1 aq (Ag type133) rfl rfl rfl rfl fun ae=>?_;refine zg 3 rfl ?_;refine JS.norm (S':= [[(am,.cells #[.pointer (some ⟨k1,O,none⟩),.slice U K.length Z,iV 0,.slice none 0 0,.int .u16 ((0:Nat):Int)] 175 (0,0))],[(ah,.cells #[iV age,iV 0,.slice none 0 0] 133 (0,0))]]) rfl ae fun aI=>?_;refine JL.wk [(3,.pointer (some ⟨ka,al,none⟩)),(4,.pointer (some ⟨kc,ag,none⟩)),(5,.pointer (some ⟨am,0,none⟩)),(6,.pointer (some ⟨ah,0,none⟩))] rfl ?_;have ar:Le E E:=(Le.refl _);refine zg 2 rfl ?_;refine JL.ld 0 (aH.mono ar) (Al underlying3) rfl rfl rfl ?_;refine JS.cl L6 rfl rfl (Aw func129 rfl) aI ?_;rintro _ bo _ aJ ⟨au,av,rfl,rfl,aK,aL⟩ ao;have aa:=ar.trans aJ;refine zg 2 rfl ?_;refine JS.split (S':= [[(am,.cells #[.pointer (some ⟨k1,O,none⟩),.slice U K.length Z,iV 0,.slice none 0 0,.int .u16 ((0:Nat):Int)] 175 (0,0))],[(ah,.cells #[iV age,iV 0,.slice none 0 0] 133 (0,0))]]) (by simp) ao fun aM=>?_;refine JL.rangeFunc (caps:= [.pointer (some ⟨au,0,none⟩),.pointer (some ⟨av,0,none⟩)]) rfl (by intro e;cases e) rfl (Aw func152 rfl) aM fun ab l T aw aN=>?_;refine J8 (S':= [[(am,.cells #[.pointer (some ⟨k1,O,none⟩),.slice U K.length Z,iV 0,.slice none 0 0,.int .u16 ((0:Nat):Int)] 175 (0,0))]++([(l,.loop ⟨.ready,none,127,T,#[17],F3,F2,ab⟩)]++ [(ah,.cells #[iV age,iV 0,.slice none 0 0] 133 (0,0))]),[(ab,.deferred (some []))]]) NC aN fun ap=>?_;unfold FG at aF;obtain⟨bp,aO,aP⟩:=Option.bind_eq_some_iff.1 aF;obtain⟨tr,aQ,aR⟩:=Option.bind_eq_some_iff.1 aP;refine My (vs:= [.func (.yield l) #[] #[],.pointer (some ⟨au,0,none⟩),.pointer (some ⟨av,0,none⟩)]) 0 (Mv (I:=IP fuel age l ah ab T) (ok:=fun ac=>(Gj fuel age ac).isSome) (acc:= []) IP.mono (bc.mono aa) (bd.mono aa) (bf.mono aa) (Rp.mono _ aa bg) (bh.mono aa) aL aK ⟨(0,[]),none,0,[],rfl,rfl,OL.nil⟩ (fun E' aS ac bq br a c hle aT aU aV=>MP (aw.sub ⟨rfl,trivial⟩) aT aU aV) aO aQ) ap rfl ?_;rintro _ bu _ aW ⟨aX,mv,aY,aS,rfl,rfl,A,a,c,g,aZ,rfl,a0⟩ a1;obtain rfl:A=q:=Option.some.inj (aZ.symm.trans aR);refine Nt (S':= [[(am,.cells #[.pointer (some ⟨k1,O,none⟩),.slice U K.length Z,aX,mv,aY] 175 (0,0))],[(l,.loop ⟨.ready,none,127,T,#[17],F3,F2,ab⟩)],[(ah,.cells #[iV age,iV A.1,.slice a A.2.length c] 133 (0,0))],g,[(ab,.deferred (some []))]]) (by simp) a1 fun aq=>?_;refine LB 1 aq rfl rfl rfl fun ae=>?_;refine(?_:JL (A8 Tryz.prog false) (Stop Tryz.prog F (F.start j)) (baseD 127) Tryz.f127.ntmps [(4,.pointer (some ⟨kc,ag,none⟩)),(6,.pointer (some ⟨ah,0,none⟩))] [⟨.collected ab,#[]⟩,dcall 128 #[.pointer (some F.sA)]] _ [FF Tryz.prog] _) T (aw.sub ⟨rfl,rfl,trivial⟩);have ay:=aa.trans aW;have a2:dcall 128 #[.pointer (some F.sA)]=dcall L.done #[.pointer (some F.sA)]:=by rw [a6]
  rw [a2];refine zg 3 rfl ?_;refine JL.fd underlying133 (Ag type97) rfl rfl rfl ?_;refine JL.fd underlying97 (Ag type95) rfl rfl rfl ?_;refine JL.Y (v:= .slice a A.2.length c) rfl (fun ρ h=>Yl.load (Al underlying95) (h _ _ rfl) (Cw (j:=2) (off:=2) ae rfl rfl)) ?_;refine JL.Y rfl (fun ρ h=>Yl.len rfl underlying95 (h _ _ rfl)) ?_;refine zg 2 rfl ?_;refine JL.ifs (p:=0<((A.2).length:Int)) rfl (fun a3=>?_) (fun a3=>?_)
  ·have aj:F.start j= .BN j:=by unfold Fam.start;rw [aG,decide_eq_true (show 0<A.2.length by omega)];rfl
   rw [aj];refine JL.region ?_;refine JL.ld 0 (bi.mono ay) (Al underlying162) rfl rfl rfl ?_;refine JS.BJ 3 a0 ae rfl fun bv a4 a5 az=>?_;refine JL.Y rfl (fun ρ h=>Yl.Bs (vs:= [iV age,iV A.1,.slice a A.2.length c]) (Al underlying133) (Ag type133) (h _ _ rfl) (D8 (off:=0) 2 az rfl rfl)) ?_;refine JL.OE rfl rfl rfl rfl rfl rfl rfl (bj _ _ _ (ay.trans a4) a5) ?_;refine JL.done ?_;exact JL.out rfl (JO.collected 4 rfl az rfl fun aA=>JO.I8 aB rfl rfl (JO.leaveD rfl func127 rfl (.inr rfl) Hk))
  ·have aj:F.start j= .BY:=by unfold Fam.start;rw [aG,decide_eq_false (show ¬0<A.2.length by omega)];rfl
   rw [aj];refine JL.skip ?_;exact JL.out rfl (JO.collected 4 rfl ae rfl fun aA=>JO.I8 aB rfl rfl (JO.leaveD rfl func127 rfl (.inr rfl) Hk))
 ·refine Take.NK bk rfl rfl rfl (AO type133) fun ai aA=>?_;refine JG.one (i:=3) rfl (by decide+kernel) ?_;refine Take.OJ (v:= .agg #[.pointer (some ⟨k1,O,none⟩),.slice U (K).length Z,iV 0,.slice none 0 0,.int .u16 ((0:Nat):Int)]) aA rfl rfl rfl rfl fun an bw=>?_;refine JG.mv 7 ht rfl rfl ?_;refine Av.leaf (tail:= [8]) (by decide+kernel) (fun t=>A1 (by decide+kernel) BM t) ?_;refine JS.norm (S':= [[(ai,.cells #[iV 0,iV 0,.slice none 0 0] 133 (0,0))],[(an,.cells #[.pointer (some ⟨k1,O,none⟩),.slice U (K).length Z,iV 0,.slice none 0 0,.int .u16 ((0:Nat):Int)] 175 (0,0))]]) rfl bw fun bx=>?_;refine JS.st (v:= .agg #[iV age,iV 0,.slice none 0 0]) (off:=0) 0 bx (Ag type133) rfl rfl rfl rfl fun bz=>?_;refine zg 3 rfl ?_;refine JS.perm (S':= [[(an,.cells #[.pointer (some ⟨k1,O,none⟩),.slice U K.length Z,iV 0,.slice none 0 0,.int .u16 ((0:Nat):Int)] 175 (0,0))],[(ai,.cells #[iV age,iV 0,.slice none 0 0] 133 (0,0))]]) (List.Perm.swap _ _ _) bz fun aI=>?_;refine JL.wk [(3,.pointer (some ⟨ka,al,none⟩)),(4,.pointer (some ⟨kc,ag,none⟩)),(5,.pointer (some ⟨an,0,none⟩)),(6,.pointer (some ⟨ai,0,none⟩))] rfl ?_;have ar:Le E E:=(Le.refl _);refine zg 2 rfl ?_;refine JL.ld 0 (aH.mono ar) (Al underlying3) rfl rfl rfl ?_;refine JS.cl L6 rfl rfl (Aw func129 rfl) aI ?_;rintro _ bo _ aJ ⟨au,av,rfl,rfl,aK,aL⟩ ao;have aa:=ar.trans aJ;refine zg 2 rfl ?_;refine JS.split (S':= [[(an,.cells #[.pointer (some ⟨k1,O,none⟩),.slice U K.length Z,iV 0,.slice none 0 0,.int .u16 ((0:Nat):Int)] 175 (0,0))],[(ai,.cells #[iV age,iV 0,.slice none 0 0] 133 (0,0))]]) (by simp) ao fun aM=>?_;refine JL.rangeFunc (caps:= [.pointer (some ⟨au,0,none⟩),.pointer (some ⟨av,0,none⟩)]) rfl (by intro e;cases e) rfl (Aw func152 rfl) aM fun ab l T aw aN=>?_;refine J8 (S':= [[(an,.cells #[.pointer (some ⟨k1,O,none⟩),.slice U K.length Z,iV 0,.slice none 0 0,.int .u16 ((0:Nat):Int)] 175 (0,0))]++([(l,.loop ⟨.ready,none,127,T,#[17],F3,F2,ab⟩)]++ [(ai,.cells #[iV age,iV 0,.slice none 0 0] 133 (0,0))]),[(ab,.deferred (some []))]]) NC aN fun ap=>?_;unfold FG at aF;obtain⟨bp,aO,aP⟩:=Option.bind_eq_some_iff.1 aF;obtain⟨tr,aQ,aR⟩:=Option.bind_eq_some_iff.1 aP;refine My (vs:= [.func (.yield l) #[] #[],.pointer (some ⟨au,0,none⟩),.pointer (some ⟨av,0,none⟩)]) 0 (Mv (I:=IP fuel age l ai ab T) (ok:=fun ac=>(Gj fuel age ac).isSome) (acc:= []) IP.mono (bc.mono aa) (bd.mono aa) (bf.mono aa) (Rp.mono _ aa bg) (bh.mono aa) aL aK ⟨(0,[]),none,0,[],rfl,rfl,OL.nil⟩ (fun E' aS ac bq br a c hle aT aU aV=>MP (aw.sub ⟨rfl,trivial⟩) aT aU aV) aO aQ) ap rfl ?_;rintro _ bu _ aW ⟨aX,mv,aY,aS,rfl,rfl,A,a,c,g,aZ,rfl,a0⟩ a1;obtain rfl:A=q:=Option.some.inj (aZ.symm.trans aR);refine Nt (S':= [[(an,.cells #[.pointer (some ⟨k1,O,none⟩),.slice U K.length Z,aX,mv,aY] 175 (0,0))],[(l,.loop ⟨.ready,none,127,T,#[17],F3,F2,ab⟩)],[(ai,.cells #[iV age,iV A.1,.slice a A.2.length c] 133 (0,0))],g,[(ab,.deferred (some []))]]) (by simp) a1 fun aq=>?_;refine LB 1 aq rfl rfl rfl fun ae=>?_;refine(?_:JL (A8 Tryz.prog false) (Stop Tryz.prog F (F.start j)) (baseD 127) Tryz.f127.ntmps [(4,.pointer (some ⟨kc,ag,none⟩)),(6,.pointer (some ⟨ai,0,none⟩))] [⟨.collected ab,#[]⟩,dcall 128 #[.pointer (some F.sA)]] _ [FF Tryz.prog] _) T (aw.sub ⟨rfl,rfl,trivial⟩);have ay:=aa.trans aW;have a2:dcall 128 #[.pointer (some F.sA)]=dcall L.done #[.pointer (some F.sA)]:=by rw [a6]
  rw [a2];refine zg 3 rfl ?_;refine JL.fd underlying133 (Ag type97) rfl rfl rfl ?_;refine JL.fd underlying97 (Ag type95) rfl rfl rfl ?_;refine JL.Y (v:= .slice a A.2.length c) rfl (fun ρ h=>Yl.load (Al underlying95) (h _ _ rfl) (Cw (j:=2) (off:=2) ae rfl rfl)) ?_;refine JL.Y rfl (fun ρ h=>Yl.len rfl underlying95 (h _ _ rfl)) ?_;refine zg 2 rfl ?_;refine JL.ifs (p:=0<((A.2).length:Int)) rfl (fun a3=>?_) (fun a3=>?_)
  ·have aj:F.start j= .BN j:=by unfold Fam.start;rw [aG,decide_eq_true (show 0<A.2.length by omega)];rfl
   rw [aj];refine JL.region ?_;refine JL.ld 0 (bi.mono ay) (Al underlying162) rfl rfl rfl ?_;refine JS.BJ 3 a0 ae rfl fun bv a4 a5 az=>?_;refine JL.Y rfl (fun ρ h=>Yl.Bs (vs:= [iV age,iV A.1,.slice a A.2.length c]) (Al underlying133) (Ag type133) (h _ _ rfl) (D8 (off:=0) 2 az rfl rfl)) ?_;refine JL.OE rfl rfl rfl rfl rfl rfl rfl (bj _ _ _ (ay.trans a4) a5) ?_;refine JL.done ?_;exact JL.out rfl (JO.collected 4 rfl az rfl fun aA=>JO.I8 aB rfl rfl (JO.leaveD rfl func127 rfl (.inr rfl) Hk))
  ·have aj:F.start j= .BY:=by unfold Fam.start;rw [aG,decide_eq_false (show ¬0<A.2.length by omega)];rfl
   rw [aj];refine JL.skip ?_;exact JL.out rfl (JO.collected 4 rfl ae rfl fun aA=>JO.I8 aB rfl rfl (JO.leaveD rfl func127 rfl (.inr rfl) Hk))
end Pal
namespace Go.Proofs
abbrev Tryz.link:Go.Conc.Lib.WgLink:={add:=126,done:=128,wait:=132,relMerge:=139,disable:=140,enable:=141,inBubble:=142,associate:=143,fatal:=144,uOr:=145,uAdd:=146,raceRead:=147,uLoad:=148,uStore:=149,disassociate:=150,semrelease:=151,acquire:=157,isAssociated:=158,uCas:=159,raceWrite:=160,semacquire:=161,orU64:=170,addU64:=171,loadU64:=172,storeU64:=173,casU64:=177,tWgP:=189,tUP:=191,tAssoc:=192,tWg:=171,tAU:=168,tU64:=90,tUint:=156,tU32:=169,tPU32:=196,tPAU:=221,tPU64:=223,tNoCopy:=164,tANoCopy:=165,tAlign64:=166}
theorem Tryz.KG:Go.Conc.Lib.WgLib Tryz.prog Tryz.link:=
 ⟨Tryz.func126,Tryz.func128,Tryz.func132,Tryz.func139,Tryz.func140,Tryz.func141,Tryz.func142,Tryz.func143,Tryz.func144,Tryz.func145,Tryz.func146,Tryz.func147,Tryz.func148,Tryz.func149,Tryz.func150,Tryz.func151,Tryz.func157,Tryz.func158,Tryz.func159,Tryz.func160,Tryz.func161,Tryz.func170,Tryz.func171,Tryz.func172,Tryz.func173,Tryz.func177,Tryz.underlying189,Tryz.runUnderlying189,Tryz.sizeOf189,Tryz.isAgg189,Tryz.zeroValue189,Tryz.underlying191,Tryz.runUnderlying191,Tryz.sizeOf191,Tryz.isAgg191,Tryz.zeroValue191,Tryz.underlying192,Tryz.runUnderlying192,Tryz.sizeOf192,Tryz.isAgg192,Tryz.zeroValue192,Tryz.underlying171,Tryz.runUnderlying171,Tryz.sizeOf171,Tryz.isAgg171,Tryz.zeroValue171,Tryz.underlying168,Tryz.runUnderlying168,Tryz.sizeOf168,Tryz.isAgg168,Tryz.zeroValue168,Tryz.underlying90,Tryz.runUnderlying90,Tryz.sizeOf90,Tryz.isAgg90,Tryz.zeroValue90,Tryz.underlying156,Tryz.runUnderlying156,Tryz.sizeOf156,Tryz.isAgg156,Tryz.zeroValue156,Tryz.underlying169,Tryz.runUnderlying169,Tryz.sizeOf169,Tryz.isAgg169,Tryz.zeroValue169,Tryz.underlying196,Tryz.runUnderlying196,Tryz.sizeOf196,Tryz.isAgg196,Tryz.zeroValue196,Tryz.underlying221,Tryz.runUnderlying221,Tryz.sizeOf221,Tryz.isAgg221,Tryz.zeroValue221,Tryz.underlying223,Tryz.runUnderlying223,Tryz.sizeOf223,Tryz.isAgg223,Tryz.zeroValue223,Tryz.underlying0,Tryz.runUnderlying0,Tryz.sizeOf0,Tryz.isAgg0,Tryz.zeroValue0,Tryz.underlying3,Tryz.runUnderlying3,Tryz.sizeOf3,Tryz.isAgg3,Tryz.zeroValue3,Tryz.underlying4,Tryz.runUnderlying4,Tryz.sizeOf4,Tryz.isAgg4,Tryz.zeroValue4,Tryz.underlying9,Tryz.runUnderlying9,Tryz.sizeOf9,Tryz.isAgg9,Tryz.zeroValue9,Tryz.underlying20,Tryz.runUnderlying20,Tryz.sizeOf20,Tryz.isAgg20,Tryz.zeroValue20,Tryz.underlying21,Tryz.runUnderlying21,Tryz.sizeOf21,Tryz.isAgg21,Tryz.zeroValue21,(by decide+kernel),(by decide+kernel)⟩
end Go.Proofs
namespace Pal
open Go Go.Conc Go.Proofs Go.Conc.Lib Go.ConcR.Gen
theorem QD{F:Fam}(K:F.n<2147483648){E:LH}{kc A:Nat}(O:At E kc A [.chan (some F.ch)]):Way Tryz.prog false (Stop Tryz.prog F .BZ) (born Tryz.prog ⟨.fn (.func 131) [.pointer (some F.sA),.pointer (some ⟨kc,A,none⟩)].toArray,#[]⟩) ⟨E,fun _=>none,false⟩:=by
 refine Ml (fn:=Tryz.f131) (vs:= [.pointer (some F.sA),.pointer (some ⟨kc,A,none⟩)]) Tryz.func131 rfl rfl (by simp) (Nat.le_of_ble_eq_true rfl) ?_;obtain⟨H,U⟩:∃H:LH,H=fun _=>none:=⟨_,rfl⟩;rw [← U];refine(?_:JL (A8 Tryz.prog false) (Stop Tryz.prog F .BZ) (baseD 131) Tryz.f131.ntmps (DZ 0 [.pointer (some F.sA),.pointer (some ⟨kc,A,none⟩)]) [] [.code _] [FF Tryz.prog] (Ap E H []));refine zg 2 rfl ?_;refine JL.wait Tryz.KG K rfl rfl rfl rfl rfl ?_;refine zg 2 rfl ?_;refine JL.ld 0 O (Al Tryz.underlying162) rfl rfl rfl ?_;refine JL.Th rfl rfl rfl rfl rfl rfl rfl ?_;refine JL.done ?_;exact JL.out rfl (JO.leaveD rfl Tryz.func131 rfl (.inr rfl) Hk)
end Pal
namespace Pal
open Go Go.Conc Go.Proofs
open Go.Proofs.Tryz
open Go.Conc.Lib Go.ConcR.Gen
noncomputable def Gq:Code:=match Tryz.f102.body with | some (.seq _ (.seq _ (.seq _ (.seq (.seq _ (.block _ (.loop c))) _))))=>c | _=> .skip
theorem PC{F:Fam}(aO:F.n=13){E:LH}{k1 ah:Nat}{ai aj ak:Ar}{al am an:Nat}{ao:List Value}{K:Br}{ac:AW}(aq:At E k1 ah (([.slice ai (K.1).length al,.slice aj (K.2.1).length am]:List Value)++ao))(ar:Ao (rL rI) E ai al (K.1))(au:Ao (rL rI) E aj am (K.2.1))(av:(rA 13 (rN .u16)).r E ao (K.2.2))(aw:Ao Bv E ak an ac){U Z aa ol kc ab:Nat}(ay:At E U Z [.pointer (some ⟨k1,ah,none⟩)])(az:At E aa ol [.slice ak ac.length an])(aA:At E kc ab [.chan (some F.ch)]){fuel:Nat}{qs:Nat→Int×List (By)}(aB:∀j,j<13→FG fuel K ac ((j:Nat):Int)=some (qs j))(aC:∀j,j<13→F.has j=decide (0<(qs j).2.length))(aD:∀j,j<13→∀E' a c,Ao Ca E' a c (qs j).2→F.msg j (.agg #[iV ((j:Nat):Int),iV (qs j).1,.slice a (qs j).2.length c]) E'){j:Nat}(ae:j<13){ag H:LH}(hle:Le E ag)(aE:Ay ag H []){k:List Item}{cs:List Frame}
  (h:∀O,Le E O→Ay O H []→JL (A8 Tryz.prog true) (Stop Tryz.prog F (F.Cn j)) (base 102) Tryz.f102.ntmps [(2,.pointer (some ⟨U,Z,none⟩)),(3,.pointer (some ⟨aa,ol,none⟩)),(5,.pointer (some ⟨kc,ab,none⟩)),(6,.pointer (some F.sA)),(11,iV ((j+1:Nat):Int))] [] (.inLoop Gq::k) cs (Ap O H [])):
  JL (A8 Tryz.prog true) (Stop Tryz.prog F (.Dw j)) (base 102) Tryz.f102.ntmps [(2,.pointer (some ⟨U,Z,none⟩)),(3,.pointer (some ⟨aa,ol,none⟩)),(5,.pointer (some ⟨kc,ab,none⟩)),(6,.pointer (some F.sA)),(11,iV ((j:Nat):Int))] [] (.code Gq:: .inLoop Gq::k) cs (Ap ag H []):=by
 refine zg 5 rfl ?_;rw [decide_eq_true (show((j:Nat):Int)<13 by omega)];refine zg 7 rfl ?_;refine JS.alloc rfl rfl rfl aE (AO type3) fun aF aG=>?_;refine JS.st (v:=iV ((j:Nat):Int)) (off:=0) 0 aG (Ag type3) rfl rfl rfl rfl fun aH=>?_;refine JS.Ba 0 aH rfl fun O aI aJ aK=>?_;refine JS.split (S':= []) (by simp) aK fun aL=>?_;have A:=hle.trans aI;refine zg 3 rfl ?_;refine JL.addPos Tryz.KG rfl rfl rfl rfl rfl rfl ?_;refine zg 2 rfl ?_;refine JL.Y (v:= .func (.func 127) #[] ([.pointer (some F.sA),.pointer (some ⟨U,Z,none⟩),.pointer (some ⟨aa,ol,none⟩),.pointer (some ⟨aF,0,none⟩),.pointer (some ⟨kc,ab,none⟩)]:List Value).toArray) rfl (fun ρ h=>Yl.Gm (by simp) (by simp [h (.tmp 6) _ rfl,h (.tmp 2) _ rfl,h (.tmp 3) _ rfl,h (.tmp 7) _ rfl,h (.tmp 5) _ rfl])) ?_;have ap:=QJ Tryz.KG rfl (F:=F) (j:=j) (aq.mono A) (ar.mono A) (au.mono A) (Rp.mono _ A av) (aw.mono A) (ay.mono A) (az.mono A) aJ (aA.mono A) (aB j ae) (aC j ae) (fun E' a c _ aM=>aD j ae E' a c aM);refine JL.UA (fi:= #[]) rfl rfl rfl rfl rfl rfl rfl (by first | exact ap | (simp only [List.append_toArray,List.nil_append,Array.append_empty,Array.empty_append];exact ap)) ?_
 refine zg 3 rfl ?_;have aN:Ax (((j:Nat):Int)+1)=some (((j+1:Nat)):Int):=by unfold Ax;rw [if_pos (by omega)];simp
 refine JL.Y rfl (fun ρ h=>Yl.A0 (h _ _ rfl) (h _ _ rfl) aN) ?_;refine zg 2 rfl ?_;exact JL.kw (h O A aL) rfl
theorem Qa{F:Fam}(U:F.n=13){E:LH}{k1 ag:Nat}{ah ai aj:Ar}{ak al am:Nat}{an:List Value}{A:Br}{Z:AW}(aq:At E k1 ag (([.slice ah (A.1).length ak,.slice ai (A.2.1).length al]:List Value)++an))(ar:Ao (rL rI) E ah ak (A.1))(au:Ao (rL rI) E ai al (A.2.1))(av:(rA 13 (rN .u16)).r E an (A.2.2))(aw:Ao Bv E aj am Z){aa ab ac ol kc ae:Nat}(ay:At E aa ab [.pointer (some ⟨k1,ag,none⟩)])(az:At E ac ol [.slice aj Z.length am])(aA:At E kc ae [.chan (some F.ch)]){fuel:Nat}{qs:Nat→Int×List (By)}(aB:∀j,j<13→FG fuel A Z ((j:Nat):Int)=some (qs j))(aC:∀j,j<13→F.has j=decide (0<(qs j).2.length))(aD:∀j,j<13→∀E' a c,Ao Ca E' a c (qs j).2→F.msg j (.agg #[iV ((j:Nat):Int),iV (qs j).1,.slice a (qs j).2.length c]) E'){H:LH}{k:List Item}{cs:List Frame}
  (h:∀K,Le E K→Ay K H []→JL (A8 Tryz.prog true) (Stop Tryz.prog F .DN) (base 102) Tryz.f102.ntmps [(2,.pointer (some ⟨aa,ab,none⟩)),(3,.pointer (some ⟨ac,ol,none⟩)),(5,.pointer (some ⟨kc,ae,none⟩)),(6,.pointer (some F.sA)),(11,iV 13)] [] (.code Gq:: .inLoop Gq::k) cs (Ap K H [])):
  ∀(m j:Nat),j+m=13→0<m→∀O,Le E O→Ay O H []→JL (A8 Tryz.prog true) (Stop Tryz.prog F (.Dw j)) (base 102) Tryz.f102.ntmps [(2,.pointer (some ⟨aa,ab,none⟩)),(3,.pointer (some ⟨ac,ol,none⟩)),(5,.pointer (some ⟨kc,ae,none⟩)),(6,.pointer (some F.sA)),(11,iV ((j:Nat):Int))] [] (.code Gq:: .inLoop Gq::k) cs (Ap O H []):=by
 intro m
 induction m with
 | zero=>intro j _ aE;cases aE
 | succ m aF=>
  intro j aI _ O hle aG;refine PC U aq ar au av aw ay az aA aB aC aD (by omega) hle aG fun K ao ap=>?_;refine JL.again ?_;by_cases hm:m=0
  ·subst hm;have aH:j=12:=by omega
   subst aH;have e:F.Cn 12= .DN:=by unfold Fam.Cn;rw [U];rfl
   rw [e];exact h K ao ap
  ·have e:F.Cn j= .Dw (j+1):=by unfold Fam.Cn;rw [U,if_neg (by omega)]
   rw [e];exact aF (j+1) (by omega) (by omega) K ao ap
end Pal
namespace Pal
open Go Go.Conc Go.Proofs
open Go.Proofs.Tryz
open Go.Conc.Lib Go.ConcR.Gen
noncomputable def OF:Code:=match Tryz.f102.body with | some (.seq _ (.seq _ (.seq _ (.seq _ (.seq _ (.seq _ (.seq (.seq _ (.block _ (.loop c))) _)))))))=>c | _=> .skip
def partOf(qs:Nat→Int×List (By))(k:Nat):(A3):=(((k:Nat):Int),(qs k).1,(qs k).2)
theorem Sy{A:List Nat}{kk n:Nat}(K:kk<n)(O:kk ∉ A):((List.range n).filter (fun x=> !(A++ [kk]).contains x)).length<((List.range n).filter (fun x=> !A.contains x)).length:=by
 have e:(List.range n).filter (fun x=> !(A++ [kk]).contains x)=((List.range n).filter (fun x=> !A.contains x)).filter (fun x=>x != kk):=by
  rw [List.filter_filter];apply List.filter_congr;intro x _;by_cases U:x∈A <;> by_cases Z:x=kk <;> simp [U,Z]
 rw [e];apply List.length_filter_lt_length_iff_exists.2;exact⟨kk,by simp [K,O],by simp⟩
theorem PR{F:Fam}(ab:F.n=13){Q:GP}(ao:∀g s,(Cr Tryz.prog).ok Q g s→F.fin g s){qs:Nat→Int×List (By)}(ap:∀kk v E',F.msg kk v E'→∃a c,v= .agg #[iV ((kk:Nat):Int),iV (qs kk).1,.slice a (qs kk).2.length c]∧Ao Ca E' a c (qs kk).2)
  {E H:LH} {k:List Item} {cs:List Frame}
  (aq:∀(A:List Nat) (U:LH) (a:Ar) (c:Nat) (g:Seg),Le E U→A.Nodup→(∀x∈A,x<13∧F.has x=true)→(∀x,x<13→F.has x=true→x∈A)→OL 133 BH U a c g (A.map (partOf qs))→Ay U H [g]→JL (Cr Tryz.prog) Q (base 102) Tryz.f102.ntmps [(8,.slice a (A.map (partOf qs)).length c)] [] k cs (Ap U H [g])):
  ∀(m:Nat) (A:List Nat) (vs:List Value) (O:LH) (a:Ar) (c:Nat) (g:Seg),((List.range 13).filter (fun x=> !A.contains x)).length=m→A.Nodup→(∀x∈A,x<13∧F.has x=true)→A.length+m≤13→Le E O→OL 133 BH O a c g (A.map (partOf qs))→Ay O H [g]→
   JL (A8 Tryz.prog true) (Stop Tryz.prog F (.BC A vs)) (base 102) Tryz.f102.ntmps [(8,.slice a (A.map (partOf qs)).length c),(18,.chan (some F.ch))] [] (.code OF:: .inLoop OF:: .inBlock 2::k) cs (Ap O H [g]):=by
 intro m
 induction m using Nat.strongRecOn with
 | _ m ar=>
  intro A vs O a c g hm ac ae hlen hle ag ah;refine zg 2 rfl ?_;refine JL.Ub rfl rfl rfl rfl rfl rfl underlying162 (AO type133) ?_ ?_
  ·intro kk v E' Z au ai aj av aw;rw [ab] at Z;obtain⟨ay,az,rfl,aA⟩:=ap kk v E' aw;have aB:Ay E' H [g]:=ah.up av;refine(?_:JL (A8 Tryz.prog true) (Stop Tryz.prog F (.BC (A++ [kk]) (vs++ [_]))) (base 102) Tryz.f102.ntmps _ [] _ cs (Ap E' H [g]));refine zg 9 rfl ?_;refine JS.alloc rfl rfl rfl aB (AO type133) fun aN aC=>?_;refine JS.st (v:= .agg #[iV ((kk:Nat):Int),iV (qs kk).1,.slice ay (qs kk).2.length az]) (off:=0) 1 aC (Ag type133) rfl rfl rfl rfl fun aD=>?_;refine JS.Ba 1 aD rfl fun aE aa aF aG=>?_;refine JS.split (S':= [g]) (by simp) aG fun aH=>?_;refine zg 3 rfl ?_;refine JL.Bj aF (Al underlying133) (Ag type133) rfl rfl ?_;have aI:(A.map (partOf qs)).length+1≤2 ^ 40:=by rw [List.length_map];omega
   refine JS.Iv (pp:=BH) (xv:=partOf qs kk) 0 rfl rfl rfl rfl (fun w=>rfl) rfl (fun w=>rfl) rfl rfl rfl underlying130 underlying130 underlying130 (Ag type133) (Cs type133) (AO type133) rfl (by decide) (by decide) (by decide) (by decide) aI (ag.mono (aj.trans aa)) ⟨_,_,rfl,rfl,⟨_,_,rfl,rfl,⟨_,_,rfl,aA.mono aa⟩⟩⟩ aH rfl fun w ak al g' am aJ=>?_;have em:A.map (partOf qs)++ [partOf qs kk]=(A++ [kk]).map (partOf qs):=by simp
   rw [em] at am;refine JL.y (v:= .slice ak ((A++ [kk]).map (partOf qs)).length al) rfl rfl rfl (fun ρ h=>by rw [← em];exact Yl.assign (h _ _ rfl)) ?_;refine zg 2 rfl ?_;refine JL.again ?_;have aK:((List.range 13).filter (fun x=> !(A++ [kk]).contains x)).length<m:=by rw [← hm];exact Sy Z ai
   exact JL.kw (ar _ aK (A++ [kk]) (vs++ [_]) aE ak al g' rfl (by rw [List.nodup_append];exact⟨ac,by simp,by intro x K y an;simp at an;subst an;intro e;exact ai (e▸K)⟩) (by intro x K;simp at K;rcases K with K | rfl;exact ae x K;exact⟨Z,au⟩) (by simp only [List.length_append,List.length_cons,List.length_nil];omega) ((hle.trans aj).trans aa) am aJ) rfl
  ·intro aL T aM;refine ao _ _ ?_;refine(?_:JL (Cr Tryz.prog) Q (base 102) Tryz.f102.ntmps _ [] _ cs (Ap O H [g])) T aM;refine zg 5 rfl ?_;exact JL.kw (aq A O a c g hle ac ae (fun x K hh=>aL x (by rw [ab];exact K) hh) ag ah) rfl
end Pal
namespace Pal
open Go Go.Conc Go.Proofs
open Go.Proofs.Tryz
variable {J:Judge Tryz.prog}{E:LH}
def NH:List Nat:= [0,1,2,2,3,3,3,3,4,4,4,4,4,4,4,4,5,5,5,5,5,5,5,5,5,5,5,5,5,5,5,5,6,6,6,6,6,6,6,6,6,6,6,6,6,6,6,6,6,6,6,6,6,6,6,6,6,6,6,6,6,6,6,6,7,7,7,7,7,7,7,7,7,7,7,7,7,7,7,7,7,7,7,7,7,7,7,7,7,7,7,7,7,7,7,7,7,7,7,7,7,7,7,7,7,7,7,7,7,7,7,7,7,7,7,7,7,7,7,7,7,7,7,7,7,7,7,7,8,8,8,8,8,8,8,8,8,8,8,8,8,8,8,8,8,8,8,8,8,8,8,8,8,8,8,8,8,8,8,8,8,8,8,8,8,8,8,8,8,8,8,8,8,8,8,8,8,8,8,8,8,8,8,8,8,8,8,8,8,8,8,8,8,8,8,8,8,8,8,8,8,8,8,8,8,8,8,8,8,8,8,8,8,8,8,8,8,8,8,8,8,8,8,8,8,8,8,8,8,8,8,8,8,8,8,8,8,8,8,8,8,8,8,8,8,8,8,8,8,8,8,8,8,8,8,8]
def f187(fuel:Nat)(p0:Nat):Option (Int):=
 Option.bind (
  if(((4294967296):Nat):Int)≤(((p0):Nat):Int) then(
   some (p0>>>32,32)
  ) else(
   some (p0,0)
  )
 ) fun A=>
 Option.bind (
  if(((65536):Nat):Int)≤(((A.1):Nat):Int) then(
   (Ax (A.2+16)).bind fun U=>
   some (A.1>>>16,U)
  ) else(
   some A
  )
 ) fun K=>
 Option.bind (
  if(((256):Nat):Int)≤(((K.1):Nat):Int) then(
   (Ax (K.2+8)).bind fun Z=>
   some (K.1>>>8,Z)
  ) else(
   some K
  )
 ) fun O=>
 (HX NH (((((O.1) % 256):Nat):Int))).bind fun aa=>
 (Ax (((aa):Nat):Int)).bind fun ab=>
 (Ax (O.2+ab)).bind fun ac=>
 some ac
theorem Sg{p0:Nat}{fuel:Nat}{r:Int}(ae:f187 fuel p0=some r):Aq J 187 [.int .u64 ((p0:Nat):Int)] E [] (fun w E' B'=>w=iV r∧B'= []):=by
 refine Aq.en func187 rfl rfl fun Q aT cs H ag aq=>?_;unfold f187 at ae;obtain⟨O,ah,ar⟩:=bs ae;refine zg 10 rfl ?_;refine JL.join (fun L s=>∃(A:LH),Jm E H A [] [(0,.int .u64 ((O.1:Nat):Int)),(2,iV O.2)] L s) ?_ ?_
 ·rintro _ _ ⟨A,rfl,rfl,au,ai⟩;obtain⟨U,aj,av⟩:=bs ar;refine zg 6 rfl ?_;refine JL.join (fun L s=>∃(K:LH),Jm A H K [] [(0,.int .u64 ((U.1:Nat):Int)),(2,iV U.2)] L s) ?_ ?_
  ·rintro _ _ ⟨K,rfl,rfl,aw,ak⟩;obtain⟨Z,al,ay⟩:=bs av;refine zg 6 rfl ?_;refine JL.join (fun L s=>∃(am:LH),Jm K H am [] [(0,.int .u64 ((Z.1:Nat):Int)),(2,iV Z.2)] L s) ?_ ?_
   ·rintro _ _ ⟨am,rfl,rfl,az,aA⟩;refine zg 4 rfl ?_;refine JL.Y (v:= .int .u8 (((Z.1) % 256:Nat):Int)) rfl (fun ρ h=>Yl.Ur underlying90 underlying5 (h _ _ rfl)) ?_;obtain⟨aB,aC,aD⟩:=bs ay;refine JL.Y (v:= .int .u8 ((aB:Nat):Int)) rfl (fun ρ h=>Yl.Kl (l:=NH) (by decide+kernel) underlying9 (h _ _ rfl) (h _ _ rfl) aC) ?_;obtain⟨aE,aF,aG⟩:=bs aD;refine JL.Y (v:=iV aE) rfl (fun ρ h=>Yl.OK underlying5 underlying3 (h _ _ rfl) aF) ?_;obtain⟨aU,aH,aI⟩:=bs aG;refine JL.Y rfl (fun ρ h=>Yl.A0 (h _ _ rfl) (h _ _ rfl) aH) ?_;refine zg 2 rfl ?_;obtain rfl:=oi aI;refine JL.rt func187 rfl rfl ?_;exact aq _ _ _ _ ((au.trans aw).trans az) rfl ⟨rfl,rfl⟩ aA
   ·intro an;refine JL.ifs (p:=(((256):Nat):Int)≤(((U.1):Nat):Int)) rfl (fun aa=>?_) (fun aa=>?_)
    ·have aJ:=ip al aa;refine zg 3 rfl ?_;refine JL.Y (v:= .int .u64 ((U.1>>>8:Nat):Int)) rfl (fun ρ h=>Yl.Ha 8 (h _ _ rfl) (h _ _ rfl) (by decide)) ?_;obtain⟨aV,aK,aL⟩:=bs aJ;refine zg 4 rfl ?_;refine JL.Y rfl (fun ρ h=>Yl.A0 (h _ _ rfl) (h _ _ rfl) aK) ?_;refine zg 2 rfl ?_;obtain rfl:=oi aL;exact JL.kw (an _ _ ⟨K,rfl,rfl,(Le.refl _),ak⟩) rfl
    ·have aM:=im al aa;refine JL.skip ?_;obtain rfl:=oi aM;exact JL.kw (an _ _ ⟨K,rfl,rfl,(Le.refl _),ak⟩) rfl
  ·intro ao;refine JL.ifs (p:=(((65536):Nat):Int)≤(((O.1):Nat):Int)) rfl (fun ab=>?_) (fun ab=>?_)
   ·have aN:=ip aj ab;refine zg 3 rfl ?_;refine JL.Y (v:= .int .u64 ((O.1>>>16:Nat):Int)) rfl (fun ρ h=>Yl.Ha 16 (h _ _ rfl) (h _ _ rfl) (by decide)) ?_;obtain⟨aW,aO,aP⟩:=bs aN;refine zg 4 rfl ?_;refine JL.Y rfl (fun ρ h=>Yl.A0 (h _ _ rfl) (h _ _ rfl) aO) ?_;refine zg 2 rfl ?_;obtain rfl:=oi aP;exact JL.kw (ao _ _ ⟨A,rfl,rfl,(Le.refl _),ai⟩) rfl
   ·have aQ:=im aj ab;refine JL.skip ?_;obtain rfl:=oi aQ;exact JL.kw (ao _ _ ⟨A,rfl,rfl,(Le.refl _),ai⟩) rfl
 ·intro ap;refine JL.ifs (p:=(((4294967296):Nat):Int)≤(((p0):Nat):Int)) rfl (fun ac=>?_) (fun ac=>?_)
  ·have aR:=ip ah ac;refine zg 3 rfl ?_;refine JL.Y (v:= .int .u64 ((p0>>>32:Nat):Int)) rfl (fun ρ h=>Yl.Ha 32 (h _ _ rfl) (h _ _ rfl) (by decide)) ?_;refine zg 5 rfl ?_;obtain rfl:=oi aR;exact JL.kw (ap _ _ ⟨E,rfl,rfl,(Le.refl _),ag⟩) rfl
  ·have aS:=im ah ac;refine JL.skip ?_;obtain rfl:=oi aS;exact JL.kw (ap _ _ ⟨E,rfl,rfl,(Le.refl _),ag⟩) rfl
def f163(fuel:Nat)(p0:Nat):Option (Int):=
 (f187 fuel p0).bind fun A=>
 some A
theorem NV{p0:Nat}{fuel:Nat}{r:Int}(A:f163 fuel p0=some r):Aq J 163 [.int .u64 ((p0:Nat):Int)] E [] (fun w E' B'=>w=iV r∧B'= []):=by
 refine Aq.en func163 rfl rfl fun Q ac cs H K O=>?_;unfold f163 at A;obtain⟨ae,U,Z⟩:=bs A;refine zg 10 rfl ?_;refine JS.cl (Sg U) rfl rfl (Aw func187 rfl) K ?_;rintro _ ag _ aa ⟨rfl,rfl⟩ ab;refine zg 2 rfl ?_;obtain rfl:=oi Z;refine JL.rt func163 rfl rfl ?_;exact O _ _ _ _ aa rfl ⟨rfl,rfl⟩ ab
def f134(fuel:Nat)(p0:A3)(p1:A3):Option (Int):=
 (Ax (p0.1 - p1.1)).bind fun A=>
 some A
theorem EG{A:Ar}{c2:Nat}{K:Ar}{O:Nat}{p0:A3}{p1:A3}(an:Ao Ca E A c2 (p0.2.2))(ao:Ao Ca E K O (p1.2.2)){fuel:Nat}{r:Int}(U:f134 fuel p0 p1=some r):Aq J 134 [.agg #[iV p0.1,iV p0.2.1,.slice A (p0.2.2).length c2],.agg #[iV p1.1,iV p1.2.1,.slice K (p1.2.2).length O]] E [] (fun w E' B'=>w=iV r∧B'= []):=by
 refine Aq.en func134 rfl rfl fun Q ap cs H aa ab=>?_;unfold f134 at U;refine zg 2 rfl ?_;refine JS.box (v:= .agg #[iV p0.1,iV p0.2.1,.slice A (p0.2.2).length c2]) rfl rfl rfl aa rfl fun aq ac=>?_;refine JS.Ba 1 ac rfl fun ar ae ag ah=>?_;refine JS.box (v:= .agg #[iV p1.1,iV p1.2.1,.slice K (p1.2.2).length O]) rfl rfl rfl ah rfl fun au ai=>?_;refine JS.Ba 2 ai rfl fun av Z aj ak=>?_;refine zg 4 rfl ?_;refine JL.fd underlying133 (Ag type3) rfl rfl rfl ?_;refine JL.ld 0 (ag.mono Z) (Al underlying3) rfl rfl rfl ?_;refine JL.fd underlying133 (Ag type3) rfl rfl rfl ?_;refine JL.ld 0 aj (Al underlying3) rfl rfl rfl ?_;obtain⟨aw,al,am⟩:=bs U;refine JL.Y rfl (fun ρ h=>Yl.Bb (h _ _ rfl) (h _ _ rfl) al) ?_;refine zg 2 rfl ?_;obtain rfl:=oi am;refine JL.rt func134 rfl rfl ?_;exact ab _ _ _ _ (ae.trans Z) rfl ⟨rfl,rfl⟩ ak
def GQ(fuel:Nat)(p1:Int)(A:Int×(List (A3))):Option (A4 (Int×(List (A3))) ((List (A3)))):=
 Option.bind (
  if p1<A.1 then(
   (ix A.2 (A.1)).bind fun U=>
   (Ax (A.1 - 1)).bind fun Z=>
   (ix A.2 (Z)).bind fun aa=>
   (f134 fuel U aa).bind fun ab=>
   some (decide (ab<0))
  ) else(
   some false
  )
 ) fun ac=>
 if ac=true then(
  (Ax (A.1 - 1)).bind fun K=>
  (Ax (A.1 - 1)).bind fun ae=>
  (ix A.2 (ae)).bind fun O=>
  (ix A.2 (A.1)).bind fun ag=>
  (ix (A.2.set (Int.toNat A.1) O) (K)).bind fun ai=>
  (Ax (A.1 - 1)).bind fun ah=>
  some (.more (ah,((A.2.set (Int.toNat A.1) O).set (Int.toNat K) ag)))
 ) else(
  some (.done A.2)
 )
def Gh(fuel:Nat)(p1:Int)(p2:Int)(A:Int×(List (A3))):Option (A4 (Int×(List (A3))) ((List (A3)))):=
 if A.1<p2 then(
  Option.bind (iter (GQ fuel p1) fuel A) fun K=>
  (Ax (A.1+1)).bind fun O=>
  some (.more (O,K))
 ) else(
  some (.done A.2)
 )
def f178(fuel:Nat)(p0:List (A3))(p1:Int)(p2:Int):Option ((List (A3))):=
 (Ax (p1+1)).bind fun A=>
 Option.bind (iter (Gh fuel p1 p2) fuel (A,p0)) fun K=>
 some K
theorem NG{A:Nat}{U:Nat}{Z:Nat}{ay:Array Value}{p0:List (A3)}{p1:Int}{p2:Int}(hW:WL 133 BH E A U Z ay p0){fuel:Nat}{r:(List (A3))}(aI:f178 fuel p0 p1 p2=some r):Aq J 178 [.slice (some ⟨A,0,none⟩) Z U,iV p1,iV p2,(.func (.func 134) #[] #[])] E [(A,.cells ay 133 (0,0))] (fun w E' B'=>∃(aJ:Array Value),w= .tuple #[]∧B'= [(A,.cells aJ 133 (0,0))]∧WL 133 BH E' A U Z aJ (r)):=by
 refine Aq.en func178 rfl rfl fun Q b4 cs H a2 a3=>?_;unfold f178 at aI;obtain⟨a4,a5,a6⟩:=bs aI;refine zg 3 rfl ?_;refine JL.Y rfl (fun ρ h=>Yl.A0 (h _ _ rfl) (h _ _ rfl) a5) ?_;obtain⟨a7,a8,a9⟩:=bs a6;refine zg 2 rfl ?_;refine JL.join (fun L s=>∃(az:LH) (f17:Array Value),Jn E H az [[(A,.cells f17 133 (0,0))]] [] L s (WL 133 BH az A U Z f17 (a7))) ?_ ?_
 ·rintro _ _ ⟨az,f17,rfl,rfl,ba,bb,bc⟩;obtain rfl:=oi a9;refine JL.fin (v:= .tuple #[]) rfl rfl (Bx.list func178 rfl (vs:= []) trivial) ?_;exact a3 _ _ _ _ ba rfl ⟨f17,rfl,(by first | rfl | simp | (simp [Value.cells])),bc⟩ bb
 ·intro bd;refine JL.block ?_;refine JL.wk [(0,.slice (some ⟨A,0,none⟩) Z U),(1,iV p1),(2,iV p2),(3,(.func (.func 134) #[] #[])),(8,iV a4)] rfl ?_;refine JL.Bf a8 (fun L s ab=>∃(ae:LH) (f25:Array Value),Jn E H ae [[(A,.cells f25 133 (0,0))]] [(0,.slice (some ⟨A,0,none⟩) Z U),(1,iV p1),(2,iV p2),(3,(.func (.func 134) #[] #[])),(8,iV ab.1)] L s (WL 133 BH ae A U Z f25 (ab.2))) ⟨E,ay,rfl,rfl,(Le.refl _),a2,hW⟩ ?_;rintro _ _ ab ⟨ae,f25,rfl,rfl,aK,aL,aM⟩ bf ⟨b5,aA⟩ bg;have aB:=aA;unfold Gh at aB;refine zg 7 rfl ?_;refine JL.ifs (p:=ab.1<p2) rfl (fun aC=>?_) (fun aC=>?_)
  ·have bh:=ip aB aC;obtain⟨aN,bi,bj⟩:=bs bh;refine zg 8 rfl ?_;refine JL.join (fun L s=>∃(ar:LH) (f48:Array Value),Jn ae H ar [[(A,.cells f48 133 (0,0))]] [(0,.slice (some ⟨A,0,none⟩) Z U),(1,iV p1),(2,iV p2),(3,(.func (.func 134) #[] #[])),(8,iV ab.1)] L s (WL 133 BH ar A U Z f48 (aN))) ?_ ?_
   ·rintro _ _ ⟨ar,f48,rfl,rfl,bk,bl,bm⟩;obtain⟨bn,bo,bp⟩:=bs bj;refine zg 3 rfl ?_;refine JL.Y rfl (fun ρ h=>Yl.A0 (h _ _ rfl) (h _ _ rfl) bo) ?_;refine zg 2 rfl ?_;obtain rfl:=oi bp;exact JL.kw (bg _ _ (bn,aN) ⟨ar,f48,rfl,rfl,(aK.trans bk),bl,bm⟩ aA) rfl
   ·intro bq;refine JL.block ?_;refine JL.wk [(0,.slice (some ⟨A,0,none⟩) Z U),(1,iV p1),(2,iV p2),(3,(.func (.func 134) #[] #[])),(8,iV ab.1),(9,iV ab.1)] rfl ?_;refine JL.Bf bi (fun L s ac=>∃(ak:LH) (f58:Array Value),Jn ae H ak [[(A,.cells f58 133 (0,0))]] [(0,.slice (some ⟨A,0,none⟩) Z U),(1,iV p1),(2,iV p2),(3,(.func (.func 134) #[] #[])),(8,iV ab.1),(9,iV ac.1)] L s (WL 133 BH ak A U Z f58 (ac.2))) ⟨ae,f25,rfl,rfl,(Le.refl _),aL,aM⟩ ?_;rintro _ _ ac ⟨ak,f58,rfl,rfl,aO,al,aa⟩ br ⟨b6,aD⟩ bu;have aP:=aD;unfold GQ at aP;refine zg 2 rfl ?_;refine JG.Ce 17 [A] ⟨⟨0,_,rfl⟩,trivial⟩ al mixed rfl (by decide+kernel) fun ht=>?_;refine JG.ms ht rfl [0,1,2,3] rfl ?_;obtain⟨aQ,aR,aS⟩:=bs aP;refine Av.join 0 #[true,true,true,true,true,true,true,true,true,true,true,true,true,true,true,true,true] (fun L s=>∃(au:LH),Jm ak H au [[(A,.cells f58 133 (0,0))]] [(0,.slice (some ⟨A,0,none⟩) Z U),(1,iV p1),(2,iV p2),(3,(.func (.func 134) #[] #[])),(8,iV ab.1),(9,iV ac.1),(34,.bool aQ)] L s) ?_ ?_
    ·rintro _ _ ⟨au,rfl,rfl,ah,av⟩;refine Av.fin (by decide+kernel) ?_;refine JL.split (t:=aQ) rfl (fun aE=>?_) (fun aE=>?_)
     ·have bv:=ip aS aE;refine zg 3 rfl ?_;refine JB.draw [15,17] [A] mixed rfl ?_;refine JB.mv 0 rfl rfl ?_;refine JB.mv 1 rfl rfl ?_;refine JB.mv 2 rfl rfl ?_;refine JB.mv 3 rfl rfl ?_;obtain⟨aF,bw,bx⟩:=bs bv;refine JB.V 4 true rfl rfl (fun ρ h s' hs=>Yl.Bb (h _ _ rfl) (h _ _ rfl) bw) ?_;refine JB.mv 5 rfl rfl ?_;refine JB.mv 6 rfl rfl ?_;obtain⟨b7,bz,bA⟩:=bs bx;refine JB.V 7 true rfl rfl (fun ρ h s' hs=>Yl.Bb (h _ _ rfl) (h _ _ rfl) bz) ?_;obtain⟨K,aT,bB⟩:=bs bA;obtain⟨_,⟨_,_,rfl,rfl,⟨_,_,rfl,rfl,⟨am,an,rfl,bC⟩⟩⟩,bD⟩:=WL.at (aa.mono ah) aT;refine JB.V 8 true rfl rfl (fun ρ h s' hs=>Yl.Bg aa.2 aT underlying130 (Ag type133) (h _ _ rfl) (h _ _ rfl)) ?_;refine JB.val (v:= .agg #[iV K.1,iV K.2.1,.slice am (K.2.2).length an]) 9 false rfl (by decide+kernel) rfl rfl rfl (fun ρ h s' hs=>have hs:=hs rfl;Yl.Bs (vs:= [iV K.1,iV K.2.1,.slice am (K.2.2).length an]) (Al underlying133) (Ag type133) (h _ _ rfl) (fun q w ag=>by rw [Bi rfl];exact Bl 0 av rfl (by simp [AH]) hs (bD q w ag))) ?_;refine JB.mv 10 rfl rfl ?_;refine JB.mv 11 rfl rfl ?_;obtain⟨O,aw,bE⟩:=bs bB;obtain⟨_,⟨_,_,rfl,rfl,⟨_,_,rfl,rfl,⟨ao,ap,rfl,bF⟩⟩⟩,bG⟩:=WL.at (aa.mono ah) aw;refine JB.V 12 true rfl rfl (fun ρ h s' hs=>Yl.Bg aa.2 aw underlying130 (Ag type133) (h _ _ rfl) (h _ _ rfl)) ?_;refine JB.val (v:= .agg #[iV O.1,iV O.2.1,.slice ao (O.2.2).length ap]) 13 false rfl (by decide+kernel) rfl rfl rfl (fun ρ h s' hs=>have hs:=hs rfl;Yl.Bs (vs:= [iV O.1,iV O.2.1,.slice ao (O.2.2).length ap]) (Al underlying133) (Ag type133) (h _ _ rfl) (fun q w ag=>by rw [Bi rfl];exact Bl 0 av rfl (by simp [AH]) hs (bG q w ag))) ?_;refine JB.V 14 true rfl rfl (fun ρ h s' hs=>Yl.Bg aa.2 aw underlying130 (Ag type133) (h _ _ rfl) (h _ _ rfl)) ?_;have aq:=WL.put (x':=K) (ws':= [iV K.1,iV K.2.1,.slice am (K.2.2).length an]) (aa.mono ah) aa.2 aw ⟨_,_,rfl,rfl,⟨_,_,rfl,rfl,⟨_,_,rfl,bC⟩⟩⟩;refine JB.store (v:= .agg #[iV K.1,iV K.2.1,.slice am (K.2.2).length an]) (off:=Int.toNat (ac.1)*3) 15 0 (by decide+kernel) (by decide+kernel) rfl rfl rfl av rfl rfl (Ag type133) (by simp [Value.cells,BB]) rfl aq.2 fun bH=>?_;obtain⟨b8,aG,bI⟩:=bs bE;obtain⟨_,⟨_,_,rfl,rfl,⟨_,_,rfl,rfl,⟨b9,ca,rfl,cb⟩⟩⟩,cc⟩:=WL.at aq.1 aG;refine JB.V 16 true rfl rfl (fun ρ h s' hs=>Yl.Bg (aq.1).2 aG underlying130 (Ag type133) (h _ _ rfl) (h _ _ rfl)) ?_;have aU:=WL.put (x':=O) (ws':= [iV O.1,iV O.2.1,.slice ao (O.2.2).length ap]) aq.1 (aq.1).2 aG ⟨_,_,rfl,rfl,⟨_,_,rfl,rfl,⟨_,_,rfl,bF⟩⟩⟩;refine JB.store (v:= .agg #[iV O.1,iV O.2.1,.slice ao (O.2.2).length ap]) (off:=Int.toNat (aF)*3) 17 0 (by decide+kernel) (by decide+kernel) rfl rfl rfl bH rfl rfl (Ag type133) (by simp [Value.cells,BB]) rfl aU.2 fun bJ=>?_;refine JB.fin (by decide+kernel) ?_;obtain⟨bK,bL,bM⟩:=bs bI;refine zg 3 rfl ?_;refine JL.Y rfl (fun ρ h=>Yl.Bb (h _ _ rfl) (h _ _ rfl) bL) ?_;refine zg 2 rfl ?_;obtain rfl:=oi bM;exact JL.kw (bu _ _ (bK,((ac.2.set (Int.toNat ac.1) K).set (Int.toNat aF) O)) ⟨au,(A5 (A5 f58 (Int.toNat (ac.1)*3) [iV K.1,iV K.2.1,.slice am (K.2.2).length an]) (Int.toNat (aF)*3) [iV O.1,iV O.2.1,.slice ao (O.2.2).length ap]),rfl,rfl,(aO.trans ah),bJ,aU.1⟩ aD) rfl
     ·have bN:=ib aS aE;refine JL.exit rfl ?_;obtain rfl:=oi bN;obtain rfl:=br _ aD;exact JL.kw (bq _ _ ⟨au,f58,rfl,rfl,(aO.trans ah),av,(aa.mono ah)⟩) rfl
    ·intro aV;refine Av.BW (q:=p1<ac.1) (i:=21) rfl (fun aH=>?_) (fun aH=>?_)
     ·have bO:=ip aR aH;refine JG.ms ht rfl [4,5,6] rfl ?_;obtain⟨ai,aW,bP⟩:=bs bO;obtain⟨_,⟨_,_,rfl,rfl,⟨_,_,rfl,rfl,⟨aX,aY,rfl,bQ⟩⟩⟩,bR⟩:=WL.at aa aW;refine JG.V 7 ht rfl rfl (fun ρ h s' hs=>Yl.Bg (aa).2 aW underlying130 (Ag type133) (h _ _ rfl) (h _ _ rfl)) ?_;refine JG.V 8 ht rfl rfl (fun ρ h s' hs=>Yl.Bs (vs:= [iV ai.1,iV ai.2.1,.slice aX (ai.2.2).length aY]) (Al underlying133) (Ag type133) (h _ _ rfl) (fun q w ag=>by rw [Bi rfl];exact Bl 0 al rfl (by simp [AH]) hs (bR q w ag))) ?_;refine JG.ms ht rfl [9,10] rfl ?_;obtain⟨cd,bS,bT⟩:=bs bP;refine JG.V 11 ht rfl rfl (fun ρ h s' hs=>Yl.Bb (h _ _ rfl) (h _ _ rfl) bS) ?_;obtain⟨aj,aZ,bU⟩:=bs bT;obtain⟨_,⟨_,_,rfl,rfl,⟨_,_,rfl,rfl,⟨a0,a1,rfl,bV⟩⟩⟩,bW⟩:=WL.at aa aZ;refine JG.V 12 ht rfl rfl (fun ρ h s' hs=>Yl.Bg (aa).2 aZ underlying130 (Ag type133) (h _ _ rfl) (h _ _ rfl)) ?_;refine JG.V 13 ht rfl rfl (fun ρ h s' hs=>Yl.Bs (vs:= [iV aj.1,iV aj.2.1,.slice a0 (aj.2.2).length a1]) (Al underlying133) (Ag type133) (h _ _ rfl) (fun q w ag=>by rw [Bi rfl];exact Bl 0 al rfl (by simp [AH]) hs (bW q w ag))) ?_;obtain⟨ce,bX,bY⟩:=bs bU;refine JG.FC (i:=14) ⟨⟨0,_,rfl⟩,trivial⟩ (vs:= [.agg #[iV ai.1,iV ai.2.1,.slice aX (ai.2.2).length aY],.agg #[iV aj.1,iV aj.2.1,.slice a0 (aj.2.2).length a1]]) (EG bQ bV bX) (by decide+kernel) rfl rfl rfl rfl (Aw func134 rfl) rfl al ?_;rintro _ bZ _ b0 ⟨rfl,rfl⟩ b1;refine JG.ms ht rfl [15,16] rfl ?_;obtain rfl:=oi bY;refine Av.BU ?_ (aV _ _ ⟨bZ,rfl,rfl,b0,b1⟩);exact⟨rfl,rfl,rfl,rfl,rfl,rfl,rfl,trivial⟩
     ·have b2:=im aR aH;refine JG.ms ht rfl [4,5,6,7,8,9,10,11,12,13,14,15,16] rfl ?_;obtain rfl:=oi b2;refine Av.BU ?_ (aV _ _ ⟨ak,rfl,rfl,(Le.refl _),al⟩);exact⟨rfl,rfl,rfl,rfl,rfl,rfl,rfl,trivial⟩
  ·have b3:=im aB aC;refine JL.exit rfl ?_;obtain rfl:=oi b3;obtain rfl:=bf _ aA;exact JL.kw (bd _ _ ⟨ae,f25,rfl,rfl,aK,aL,aM⟩) rfl
def f200(fuel:Nat)(p0:List (A3))(p1:Int)(p2:Int)(p3:Int):Option (Int×Int×Int):=
 (ix p0 (p2)).bind fun A=>
 (ix p0 (p1)).bind fun K=>
 (f134 fuel A K).bind fun O=>
 if O<0 then(
  (Ax (p3+1)).bind fun U=>
  some (p2,p1,U)
 ) else(
  some (p1,p2,p3)
 )
theorem Kq{A:Nat}{ag:Nat}{ah:Nat}{Z:Array Value}{aa:Nat}{p0:List (A3)}{p1:Int}{p2:Int}{p3:Int}(hW:WL 133 BH E A ag ah Z p0){fuel:Nat}{r:Int×Int×Int}(ai:f200 fuel p0 p1 p2 p3=some r):Aq J 200 [.slice (some ⟨A,0,none⟩) ah ag,iV p1,iV p2,.pointer (some ⟨aa,0,none⟩),(.func (.func 134) #[] #[])] E ([(aa,.cells #[iV p3] 3 (0,0))]++ [(A,.cells Z 133 (0,0))]) (fun w E' B'=>w= .tuple #[iV r.1,iV r.2.1]∧B'= [(aa,.cells #[iV r.2.2] 3 (0,0))]++ [(A,.cells Z 133 (0,0))]):=by
 refine Aq.en func200 rfl rfl fun Q aI cs H K aj=>?_;unfold f200 at ai;refine JS.split (S':= [[(aa,.cells #[iV p3] 3 (0,0))],[(A,.cells Z 133 (0,0))]]) (by simp) K fun K=>?_;refine zg 7 rfl ?_;refine JG.Ce 9 [A] ⟨⟨1,_,rfl⟩,trivial⟩ K mixed rfl (by decide+kernel) fun ht=>?_;refine JG.ms ht rfl [0,1,2] rfl ?_;obtain⟨O,ak,ar⟩:=bs ai;obtain⟨_,⟨_,_,rfl,rfl,⟨_,_,rfl,rfl,⟨al,c4,rfl,au⟩⟩⟩,av⟩:=WL.at hW ak;refine JG.V 3 ht rfl rfl (fun ρ h s' hs=>Yl.Bg (hW).2 ak underlying130 (Ag type133) (h _ _ rfl) (h _ _ rfl)) ?_;refine JG.V 4 ht rfl rfl (fun ρ h s' hs=>Yl.Bs (vs:= [iV O.1,iV O.2.1,.slice al (O.2.2).length c4]) (Al underlying133) (Ag type133) (h _ _ rfl) (fun q w ab=>by rw [Bi rfl];exact Bl 1 K rfl (by simp [AH]) hs (av q w ab))) ?_;refine JG.ms ht rfl [5,6] rfl ?_;obtain⟨U,am,aw⟩:=bs ar;obtain⟨_,⟨_,_,rfl,rfl,⟨_,_,rfl,rfl,⟨an,ao,rfl,ay⟩⟩⟩,az⟩:=WL.at hW am;refine JG.V 7 ht rfl rfl (fun ρ h s' hs=>Yl.Bg (hW).2 am underlying130 (Ag type133) (h _ _ rfl) (h _ _ rfl)) ?_;refine JG.V 8 ht rfl rfl (fun ρ h s' hs=>Yl.Bs (vs:= [iV U.1,iV U.2.1,.slice an (U.2.2).length ao]) (Al underlying133) (Ag type133) (h _ _ rfl) (fun q w ab=>by rw [Bi rfl];exact Bl 1 K rfl (by simp [AH]) hs (az q w ab))) ?_;refine Av.leaf (tail:= [9,10]) (by decide+kernel) (fun t=>A1 (by decide+kernel) (A1 (by decide+kernel) BM) t) ?_;obtain⟨aA,aB,ap⟩:=bs aw;refine JS.Gr (vs:= [.agg #[iV O.1,iV O.2.1,.slice al (O.2.2).length c4],.agg #[iV U.1,iV U.2.1,.slice an (U.2.2).length ao]]) (EG au ay aB) rfl rfl rfl rfl (Aw func134 rfl) rfl K ?_;rintro _ aJ _ aq ⟨rfl,rfl⟩ ac;refine zg 2 rfl ?_;refine JL.ifs (p:=aA<0) rfl (fun ae=>?_) (fun ae=>?_)
 ·have aC:=ip ap ae;refine zg 4 rfl ?_;refine JL.Y (v:=iV p3) rfl (fun ρ h=>Yl.load (Al underlying3) (h _ _ rfl) (Cw (j:=0) (off:=0) ac rfl rfl)) ?_;obtain⟨aD,aE,aF⟩:=bs aC;refine JL.Y rfl (fun ρ h=>Yl.A0 (h _ _ rfl) (h _ _ rfl) aE) ?_;refine zg 1 rfl ?_;refine JS.st (v:=iV aD) (off:=0) 0 ac (Ag type3) rfl rfl rfl rfl fun aG=>?_;refine zg 8 rfl ?_;obtain rfl:=oi aF;refine JL.rt func200 rfl rfl ?_;exact aj _ _ _ _ aq rfl ⟨rfl,(by first | rfl | simp | (simp [Value.cells]))⟩ aG
 ·have aH:=im ap ae;refine zg 8 rfl ?_;obtain rfl:=oi aH;refine JL.rt func200 rfl rfl ?_;exact aj _ _ _ _ aq rfl ⟨rfl,(by first | rfl | simp | (simp [Value.cells]))⟩ ac
def f197(fuel:Nat)(p0:List (A3))(p1:Int)(p2:Int)(p3:Int)(p4:Int):Option (Int×Int):=
 (f200 fuel p0 p1 p2 p4).bind fun A=>
 (f200 fuel p0 A.2.1 p3 A.2.2).bind fun K=>
 (f200 fuel p0 A.1 K.1 K.2.2).bind fun O=>
 some O.2
theorem Sp{A:Nat}{aa:Nat}{ab:Nat}{K:Array Value}{O:Nat}{p0:List (A3)}{p1:Int}{p2:Int}{p3:Int}{p4:Int}(hW:WL 133 BH E A aa ab K p0){fuel:Nat}{r:Int×Int}(ac:f197 fuel p0 p1 p2 p3 p4=some r):Aq J 197 [.slice (some ⟨A,0,none⟩) ab aa,iV p1,iV p2,iV p3,.pointer (some ⟨O,0,none⟩),(.func (.func 134) #[] #[])] E ([(O,.cells #[iV p4] 3 (0,0))]++ [(A,.cells K 133 (0,0))]) (fun w E' B'=>w=iV r.1∧B'= [(O,.cells #[iV r.2] 3 (0,0))]++ [(A,.cells K 133 (0,0))]):=by
 refine Aq.en func197 rfl rfl fun Q aH cs H U ah=>?_;unfold f197 at ac;refine JS.split (S':= [[(O,.cells #[iV p4] 3 (0,0))],[(A,.cells K 133 (0,0))]]) (by simp) U fun U=>?_;obtain⟨ai,aj,ak⟩:=bs ac;refine zg 11 rfl ?_;refine JS.merge 0 1 rfl rfl U fun al=>?_;refine JS.BL 0 (Kq hW aj) rfl rfl (Aw func200 rfl) al rfl ?_;rintro _ aI _ Z ⟨rfl,rfl⟩ am;refine JS.part 0 rfl am fun an=>?_;refine JS.norm (S':= [[(O,.cells #[iV ai.2.2] 3 (0,0))],[],[(A,.cells K 133 (0,0))]]) rfl an fun ao=>?_;obtain⟨ap,aq,ar⟩:=bs ak;refine zg 13 rfl ?_;refine JS.merge 0 2 rfl rfl ao fun au=>?_;refine JS.BL 0 (Kq (hW.mono Z) aq) rfl rfl (Aw func200 rfl) au rfl ?_;rintro _ aJ _ ae ⟨rfl,rfl⟩ av;refine JS.part 0 rfl av fun aw=>?_;refine JS.norm (S':= [[(O,.cells #[iV ap.2.2] 3 (0,0))],[],[],[(A,.cells K 133 (0,0))]]) rfl aw fun ay=>?_;obtain⟨ag,az,aA⟩:=bs ar;refine zg 13 rfl ?_;refine JS.merge 0 3 rfl rfl ay fun aB=>?_;refine JS.BL 0 (Kq (hW.mono (Z.trans ae)) az) rfl rfl (Aw func200 rfl) aB rfl ?_;rintro _ aK _ aC ⟨rfl,rfl⟩ aD;refine JS.part 0 rfl aD fun aE=>?_;refine JS.norm (S':= [[(O,.cells #[iV ag.2.2] 3 (0,0))],[],[],[],[(A,.cells K 133 (0,0))]]) rfl aE fun aF=>?_;refine zg 11 rfl ?_;refine JS.norm (S':= [[(O,.cells #[iV ag.2.2] 3 (0,0))],[],[],[],[(A,.cells K 133 (0,0))]]) rfl aF fun aG=>?_;obtain rfl:=oi aA;refine JL.rt func197 rfl rfl ?_;exact ah _ _ _ _ ((Z.trans ae).trans aC) rfl ⟨rfl,(by first | rfl | simp | (simp [Value.cells]))⟩ aG
def f181(fuel:Nat)(p0:List (A3))(p1:Int)(p2:Int):Option (Int×Int):=
 (Ax (p2 - p1)).bind fun A=>
 (Fj (A) (4)).bind fun U=>
 (Ax (U*1)).bind fun Z=>
 (Ax (p1+Z)).bind fun aa=>
 (Fj (A) (4)).bind fun ab=>
 (Ax (ab*2)).bind fun ac=>
 (Ax (p1+ac)).bind fun O=>
 (Fj (A) (4)).bind fun ae=>
 (Ax (ae*3)).bind fun ag=>
 (Ax (p1+ag)).bind fun ah=>
 Option.bind (
  if 8≤A then(
   Option.bind (
    if 50≤A then(
     none
    ) else(
     some ()
    )
   ) fun aj=>
   (f197 fuel p0 aa O ah 0).bind fun ai=>
   some ai
  ) else(
   some (O,0)
  )
 ) fun K=>
 if K.2=0 then(
  some (K.1,1)
 ) else(
  if K.2=12 then(
   some (K.1,2)
  ) else(
   some (K.1,0)
  )
 )
theorem NM{A:Nat}{aa:Nat}{ab:Nat}{K:Array Value}{p0:List (A3)}{p1:Int}{p2:Int}(hW:WL 133 BH E A aa ab K p0){fuel:Nat}{r:Int×Int}(ak:f181 fuel p0 p1 p2=some r):Aq J 181 [.slice (some ⟨A,0,none⟩) ab aa,iV p1,iV p2,(.func (.func 134) #[] #[])] E [(A,.cells K 133 (0,0))] (fun w E' B'=>w= .tuple #[iV r.1,iV r.2]∧B'= [(A,.cells K 133 (0,0))]):=by
 refine Aq.en func181 rfl rfl fun Q bn cs H ay ac=>?_;unfold f181 at ak;obtain⟨al,az,aA⟩:=bs ak;refine zg 9 rfl ?_;refine JL.Y rfl (fun ρ h=>Yl.Bb (h _ _ rfl) (h _ _ rfl) az) ?_;refine zg 4 rfl ?_;refine JS.alloc rfl rfl rfl ay (AO type3) fun O am=>?_;obtain⟨aB,aC,aD⟩:=bs aA;refine zg 5 rfl ?_;refine JL.Y (v:=iV aB) rfl (fun ρ h=>Yl.HV (h _ _ rfl) (h _ _ rfl) aC) ?_;obtain⟨bo,aE,aF⟩:=bs aD;refine JL.Y rfl (fun ρ h=>Yl.mulC (h _ _ rfl) (h _ _ rfl) aE) ?_;obtain⟨aG,aH,aI⟩:=bs aF;refine JL.Y rfl (fun ρ h=>Yl.A0 (h _ _ rfl) (h _ _ rfl) aH) ?_;obtain⟨aJ,aK,aL⟩:=bs aI;refine zg 6 rfl ?_;refine JL.Y (v:=iV aJ) rfl (fun ρ h=>Yl.HV (h _ _ rfl) (h _ _ rfl) aK) ?_;obtain⟨bp,aM,aN⟩:=bs aL;refine JL.Y rfl (fun ρ h=>Yl.mulC (h _ _ rfl) (h _ _ rfl) aM) ?_;obtain⟨aO,aP,aQ⟩:=bs aN;refine JL.Y rfl (fun ρ h=>Yl.A0 (h _ _ rfl) (h _ _ rfl) aP) ?_;obtain⟨aR,aS,aT⟩:=bs aQ;refine zg 6 rfl ?_;refine JL.Y (v:=iV aR) rfl (fun ρ h=>Yl.HV (h _ _ rfl) (h _ _ rfl) aS) ?_;obtain⟨bq,aU,aV⟩:=bs aT;refine JL.Y rfl (fun ρ h=>Yl.mulC (h _ _ rfl) (h _ _ rfl) aU) ?_;obtain⟨aW,aX,aY⟩:=bs aV;refine JL.Y rfl (fun ρ h=>Yl.A0 (h _ _ rfl) (h _ _ rfl) aX) ?_;obtain⟨U,an,ao⟩:=bs aY;refine zg 8 rfl ?_;refine JL.join (fun L s=>∃(ap:LH),Jm E H ap [[(A,.cells K 133 (0,0))],[(O,.cells #[iV U.2] 3 (0,0))]] [(11,.pointer (some ⟨O,0,none⟩)),(13,iV U.1)] L s) ?_ ?_
 ·rintro _ _ ⟨ap,rfl,rfl,ae,Z⟩;refine zg 2 rfl ?_;refine JL.Y (v:=iV U.2) rfl (fun ρ h=>Yl.load (Al underlying3) (h _ _ rfl) (Cw (j:=1) (off:=0) Z rfl rfl)) ?_;refine zg 7 rfl ?_;refine JL.ifs (p:=U.2=0) rfl (fun ag=>?_) (fun ag=>?_)
  ·have aZ:=ip ao ag;refine zg 6 rfl ?_;refine JS.drop 1 Z rfl fun a0=>?_;obtain rfl:=oi aZ;refine JL.rt func181 rfl rfl ?_;exact ac _ _ _ _ ae rfl ⟨rfl,(by first | rfl | simp | (simp [Value.cells]))⟩ a0
  ·have aq:=im ao ag;refine zg 5 rfl ?_;refine JL.ifs (p:=U.2=12) rfl (fun ah=>?_) (fun ah=>?_)
   ·have a1:=ip aq ah;refine zg 6 rfl ?_;refine JS.drop 1 Z rfl fun a2=>?_;obtain rfl:=oi a1;refine JL.rt func181 rfl rfl ?_;exact ac _ _ _ _ ae rfl ⟨rfl,(by first | rfl | simp | (simp [Value.cells]))⟩ a2
   ·have a3:=im aq ah;refine zg 6 rfl ?_;refine JS.drop 1 Z rfl fun a4=>?_;obtain rfl:=oi a3;refine JL.rt func181 rfl rfl ?_;exact ac _ _ _ _ ae rfl ⟨rfl,(by first | rfl | simp | (simp [Value.cells]))⟩ a4
 ·intro ar;refine JL.ifs (p:=8≤al) rfl (fun ai=>?_) (fun ai=>?_)
  ·have a5:=ip an ai;obtain⟨br,au,a6⟩:=bs a5;refine zg 6 rfl ?_;refine JL.join (fun L s=>∃(av:LH),Jm E H av [[(A,.cells K 133 (0,0))],[(O,.cells #[iV 0] 3 (0,0))]] [(0,.slice (some ⟨A,0,none⟩) ab aa),(3,(.func (.func 134) #[] #[])),(8,iV 0),(9,iV 0),(11,.pointer (some ⟨O,0,none⟩)),(12,iV aG),(13,iV aO),(14,iV aW)] L s) ?_ ?_
   ·rintro _ _ ⟨av,rfl,rfl,aw,a7⟩;obtain⟨a8,a9,ba⟩:=bs a6;refine zg 6 rfl ?_;refine JS.merge 1 0 rfl rfl a7 fun bb=>?_;refine JS.BL 1 (Sp (hW.mono aw) a9) rfl rfl (Aw func197 rfl) bb rfl ?_;rintro _ bc _ bd ⟨rfl,rfl⟩ bf;refine JS.part 1 rfl bf fun bg=>?_;refine JS.norm (S':= [[],[(O,.cells #[iV a8.2] 3 (0,0))],[(A,.cells K 133 (0,0))]]) rfl bg fun bh=>?_;refine zg 2 rfl ?_;refine JS.swap 1 2 rfl rfl rfl bh fun bi=>?_;obtain rfl:=oi ba;exact JL.kw (ar _ _ ⟨bc,rfl,rfl,(aw.trans bd),bi⟩) rfl
   ·intro bj;refine JL.ifs (p:=50≤al) rfl (fun aj=>?_) (fun aj=>?_)
    ·have bk:=ip au aj;refine zg 5 rfl ?_;cases bk
    ·have bl:=im au aj;refine JL.skip ?_;obtain rfl:=oi bl;exact JL.kw (bj _ _ ⟨E,rfl,rfl,(Le.refl _),am⟩) rfl
  ·have bm:=im an ai;refine JL.skip ?_;obtain rfl:=oi bm;exact JL.kw (ar _ _ ⟨E,rfl,rfl,(Le.refl _),am⟩) rfl
end Pal
namespace Pal
open Go Go.Conc Go.Proofs
open Go.Proofs.Tryz
variable {J:Judge Tryz.prog}{E:LH}
def Fy(fuel:Nat)(A:Int×Int×(List (A3))):Option (A4 (Int×Int×(List (A3))) ((List (A3)))):=
 if A.1<A.2.1 then(
  (ix A.2.2 (A.2.1)).bind fun K=>
  (ix A.2.2 (A.1)).bind fun O=>
  (Ax (A.1+1)).bind fun U=>
  (Ax (A.2.1 - 1)).bind fun Z=>
  some (.more (U,Z,((A.2.2.set (Int.toNat A.1) K).set (Int.toNat A.2.1) O)))
 ) else(
  some (.done A.2.2)
 )
def f182(fuel:Nat)(p0:List (A3))(p1:Int)(p2:Int):Option ((List (A3))):=
 (Ax (p2 - 1)).bind fun A=>
 Option.bind (iter (Fy fuel) fuel (p1,A,p0)) fun K=>
 some K
theorem Nz{U:Nat}{aa:Nat}{ab:Nat}{am:Array Value}{p0:List (A3)}{p1:Int}{p2:Int}(hW:WL 133 BH E U aa ab am p0){fuel:Nat}{r:(List (A3))}(au:f182 fuel p0 p1 p2=some r):Aq J 182 [.slice (some ⟨U,0,none⟩) ab aa,iV p1,iV p2,(.func (.func 134) #[] #[])] E [(U,.cells am 133 (0,0))] (fun w E' B'=>∃(av:Array Value),w= .tuple #[]∧B'= [(U,.cells av 133 (0,0))]∧WL 133 BH E' U aa ab av (r)):=by
 refine Aq.en func182 rfl rfl fun Q a4 cs H aA aB=>?_;unfold f182 at au;obtain⟨aC,aD,aE⟩:=bs au;refine zg 8 rfl ?_;refine JL.Y rfl (fun ρ h=>Yl.Bb (h _ _ rfl) (h _ _ rfl) aD) ?_;obtain⟨aF,aG,aH⟩:=bs aE;refine zg 2 rfl ?_;refine JL.join (fun L s=>∃(an:LH) (f17:Array Value),Jn E H an [[(U,.cells f17 133 (0,0))]] [] L s (WL 133 BH an U aa ab f17 (aF))) ?_ ?_
 ·rintro _ _ ⟨an,f17,rfl,rfl,aI,aJ,aK⟩;obtain rfl:=oi aH;refine JL.fin (v:= .tuple #[]) rfl rfl (Bx.list func182 rfl (vs:= []) trivial) ?_;exact aB _ _ _ _ aI rfl ⟨f17,rfl,(by first | rfl | simp | (simp [Value.cells])),aK⟩ aJ
 ·intro aL;refine JL.block ?_;refine JL.wk [(0,.slice (some ⟨U,0,none⟩) ab aa),(8,iV p1),(9,iV aC)] rfl ?_;refine JL.Bf aG (fun L s O=>∃(ac:LH) (f25:Array Value),Jn E H ac [[(U,.cells f25 133 (0,0))]] [(0,.slice (some ⟨U,0,none⟩) ab aa),(8,iV O.1),(9,iV O.2.1)] L s (WL 133 BH ac U aa ab f25 (O.2.2))) ⟨E,am,rfl,rfl,(Le.refl _),aA,hW⟩ ?_;rintro _ _ O ⟨ac,f25,rfl,rfl,aw,aj,Z⟩ aM ⟨a5,ao⟩ aN;have ap:=ao;unfold Fy at ap;refine zg 7 rfl ?_;refine JL.ifs (p:=O.1<O.2.1) rfl (fun aq=>?_) (fun aq=>?_)
  ·have aO:=ip ap aq;refine zg 3 rfl ?_;refine JB.draw [13,15] [U] mixed rfl ?_;refine JB.mv 0 rfl rfl ?_;refine JB.mv 1 rfl rfl ?_;refine JB.mv 2 rfl rfl ?_;refine JB.mv 3 rfl rfl ?_;refine JB.mv 4 rfl rfl ?_;refine JB.mv 5 rfl rfl ?_;obtain⟨A,ak,aP⟩:=bs aO;obtain⟨_,⟨_,_,rfl,rfl,⟨_,_,rfl,rfl,⟨ae,ag,rfl,aQ⟩⟩⟩,aR⟩:=WL.at Z ak;refine JB.V 6 true rfl rfl (fun ρ h s' hs=>Yl.Bg Z.2 ak underlying130 (Ag type133) (h _ _ rfl) (h _ _ rfl)) ?_;refine JB.val (v:= .agg #[iV A.1,iV A.2.1,.slice ae (A.2.2).length ag]) 7 false rfl (by decide+kernel) rfl rfl rfl (fun ρ h s' hs=>have hs:=hs rfl;Yl.Bs (vs:= [iV A.1,iV A.2.1,.slice ae (A.2.2).length ag]) (Al underlying133) (Ag type133) (h _ _ rfl) (fun q w ar=>by rw [Bi rfl];exact Bl 0 aj rfl (by simp [AH]) hs (aR q w ar))) ?_;refine JB.mv 8 rfl rfl ?_;refine JB.mv 9 rfl rfl ?_;obtain⟨K,al,aS⟩:=bs aP;obtain⟨_,⟨_,_,rfl,rfl,⟨_,_,rfl,rfl,⟨ah,ai,rfl,aT⟩⟩⟩,aU⟩:=WL.at Z al;refine JB.V 10 true rfl rfl (fun ρ h s' hs=>Yl.Bg Z.2 al underlying130 (Ag type133) (h _ _ rfl) (h _ _ rfl)) ?_;refine JB.val (v:= .agg #[iV K.1,iV K.2.1,.slice ah (K.2.2).length ai]) 11 false rfl (by decide+kernel) rfl rfl rfl (fun ρ h s' hs=>have hs:=hs rfl;Yl.Bs (vs:= [iV K.1,iV K.2.1,.slice ah (K.2.2).length ai]) (Al underlying133) (Ag type133) (h _ _ rfl) (fun q w ar=>by rw [Bi rfl];exact Bl 0 aj rfl (by simp [AH]) hs (aU q w ar))) ?_;refine JB.V 12 true rfl rfl (fun ρ h s' hs=>Yl.Bg Z.2 al underlying130 (Ag type133) (h _ _ rfl) (h _ _ rfl)) ?_;have ay:=WL.put (x':=A) (ws':= [iV A.1,iV A.2.1,.slice ae (A.2.2).length ag]) Z Z.2 al ⟨_,_,rfl,rfl,⟨_,_,rfl,rfl,⟨_,_,rfl,aQ⟩⟩⟩;refine JB.store (v:= .agg #[iV A.1,iV A.2.1,.slice ae (A.2.2).length ag]) (off:=Int.toNat (O.1)*3) 13 0 (by decide+kernel) (by decide+kernel) rfl rfl rfl aj rfl rfl (Ag type133) (by simp [Value.cells,BB]) rfl ay.2 fun aV=>?_;refine JB.V 14 true rfl rfl (fun ρ h s' hs=>Yl.Bg Z.2 ak underlying130 (Ag type133) (h _ _ rfl) (h _ _ rfl)) ?_;have az:=WL.put (x':=K) (ws':= [iV K.1,iV K.2.1,.slice ah (K.2.2).length ai]) ay.1 Z.2 ak ⟨_,_,rfl,rfl,⟨_,_,rfl,rfl,⟨_,_,rfl,aT⟩⟩⟩;refine JB.store (v:= .agg #[iV K.1,iV K.2.1,.slice ah (K.2.2).length ai]) (off:=Int.toNat (O.2.1)*3) 15 0 (by decide+kernel) (by decide+kernel) rfl rfl rfl aV rfl rfl (Ag type133) (by simp [Value.cells,BB]) rfl az.2 fun aW=>?_;refine JB.fin (by decide+kernel) ?_;obtain⟨aX,aY,aZ⟩:=bs aS;refine zg 3 rfl ?_;refine JL.Y rfl (fun ρ h=>Yl.A0 (h _ _ rfl) (h _ _ rfl) aY) ?_;obtain⟨a0,a1,a2⟩:=bs aZ;refine zg 4 rfl ?_;refine JL.Y rfl (fun ρ h=>Yl.Bb (h _ _ rfl) (h _ _ rfl) a1) ?_;refine zg 3 rfl ?_;obtain rfl:=oi a2;exact JL.kw (aN _ _ (aX,a0,((O.2.2.set (Int.toNat O.1) A).set (Int.toNat O.2.1) K)) ⟨ac,(A5 (A5 f25 (Int.toNat (O.1)*3) [iV A.1,iV A.2.1,.slice ae (A.2.2).length ag]) (Int.toNat (O.2.1)*3) [iV K.1,iV K.2.1,.slice ah (K.2.2).length ai]),rfl,rfl,aw,aW,az.1⟩ ao) rfl
  ·have a3:=im ap aq;refine JL.exit rfl ?_;obtain rfl:=oi a3;obtain rfl:=aM _ ao;exact JL.kw (aL _ _ ⟨ac,f25,rfl,rfl,aw,aj,Z⟩) rfl
def Gg(fuel:Nat)(p2:Int)(K:Int×Int×(List (A3)))(A:Int):Option (A4 (Int) (Int)):=
 Option.bind (
  if A<p2 then(
   (ix K.2.2 (A)).bind fun O=>
   (Ax (A - 1)).bind fun U=>
   (ix K.2.2 (U)).bind fun Z=>
   (f134 fuel O Z).bind fun aa=>
   some (decide (¬(aa<0)))
  ) else(
   some false
  )
 ) fun ab=>
 if ab=true then(
  (Ax (A+1)).bind fun ac=>
  some (.more ac)
 ) else(
  some (.done A)
 )
def Ng(fuel:Nat)(A:Int×(List (A3))):Option (A4 (Int×(List (A3))) ((List (A3)))):=
 if 1≤A.1 then(
  (ix A.2 (A.1)).bind fun K=>
  (Ax (A.1 - 1)).bind fun Z=>
  (ix A.2 (Z)).bind fun aa=>
  (f134 fuel K aa).bind fun ab=>
  if ¬(ab<0) then(
   some (.done A.2)
  ) else(
   (Ax (A.1 - 1)).bind fun O=>
   (Ax (A.1 - 1)).bind fun ac=>
   (ix A.2 (ac)).bind fun U=>
   (ix (A.2.set (Int.toNat A.1) U) (O)).bind fun ag=>
   (Ax (A.1 - 1)).bind fun ae=>
   some (.more (ae,((A.2.set (Int.toNat A.1) U).set (Int.toNat O) K)))
  )
 ) else(
  some (.done A.2)
 )
def Nn(fuel:Nat)(p2:Int)(A:Int×(List (A3))):Option (A4 (Int×(List (A3))) ((List (A3)))):=
 if A.1<p2 then(
  (ix A.2 (A.1)).bind fun K=>
  (Ax (A.1 - 1)).bind fun Z=>
  (ix A.2 (Z)).bind fun aa=>
  (f134 fuel K aa).bind fun ab=>
  if ¬(ab<0) then(
   some (.done A.2)
  ) else(
   (Ax (A.1 - 1)).bind fun O=>
   (Ax (A.1 - 1)).bind fun ac=>
   (ix A.2 (ac)).bind fun U=>
   (ix (A.2.set (Int.toNat A.1) U) (O)).bind fun ag=>
   (Ax (A.1+1)).bind fun ae=>
   some (.more (ae,((A.2.set (Int.toNat A.1) U).set (Int.toNat O) K)))
  )
 ) else(
  some (.done A.2)
 )
def IA(fuel:Nat)(p1:Int)(p2:Int)(A:Int×Int×(List (A3))):Option (A4 (Int×Int×(List (A3))) ((Bool×(List (A3)))⊕((List (A3))))):=
 if A.2.1<5 then(
  Option.bind (iter (Gg fuel p2 A) fuel A.1) fun K=>
  if K=p2 then(
   some (.done (Sum.inl (true,A.2.2)))
  ) else(
   (Ax (p2 - p1)).bind fun ab=>
   if ab<50 then(
    some (.done (Sum.inl (false,A.2.2)))
   ) else(
    (Ax (K - 1)).bind fun O=>
    (Ax (K - 1)).bind fun ac=>
    (ix A.2.2 (ac)).bind fun U=>
    (ix A.2.2 (K)).bind fun Z=>
    (ix (A.2.2.set (Int.toNat K) U) (O)).bind fun an=>
    (Ax (K - p1)).bind fun ae=>
    Option.bind (
     if 2≤ae then(
      (Ax (K - 1)).bind fun ag=>
      Option.bind (iter (Ng fuel) fuel (ag,((A.2.2.set (Int.toNat K) U).set (Int.toNat O) Z))) fun ah=>
      some ah
     ) else(
      some ((A.2.2.set (Int.toNat K) U).set (Int.toNat O) Z)
     )
    ) fun aa=>
    (Ax (p2 - K)).bind fun ai=>
    Option.bind (
     if 2≤ai then(
      (Ax (K+1)).bind fun aj=>
      Option.bind (iter (Nn fuel p2) fuel (aj,aa)) fun ak=>
      some ak
     ) else(
      some aa
     )
    ) fun al=>
    (Ax (A.2.1+1)).bind fun am=>
    some (.more (K,am,al))
   )
  )
 ) else(
  some (.done (Sum.inr A.2.2))
 )
def f183(fuel:Nat)(p0:List (A3))(p1:Int)(p2:Int):Option (Bool×(List (A3))):=
 (Ax (p1+1)).bind fun A=>
 Option.bind (iter (IA fuel p1 p2) fuel (A,0,p0)) fun K=>
 Sum.elim (fun r=>some r) (fun O=>
 some (false,O)
 ) K
theorem NR{A:Nat}{K:Nat}{O:Nat}{bc:Array Value}{p0:List (A3)}{p1:Int}{p2:Int}(hW:WL 133 BH E A K O bc p0){fuel:Nat}{r:Bool×(List (A3))}(bK:f183 fuel p0 p1 p2=some r):Aq J 183 [.slice (some ⟨A,0,none⟩) O K,iV p1,iV p2,(.func (.func 134) #[] #[])] E [(A,.cells bc 133 (0,0))] (fun w E' B'=>∃(bL:Array Value),w= .bool r.1∧B'= [(A,.cells bL 133 (0,0))]∧WL 133 BH E' A K O bL (r.2)):=by
 refine Aq.en func183 rfl rfl fun Q fo cs H cF bd=>?_;unfold f183 at bK;obtain⟨cG,cH,cI⟩:=bs bK;refine zg 7 rfl ?_;refine JL.Y rfl (fun ρ h=>Yl.A0 (h _ _ rfl) (h _ _ rfl) cH) ?_;obtain⟨bM,cJ,bf⟩:=bs cI;refine zg 7 rfl ?_;refine JL.join (fun L s=>∃(bg:(List (A3))) (bh:LH) (f18:Array Value),bM=Sum.inr bg∧Jn E H bh [[(A,.cells f18 133 (0,0))]] [] L s (WL 133 BH bh A K O f18 (bg))) ?_ ?_
 ·rintro _ _ ⟨bg,bh,f18,rfl,rfl,rfl,cK,cM,cN⟩;have cO:=elim_inr bf;refine zg 4 rfl ?_;obtain rfl:=oi cO;refine JL.rt func183 rfl rfl ?_;exact bd _ _ _ _ cK rfl ⟨f18,rfl,(by first | rfl | simp | (simp [Value.cells])),cN⟩ cM
 ·intro cP;refine JL.block ?_;refine JL.wk [(0,.slice (some ⟨A,0,none⟩) O K),(1,iV p1),(2,iV p2),(3,(.func (.func 134) #[] #[])),(9,iV cG),(10,iV 0)] rfl ?_;refine JL.Bf cJ (fun L s ab=>∃(aq:LH) (f27:Array Value),Jn E H aq [[(A,.cells f27 133 (0,0))]] [(0,.slice (some ⟨A,0,none⟩) O K),(1,iV p1),(2,iV p2),(3,(.func (.func 134) #[] #[])),(9,iV ab.1),(10,iV ab.2.1)] L s (WL 133 BH aq A K O f27 (ab.2.2))) ⟨E,bc,rfl,rfl,(Le.refl _),cF,hW⟩ ?_;rintro _ _ ab ⟨aq,f27,rfl,rfl,aY,bN,ai⟩ bi ⟨fp,aK⟩ cQ;have bj:=aK;unfold IA at bj;refine zg 6 rfl ?_;refine JL.ifs (p:=ab.2.1<5) rfl (fun bk=>?_) (fun bk=>?_)
  ·have cR:=ip bj bk;obtain⟨aj,cT,bO⟩:=bs cR;refine zg 4 rfl ?_;refine JL.join (fun L s=>∃(ar:LH),Jm aq H ar [[(A,.cells f27 133 (0,0))]] [(0,.slice (some ⟨A,0,none⟩) O K),(1,iV p1),(2,iV p2),(3,(.func (.func 134) #[] #[])),(9,iV aj),(10,iV ab.2.1)] L s) ?_ ?_
   ·rintro _ _ ⟨ar,rfl,rfl,am,aL⟩;refine zg 7 rfl ?_;refine JL.ifs (p:=aj=p2) rfl (fun bl=>?_) (fun bl=>?_)
    ·have cV:=ip bO bl;refine zg 4 rfl ?_;obtain rfl:=oi cV;obtain rfl:=bi _ aK;have cW:=elim_inl bf;obtain rfl:=oi cW;refine JL.rt func183 rfl rfl ?_;exact bd _ _ _ _ (aY.trans am) rfl ⟨f27,rfl,(by first | rfl | simp | (simp [Value.cells])),(ai.mono am)⟩ aL
    ·have cX:=im bO bl;obtain⟨cY,cZ,bP⟩:=bs cX;refine zg 6 rfl ?_;refine JL.Y rfl (fun ρ h=>Yl.Bb (h _ _ rfl) (h _ _ rfl) cZ) ?_;refine zg 2 rfl ?_;refine JL.ifs (p:=cY<50) rfl (fun bm=>?_) (fun bm=>?_)
     ·have c0:=ip bP bm;refine zg 4 rfl ?_;obtain rfl:=oi c0;obtain rfl:=bi _ aK;have c1:=elim_inl bf;obtain rfl:=oi c1;refine JL.rt func183 rfl rfl ?_;exact bd _ _ _ _ (aY.trans am) rfl ⟨f27,rfl,(by first | rfl | simp | (simp [Value.cells])),(ai.mono am)⟩ aL
     ·have c2:=im bP bm;refine zg 2 rfl ?_;refine JB.draw [15,17] [A] mixed rfl ?_;refine JB.mv 0 rfl rfl ?_;refine JB.mv 1 rfl rfl ?_;refine JB.mv 2 rfl rfl ?_;refine JB.mv 3 rfl rfl ?_;obtain⟨bn,c3,c4⟩:=bs c2;refine JB.V 4 true rfl rfl (fun ρ h s' hs=>Yl.Bb (h _ _ rfl) (h _ _ rfl) c3) ?_;refine JB.mv 5 rfl rfl ?_;refine JB.mv 6 rfl rfl ?_;obtain⟨fq,c5,c6⟩:=bs c4;refine JB.V 7 true rfl rfl (fun ρ h s' hs=>Yl.Bb (h _ _ rfl) (h _ _ rfl) c5) ?_;obtain⟨ac,bQ,c7⟩:=bs c6;obtain⟨_,⟨_,_,rfl,rfl,⟨_,_,rfl,rfl,⟨az,aA,rfl,c8⟩⟩⟩,c9⟩:=WL.at (ai.mono am) bQ;refine JB.V 8 true rfl rfl (fun ρ h s' hs=>Yl.Bg ai.2 bQ underlying130 (Ag type133) (h _ _ rfl) (h _ _ rfl)) ?_;refine JB.val (v:= .agg #[iV ac.1,iV ac.2.1,.slice az (ac.2.2).length aA]) 9 false rfl (by decide+kernel) rfl rfl rfl (fun ρ h s' hs=>have hs:=hs rfl;Yl.Bs (vs:= [iV ac.1,iV ac.2.1,.slice az (ac.2.2).length aA]) (Al underlying133) (Ag type133) (h _ _ rfl) (fun q w U=>by rw [Bi rfl];exact Bl 0 aL rfl (by simp [AH]) hs (c9 q w U))) ?_;refine JB.mv 10 rfl rfl ?_;refine JB.mv 11 rfl rfl ?_;obtain⟨ae,aZ,da⟩:=bs c7;obtain⟨_,⟨_,_,rfl,rfl,⟨_,_,rfl,rfl,⟨aB,aC,rfl,db⟩⟩⟩,dc⟩:=WL.at (ai.mono am) aZ;refine JB.V 12 true rfl rfl (fun ρ h s' hs=>Yl.Bg ai.2 aZ underlying130 (Ag type133) (h _ _ rfl) (h _ _ rfl)) ?_;refine JB.val (v:= .agg #[iV ae.1,iV ae.2.1,.slice aB (ae.2.2).length aC]) 13 false rfl (by decide+kernel) rfl rfl rfl (fun ρ h s' hs=>have hs:=hs rfl;Yl.Bs (vs:= [iV ae.1,iV ae.2.1,.slice aB (ae.2.2).length aC]) (Al underlying133) (Ag type133) (h _ _ rfl) (fun q w U=>by rw [Bi rfl];exact Bl 0 aL rfl (by simp [AH]) hs (dc q w U))) ?_;refine JB.V 14 true rfl rfl (fun ρ h s' hs=>Yl.Bg ai.2 aZ underlying130 (Ag type133) (h _ _ rfl) (h _ _ rfl)) ?_;have aM:=WL.put (x':=ac) (ws':= [iV ac.1,iV ac.2.1,.slice az (ac.2.2).length aA]) (ai.mono am) ai.2 aZ ⟨_,_,rfl,rfl,⟨_,_,rfl,rfl,⟨_,_,rfl,c8⟩⟩⟩;refine JB.store (v:= .agg #[iV ac.1,iV ac.2.1,.slice az (ac.2.2).length aA]) (off:=Int.toNat (aj)*3) 15 0 (by decide+kernel) (by decide+kernel) rfl rfl rfl aL rfl rfl (Ag type133) (by simp [Value.cells,BB]) rfl aM.2 fun dd=>?_;obtain⟨fs,bo,de⟩:=bs da;obtain⟨_,⟨_,_,rfl,rfl,⟨_,_,rfl,rfl,⟨fu,fv,rfl,fw⟩⟩⟩,fx⟩:=WL.at aM.1 bo;refine JB.V 16 true rfl rfl (fun ρ h s' hs=>Yl.Bg (aM.1).2 bo underlying130 (Ag type133) (h _ _ rfl) (h _ _ rfl)) ?_;have bp:=WL.put (x':=ae) (ws':= [iV ae.1,iV ae.2.1,.slice aB (ae.2.2).length aC]) aM.1 (aM.1).2 bo ⟨_,_,rfl,rfl,⟨_,_,rfl,rfl,⟨_,_,rfl,db⟩⟩⟩;refine JB.store (v:= .agg #[iV ae.1,iV ae.2.1,.slice aB (ae.2.2).length aC]) (off:=Int.toNat (bn)*3) 17 0 (by decide+kernel) (by decide+kernel) rfl rfl rfl dd rfl rfl (Ag type133) (by simp [Value.cells,BB]) rfl bp.2 fun bR=>?_;refine JB.fin (by decide+kernel) ?_;obtain⟨df,dg,dh⟩:=bs de;refine zg 5 rfl ?_;refine JL.Y rfl (fun ρ h=>Yl.Bb (h _ _ rfl) (h _ _ rfl) dg) ?_;obtain⟨di,bS,dj⟩:=bs dh;refine zg 2 rfl ?_;refine JL.join (fun L s=>∃(an:LH) (f99:Array Value),Jn ar H an [[(A,.cells f99 133 (0,0))]] [(0,.slice (some ⟨A,0,none⟩) O K),(1,iV p1),(2,iV p2),(3,(.func (.func 134) #[] #[])),(9,iV aj),(10,iV ab.2.1)] L s (WL 133 BH an A K O f99 (di))) ?_ ?_
      ·rintro _ _ ⟨an,f99,rfl,rfl,dk,bT,bU⟩;obtain⟨dl,dm,dn⟩:=bs dj;refine zg 4 rfl ?_;refine JL.Y rfl (fun ρ h=>Yl.Bb (h _ _ rfl) (h _ _ rfl) dm) ?_;obtain⟨bV,bW,dp⟩:=bs dn;refine zg 2 rfl ?_;refine JL.join (fun L s=>∃(a0:LH) (f109:Array Value),Jn an H a0 [[(A,.cells f109 133 (0,0))]] [(0,.slice (some ⟨A,0,none⟩) O K),(1,iV p1),(2,iV p2),(3,(.func (.func 134) #[] #[])),(9,iV aj),(10,iV ab.2.1)] L s (WL 133 BH a0 A K O f109 (bV))) ?_ ?_
       ·rintro _ _ ⟨a0,f109,rfl,rfl,dq,dr,dt⟩;obtain⟨du,dv,dw⟩:=bs dp;refine zg 3 rfl ?_;refine JL.Y rfl (fun ρ h=>Yl.A0 (h _ _ rfl) (h _ _ rfl) dv) ?_;refine zg 2 rfl ?_;obtain rfl:=oi dw;exact JL.kw (cQ _ _ (aj,du,bV) ⟨a0,f109,rfl,rfl,(((aY.trans am).trans dk).trans dq),dr,dt⟩ aK) rfl
       ·intro bX;refine JL.ifs (p:=2≤dl) rfl (fun bq=>?_) (fun bq=>?_)
        ·have dx:=ip bW bq;obtain⟨dy,dz,dA⟩:=bs dx;refine zg 3 rfl ?_;refine JL.Y rfl (fun ρ h=>Yl.A0 (h _ _ rfl) (h _ _ rfl) dz) ?_;obtain⟨dB,dC,dD⟩:=bs dA;refine zg 2 rfl ?_;refine JL.join (fun L s=>∃(a1:LH) (f134:Array Value),Jn an H a1 [[(A,.cells f134 133 (0,0))]] [(0,.slice (some ⟨A,0,none⟩) O K),(1,iV p1),(2,iV p2),(3,(.func (.func 134) #[] #[])),(9,iV aj),(10,iV ab.2.1)] L s (WL 133 BH a1 A K O f134 (dB))) ?_ ?_
         ·rintro _ _ ⟨a1,f134,rfl,rfl,dE,dF,dG⟩;obtain rfl:=oi dD;exact JL.kw (bX _ _ ⟨a1,f134,rfl,rfl,dE,dF,dG⟩) rfl
         ·intro bY;refine JL.block ?_;refine JL.wk [(0,.slice (some ⟨A,0,none⟩) O K),(1,iV p1),(2,iV p2),(3,(.func (.func 134) #[] #[])),(9,iV aj),(10,iV ab.2.1),(12,iV dy)] rfl ?_;refine JL.Bf dC (fun L s ao=>∃(a2:LH) (f142:Array Value),Jn an H a2 [[(A,.cells f142 133 (0,0))]] [(0,.slice (some ⟨A,0,none⟩) O K),(1,iV p1),(2,iV p2),(3,(.func (.func 134) #[] #[])),(9,iV aj),(10,iV ab.2.1),(12,iV ao.1)] L s (WL 133 BH a2 A K O f142 (ao.2))) ⟨an,f99,rfl,rfl,(Le.refl _),bT,bU⟩ ?_;rintro _ _ ao ⟨a2,f142,rfl,rfl,br,aN,ak⟩ bZ ⟨fy,a3⟩ dH;have bu:=a3;unfold Nn at bu;refine zg 7 rfl ?_;refine JL.ifs (p:=ao.1<p2) rfl (fun bv=>?_) (fun bv=>?_)
          ·have dI:=ip bu bv;refine zg 5 rfl ?_;refine JG.Ce 10 [A] ⟨⟨0,_,rfl⟩,trivial⟩ aN mixed rfl (by decide+kernel) fun ht=>?_;refine JG.ms ht rfl [0,1,2] rfl ?_;obtain⟨Z,aO,dJ⟩:=bs dI;obtain⟨_,⟨_,_,rfl,rfl,⟨_,_,rfl,rfl,⟨au,av,rfl,b0⟩⟩⟩,b1⟩:=WL.at ak aO;refine JG.V 3 ht rfl rfl (fun ρ h s' hs=>Yl.Bg (ak).2 aO underlying130 (Ag type133) (h _ _ rfl) (h _ _ rfl)) ?_;refine JG.V 4 ht rfl rfl (fun ρ h s' hs=>Yl.Bs (vs:= [iV Z.1,iV Z.2.1,.slice au (Z.2.2).length av]) (Al underlying133) (Ag type133) (h _ _ rfl) (fun q w U=>by rw [Bi rfl];exact Bl 0 aN rfl (by simp [AH]) hs (b1 q w U))) ?_;refine JG.ms ht rfl [5,6] rfl ?_;obtain⟨fz,dK,dL⟩:=bs dJ;refine JG.V 7 ht rfl rfl (fun ρ h s' hs=>Yl.Bb (h _ _ rfl) (h _ _ rfl) dK) ?_;obtain⟨aD,b2,dM⟩:=bs dL;obtain⟨_,⟨_,_,rfl,rfl,⟨_,_,rfl,rfl,⟨b3,b4,rfl,dN⟩⟩⟩,dO⟩:=WL.at ak b2;refine JG.V 8 ht rfl rfl (fun ρ h s' hs=>Yl.Bg (ak).2 b2 underlying130 (Ag type133) (h _ _ rfl) (h _ _ rfl)) ?_;refine JG.V 9 ht rfl rfl (fun ρ h s' hs=>Yl.Bs (vs:= [iV aD.1,iV aD.2.1,.slice b3 (aD.2.2).length b4]) (Al underlying133) (Ag type133) (h _ _ rfl) (fun q w U=>by rw [Bi rfl];exact Bl 0 aN rfl (by simp [AH]) hs (dO q w U))) ?_;refine Av.leaf (tail:= [10,11,12]) (by decide+kernel) (fun t=>A1 (by decide+kernel) (A1 (by decide+kernel) (A1 (by decide+kernel) BM)) t) ?_;obtain⟨b5,dP,b6⟩:=bs dM;refine JS.Gr (vs:= [.agg #[iV Z.1,iV Z.2.1,.slice au (Z.2.2).length av],.agg #[iV aD.1,iV aD.2.1,.slice b3 (aD.2.2).length b4]]) (EG b0 dN dP) rfl rfl rfl rfl (Aw func134 rfl) rfl aN ?_;rintro _ b7 _ aE ⟨rfl,rfl⟩ a4;refine zg 1 rfl ?_;refine JL.Y (v:= .bool (decide (¬(b5<0)))) rfl (fun ρ h=>Yl.Gw (h _ _ rfl)) ?_;refine JL.done ?_;refine JL.ifs (p:=¬(b5<0)) rfl (fun bw=>?_) (fun bw=>?_)
           ·have dQ:=ip b6 bw;refine JL.exit rfl ?_;obtain rfl:=oi dQ;obtain rfl:=bZ _ a3;exact JL.kw (bY _ _ ⟨b7,f142,rfl,rfl,(br.trans aE),a4,(ak.mono aE)⟩) rfl
           ·have dR:=im b6 bw;refine JL.skip ?_;refine JB.draw [15,17] [A] mixed rfl ?_;refine JB.mv 0 rfl rfl ?_;refine JB.mv 1 rfl rfl ?_;refine JB.mv 2 rfl rfl ?_;refine JB.mv 3 rfl rfl ?_;obtain⟨bx,dS,dT⟩:=bs dR;refine JB.V 4 true rfl rfl (fun ρ h s' hs=>Yl.Bb (h _ _ rfl) (h _ _ rfl) dS) ?_;refine JB.mv 5 rfl rfl ?_;refine JB.mv 6 rfl rfl ?_;obtain⟨fA,dU,dV⟩:=bs dT;refine JB.V 7 true rfl rfl (fun ρ h s' hs=>Yl.Bb (h _ _ rfl) (h _ _ rfl) dU) ?_;obtain⟨ag,b8,dW⟩:=bs dV;obtain⟨_,⟨_,_,rfl,rfl,⟨_,_,rfl,rfl,⟨aP,aQ,rfl,dX⟩⟩⟩,dY⟩:=WL.at (ak.mono aE) b8;refine JB.V 8 true rfl rfl (fun ρ h s' hs=>Yl.Bg ak.2 b8 underlying130 (Ag type133) (h _ _ rfl) (h _ _ rfl)) ?_;refine JB.val (v:= .agg #[iV ag.1,iV ag.2.1,.slice aP (ag.2.2).length aQ]) 9 false rfl (by decide+kernel) rfl rfl rfl (fun ρ h s' hs=>have hs:=hs rfl;Yl.Bs (vs:= [iV ag.1,iV ag.2.1,.slice aP (ag.2.2).length aQ]) (Al underlying133) (Ag type133) (h _ _ rfl) (fun q w U=>by rw [Bi rfl];exact Bl 0 a4 rfl (by simp [AH]) hs (dY q w U))) ?_;refine JB.mv 10 rfl rfl ?_;refine JB.mv 11 rfl rfl ?_;refine JB.V 12 true rfl rfl (fun ρ h s' hs=>Yl.Bg ak.2 aO underlying130 (Ag type133) (h _ _ rfl) (h _ _ rfl)) ?_;refine JB.val (v:= .agg #[iV Z.1,iV Z.2.1,.slice au (Z.2.2).length av]) 13 false rfl (by decide+kernel) rfl rfl rfl (fun ρ h s' hs=>have hs:=hs rfl;Yl.Bs (vs:= [iV Z.1,iV Z.2.1,.slice au (Z.2.2).length av]) (Al underlying133) (Ag type133) (h _ _ rfl) (fun q w U=>by rw [Bi rfl];exact Bl 0 a4 rfl (by simp [AH]) hs (b1 q w U))) ?_;refine JB.V 14 true rfl rfl (fun ρ h s' hs=>Yl.Bg ak.2 aO underlying130 (Ag type133) (h _ _ rfl) (h _ _ rfl)) ?_;have aR:=WL.put (x':=ag) (ws':= [iV ag.1,iV ag.2.1,.slice aP (ag.2.2).length aQ]) (ak.mono aE) ak.2 aO ⟨_,_,rfl,rfl,⟨_,_,rfl,rfl,⟨_,_,rfl,dX⟩⟩⟩;refine JB.store (v:= .agg #[iV ag.1,iV ag.2.1,.slice aP (ag.2.2).length aQ]) (off:=Int.toNat (ao.1)*3) 15 0 (by decide+kernel) (by decide+kernel) rfl rfl rfl a4 rfl rfl (Ag type133) (by simp [Value.cells,BB]) rfl aR.2 fun dZ=>?_;obtain⟨fB,bz,ea⟩:=bs dW;obtain⟨_,⟨_,_,rfl,rfl,⟨_,_,rfl,rfl,⟨fC,fD,rfl,fE⟩⟩⟩,fF⟩:=WL.at aR.1 bz;refine JB.V 16 true rfl rfl (fun ρ h s' hs=>Yl.Bg (aR.1).2 bz underlying130 (Ag type133) (h _ _ rfl) (h _ _ rfl)) ?_;have b9:=WL.put (x':=Z) (ws':= [iV Z.1,iV Z.2.1,.slice au (Z.2.2).length av]) aR.1 (aR.1).2 bz ⟨_,_,rfl,rfl,⟨_,_,rfl,rfl,⟨_,_,rfl,(b0.mono aE)⟩⟩⟩;refine JB.store (v:= .agg #[iV Z.1,iV Z.2.1,.slice au (Z.2.2).length av]) (off:=Int.toNat (bx)*3) 17 0 (by decide+kernel) (by decide+kernel) rfl rfl rfl dZ rfl rfl (Ag type133) (by simp [Value.cells,BB]) rfl b9.2 fun eb=>?_;refine JB.fin (by decide+kernel) ?_;obtain⟨ec,ed,ee⟩:=bs ea;refine zg 3 rfl ?_;refine JL.Y rfl (fun ρ h=>Yl.A0 (h _ _ rfl) (h _ _ rfl) ed) ?_;refine zg 2 rfl ?_;obtain rfl:=oi ee;exact JL.kw (dH _ _ (ec,((ao.2.set (Int.toNat ao.1) ag).set (Int.toNat bx) Z)) ⟨b7,(A5 (A5 f142 (Int.toNat (ao.1)*3) [iV ag.1,iV ag.2.1,.slice aP (ag.2.2).length aQ]) (Int.toNat (bx)*3) [iV Z.1,iV Z.2.1,.slice au (Z.2.2).length av]),rfl,rfl,(br.trans aE),eb,b9.1⟩ a3) rfl
          ·have ef:=im bu bv;refine JL.exit rfl ?_;obtain rfl:=oi ef;obtain rfl:=bZ _ a3;exact JL.kw (bY _ _ ⟨a2,f142,rfl,rfl,br,aN,ak⟩) rfl
        ·have eg:=im bW bq;refine JL.skip ?_;obtain rfl:=oi eg;exact JL.kw (bX _ _ ⟨an,f99,rfl,rfl,(Le.refl _),bT,bU⟩) rfl
      ·intro ca;refine JL.ifs (p:=2≤df) rfl (fun bA=>?_) (fun bA=>?_)
       ·have eh:=ip bS bA;obtain⟨ei,ej,ek⟩:=bs eh;refine zg 3 rfl ?_;refine JL.Y rfl (fun ρ h=>Yl.Bb (h _ _ rfl) (h _ _ rfl) ej) ?_;obtain⟨el,em,eo⟩:=bs ek;refine zg 2 rfl ?_;refine JL.join (fun L s=>∃(a5:LH) (f224:Array Value),Jn ar H a5 [[(A,.cells f224 133 (0,0))]] [(0,.slice (some ⟨A,0,none⟩) O K),(1,iV p1),(2,iV p2),(3,(.func (.func 134) #[] #[])),(9,iV aj),(10,iV ab.2.1)] L s (WL 133 BH a5 A K O f224 (el))) ?_ ?_
        ·rintro _ _ ⟨a5,f224,rfl,rfl,ep,eq,er⟩;obtain rfl:=oi eo;exact JL.kw (ca _ _ ⟨a5,f224,rfl,rfl,ep,eq,er⟩) rfl
        ·intro cb;refine JL.block ?_;refine JL.wk [(0,.slice (some ⟨A,0,none⟩) O K),(1,iV p1),(2,iV p2),(3,(.func (.func 134) #[] #[])),(9,iV aj),(10,iV ab.2.1),(11,iV ei)] rfl ?_;refine JL.Bf em (fun L s ap=>∃(a6:LH) (f232:Array Value),Jn ar H a6 [[(A,.cells f232 133 (0,0))]] [(0,.slice (some ⟨A,0,none⟩) O K),(1,iV p1),(2,iV p2),(3,(.func (.func 134) #[] #[])),(9,iV aj),(10,iV ab.2.1),(11,iV ap.1)] L s (WL 133 BH a6 A K O f232 (ap.2))) ⟨ar,(A5 (A5 f27 (Int.toNat (aj)*3) [iV ac.1,iV ac.2.1,.slice az (ac.2.2).length aA]) (Int.toNat (bn)*3) [iV ae.1,iV ae.2.1,.slice aB (ae.2.2).length aC]),rfl,rfl,(Le.refl _),bR,bp.1⟩ ?_;rintro _ _ ap ⟨a6,f232,rfl,rfl,bB,aS,al⟩ cc ⟨fG,a7⟩ et;have bC:=a7;unfold Ng at bC;refine zg 6 rfl ?_;refine JL.ifs (p:=1≤ap.1) rfl (fun bD=>?_) (fun bD=>?_)
         ·have eu:=ip bC bD;refine zg 5 rfl ?_;refine JG.Ce 10 [A] ⟨⟨0,_,rfl⟩,trivial⟩ aS mixed rfl (by decide+kernel) fun ht=>?_;refine JG.ms ht rfl [0,1,2] rfl ?_;obtain⟨aa,aT,ew⟩:=bs eu;obtain⟨_,⟨_,_,rfl,rfl,⟨_,_,rfl,rfl,⟨aw,ay,rfl,cd⟩⟩⟩,ce⟩:=WL.at al aT;refine JG.V 3 ht rfl rfl (fun ρ h s' hs=>Yl.Bg (al).2 aT underlying130 (Ag type133) (h _ _ rfl) (h _ _ rfl)) ?_;refine JG.V 4 ht rfl rfl (fun ρ h s' hs=>Yl.Bs (vs:= [iV aa.1,iV aa.2.1,.slice aw (aa.2.2).length ay]) (Al underlying133) (Ag type133) (h _ _ rfl) (fun q w U=>by rw [Bi rfl];exact Bl 0 aS rfl (by simp [AH]) hs (ce q w U))) ?_;refine JG.ms ht rfl [5,6] rfl ?_;obtain⟨fH,ex,ey⟩:=bs ew;refine JG.V 7 ht rfl rfl (fun ρ h s' hs=>Yl.Bb (h _ _ rfl) (h _ _ rfl) ex) ?_;obtain⟨aF,cf,ez⟩:=bs ey;obtain⟨_,⟨_,_,rfl,rfl,⟨_,_,rfl,rfl,⟨cg,ci,rfl,eA⟩⟩⟩,eB⟩:=WL.at al cf;refine JG.V 8 ht rfl rfl (fun ρ h s' hs=>Yl.Bg (al).2 cf underlying130 (Ag type133) (h _ _ rfl) (h _ _ rfl)) ?_;refine JG.V 9 ht rfl rfl (fun ρ h s' hs=>Yl.Bs (vs:= [iV aF.1,iV aF.2.1,.slice cg (aF.2.2).length ci]) (Al underlying133) (Ag type133) (h _ _ rfl) (fun q w U=>by rw [Bi rfl];exact Bl 0 aS rfl (by simp [AH]) hs (eB q w U))) ?_;refine Av.leaf (tail:= [10,11,12]) (by decide+kernel) (fun t=>A1 (by decide+kernel) (A1 (by decide+kernel) (A1 (by decide+kernel) BM)) t) ?_;obtain⟨ck,eC,cm⟩:=bs ez;refine JS.Gr (vs:= [.agg #[iV aa.1,iV aa.2.1,.slice aw (aa.2.2).length ay],.agg #[iV aF.1,iV aF.2.1,.slice cg (aF.2.2).length ci]]) (EG cd eA eC) rfl rfl rfl rfl (Aw func134 rfl) rfl aS ?_;rintro _ cn _ aG ⟨rfl,rfl⟩ a8;refine zg 1 rfl ?_;refine JL.Y (v:= .bool (decide (¬(ck<0)))) rfl (fun ρ h=>Yl.Gw (h _ _ rfl)) ?_;refine JL.done ?_;refine JL.ifs (p:=¬(ck<0)) rfl (fun bE=>?_) (fun bE=>?_)
          ·have eD:=ip cm bE;refine JL.exit rfl ?_;obtain rfl:=oi eD;obtain rfl:=cc _ a7;exact JL.kw (cb _ _ ⟨cn,f232,rfl,rfl,(bB.trans aG),a8,(al.mono aG)⟩) rfl
          ·have eE:=im cm bE;refine JL.skip ?_;refine JB.draw [15,17] [A] mixed rfl ?_;refine JB.mv 0 rfl rfl ?_;refine JB.mv 1 rfl rfl ?_;refine JB.mv 2 rfl rfl ?_;refine JB.mv 3 rfl rfl ?_;obtain⟨bF,eF,eG⟩:=bs eE;refine JB.V 4 true rfl rfl (fun ρ h s' hs=>Yl.Bb (h _ _ rfl) (h _ _ rfl) eF) ?_;refine JB.mv 5 rfl rfl ?_;refine JB.mv 6 rfl rfl ?_;obtain⟨fI,eH,eI⟩:=bs eG;refine JB.V 7 true rfl rfl (fun ρ h s' hs=>Yl.Bb (h _ _ rfl) (h _ _ rfl) eH) ?_;obtain⟨ah,co,eJ⟩:=bs eI;obtain⟨_,⟨_,_,rfl,rfl,⟨_,_,rfl,rfl,⟨aU,aV,rfl,eK⟩⟩⟩,eL⟩:=WL.at (al.mono aG) co;refine JB.V 8 true rfl rfl (fun ρ h s' hs=>Yl.Bg al.2 co underlying130 (Ag type133) (h _ _ rfl) (h _ _ rfl)) ?_;refine JB.val (v:= .agg #[iV ah.1,iV ah.2.1,.slice aU (ah.2.2).length aV]) 9 false rfl (by decide+kernel) rfl rfl rfl (fun ρ h s' hs=>have hs:=hs rfl;Yl.Bs (vs:= [iV ah.1,iV ah.2.1,.slice aU (ah.2.2).length aV]) (Al underlying133) (Ag type133) (h _ _ rfl) (fun q w U=>by rw [Bi rfl];exact Bl 0 a8 rfl (by simp [AH]) hs (eL q w U))) ?_;refine JB.mv 10 rfl rfl ?_;refine JB.mv 11 rfl rfl ?_;refine JB.V 12 true rfl rfl (fun ρ h s' hs=>Yl.Bg al.2 aT underlying130 (Ag type133) (h _ _ rfl) (h _ _ rfl)) ?_;refine JB.val (v:= .agg #[iV aa.1,iV aa.2.1,.slice aw (aa.2.2).length ay]) 13 false rfl (by decide+kernel) rfl rfl rfl (fun ρ h s' hs=>have hs:=hs rfl;Yl.Bs (vs:= [iV aa.1,iV aa.2.1,.slice aw (aa.2.2).length ay]) (Al underlying133) (Ag type133) (h _ _ rfl) (fun q w U=>by rw [Bi rfl];exact Bl 0 a8 rfl (by simp [AH]) hs (ce q w U))) ?_;refine JB.V 14 true rfl rfl (fun ρ h s' hs=>Yl.Bg al.2 aT underlying130 (Ag type133) (h _ _ rfl) (h _ _ rfl)) ?_;have aW:=WL.put (x':=ah) (ws':= [iV ah.1,iV ah.2.1,.slice aU (ah.2.2).length aV]) (al.mono aG) al.2 aT ⟨_,_,rfl,rfl,⟨_,_,rfl,rfl,⟨_,_,rfl,eK⟩⟩⟩;refine JB.store (v:= .agg #[iV ah.1,iV ah.2.1,.slice aU (ah.2.2).length aV]) (off:=Int.toNat (ap.1)*3) 15 0 (by decide+kernel) (by decide+kernel) rfl rfl rfl a8 rfl rfl (Ag type133) (by simp [Value.cells,BB]) rfl aW.2 fun eM=>?_;obtain⟨fJ,bG,eN⟩:=bs eJ;obtain⟨_,⟨_,_,rfl,rfl,⟨_,_,rfl,rfl,⟨fK,fL,rfl,fM⟩⟩⟩,fN⟩:=WL.at aW.1 bG;refine JB.V 16 true rfl rfl (fun ρ h s' hs=>Yl.Bg (aW.1).2 bG underlying130 (Ag type133) (h _ _ rfl) (h _ _ rfl)) ?_;have cp:=WL.put (x':=aa) (ws':= [iV aa.1,iV aa.2.1,.slice aw (aa.2.2).length ay]) aW.1 (aW.1).2 bG ⟨_,_,rfl,rfl,⟨_,_,rfl,rfl,⟨_,_,rfl,(cd.mono aG)⟩⟩⟩;refine JB.store (v:= .agg #[iV aa.1,iV aa.2.1,.slice aw (aa.2.2).length ay]) (off:=Int.toNat (bF)*3) 17 0 (by decide+kernel) (by decide+kernel) rfl rfl rfl eM rfl rfl (Ag type133) (by simp [Value.cells,BB]) rfl cp.2 fun eO=>?_;refine JB.fin (by decide+kernel) ?_;obtain⟨eP,eQ,eR⟩:=bs eN;refine zg 3 rfl ?_;refine JL.Y rfl (fun ρ h=>Yl.Bb (h _ _ rfl) (h _ _ rfl) eQ) ?_;refine zg 2 rfl ?_;obtain rfl:=oi eR;exact JL.kw (et _ _ (eP,((ap.2.set (Int.toNat ap.1) ah).set (Int.toNat bF) aa)) ⟨cn,(A5 (A5 f232 (Int.toNat (ap.1)*3) [iV ah.1,iV ah.2.1,.slice aU (ah.2.2).length aV]) (Int.toNat (bF)*3) [iV aa.1,iV aa.2.1,.slice aw (aa.2.2).length ay]),rfl,rfl,(bB.trans aG),eO,cp.1⟩ a7) rfl
         ·have eS:=im bC bD;refine JL.exit rfl ?_;obtain rfl:=oi eS;obtain rfl:=cc _ a7;exact JL.kw (cb _ _ ⟨a6,f232,rfl,rfl,bB,aS,al⟩) rfl
       ·have eT:=im bS bA;refine JL.skip ?_;obtain rfl:=oi eT;exact JL.kw (ca _ _ ⟨ar,(A5 (A5 f27 (Int.toNat (aj)*3) [iV ac.1,iV ac.2.1,.slice az (ac.2.2).length aA]) (Int.toNat (bn)*3) [iV ae.1,iV ae.2.1,.slice aB (ae.2.2).length aC]),rfl,rfl,(Le.refl _),bR,bp.1⟩) rfl
   ·intro eU;refine JL.block ?_;refine JL.wk [(0,.slice (some ⟨A,0,none⟩) O K),(1,iV p1),(2,iV p2),(3,(.func (.func 134) #[] #[])),(9,iV ab.1),(10,iV ab.2.1)] rfl ?_;refine JL.Bf cT (fun L s a9=>∃(ba:LH),Jm aq H ba [[(A,.cells f27 133 (0,0))]] [(0,.slice (some ⟨A,0,none⟩) O K),(1,iV p1),(2,iV p2),(3,(.func (.func 134) #[] #[])),(9,iV a9),(10,iV ab.2.1)] L s) ⟨aq,rfl,rfl,(Le.refl _),bN⟩ ?_;rintro _ _ a9 ⟨ba,rfl,rfl,aH,aX⟩ eV ⟨fO,bH⟩ eW;have cq:=bH;unfold Gg at cq;refine zg 2 rfl ?_;refine JG.Ce 18 [A] ⟨⟨0,_,rfl⟩,trivial⟩ aX mixed rfl (by decide+kernel) fun ht=>?_;refine JG.ms ht rfl [0,1,2,3] rfl ?_;obtain⟨cr,ct,cu⟩:=bs cq;refine Av.join 0 #[true,true,true,true,true,true,true,true,true,true,true,true,true,true,true,true,true,true] (fun L s=>∃(bb:LH),Jm ba H bb [[(A,.cells f27 133 (0,0))]] [(0,.slice (some ⟨A,0,none⟩) O K),(1,iV p1),(2,iV p2),(3,(.func (.func 134) #[] #[])),(9,iV a9),(10,iV ab.2.1),(36,.bool cr)] L s) ?_ ?_
    ·rintro _ _ ⟨bb,rfl,rfl,cv,cw⟩;refine Av.fin (by decide+kernel) ?_;refine JL.split (t:=cr) rfl (fun bI=>?_) (fun bI=>?_)
     ·have eX:=ip cu bI;obtain⟨eY,eZ,e0⟩:=bs eX;refine zg 4 rfl ?_;refine JL.Y rfl (fun ρ h=>Yl.A0 (h _ _ rfl) (h _ _ rfl) eZ) ?_;refine zg 3 rfl ?_;obtain rfl:=oi e0;exact JL.kw (eW _ _ eY ⟨bb,rfl,rfl,(aH.trans cv),cw⟩ bH) rfl
     ·have e1:=ib cu bI;refine JL.exit rfl ?_;obtain rfl:=oi e1;obtain rfl:=eV _ bH;exact JL.kw (eU _ _ ⟨bb,rfl,rfl,(aH.trans cv),cw⟩) rfl
    ·intro cy;refine Av.BW (q:=a9<p2) (i:=22) rfl (fun bJ=>?_) (fun bJ=>?_)
     ·have e2:=ip ct bJ;refine JG.ms ht rfl [4,5,6] rfl ?_;obtain⟨aI,cz,e3⟩:=bs e2;obtain⟨_,⟨_,_,rfl,rfl,⟨_,_,rfl,rfl,⟨cA,cB,rfl,e4⟩⟩⟩,e5⟩:=WL.at (ai.mono aH) cz;refine JG.V 7 ht rfl rfl (fun ρ h s' hs=>Yl.Bg ((ai.mono aH)).2 cz underlying130 (Ag type133) (h _ _ rfl) (h _ _ rfl)) ?_;refine JG.V 8 ht rfl rfl (fun ρ h s' hs=>Yl.Bs (vs:= [iV aI.1,iV aI.2.1,.slice cA (aI.2.2).length cB]) (Al underlying133) (Ag type133) (h _ _ rfl) (fun q w U=>by rw [Bi rfl];exact Bl 0 aX rfl (by simp [AH]) hs (e5 q w U))) ?_;refine JG.ms ht rfl [9,10] rfl ?_;obtain⟨fP,e6,e7⟩:=bs e3;refine JG.V 11 ht rfl rfl (fun ρ h s' hs=>Yl.Bb (h _ _ rfl) (h _ _ rfl) e6) ?_;obtain⟨aJ,cC,e8⟩:=bs e7;obtain⟨_,⟨_,_,rfl,rfl,⟨_,_,rfl,rfl,⟨cD,cE,rfl,e9⟩⟩⟩,fa⟩:=WL.at (ai.mono aH) cC;refine JG.V 12 ht rfl rfl (fun ρ h s' hs=>Yl.Bg ((ai.mono aH)).2 cC underlying130 (Ag type133) (h _ _ rfl) (h _ _ rfl)) ?_;refine JG.V 13 ht rfl rfl (fun ρ h s' hs=>Yl.Bs (vs:= [iV aJ.1,iV aJ.2.1,.slice cD (aJ.2.2).length cE]) (Al underlying133) (Ag type133) (h _ _ rfl) (fun q w U=>by rw [Bi rfl];exact Bl 0 aX rfl (by simp [AH]) hs (fa q w U))) ?_;obtain⟨fb,fc,fe⟩:=bs e8;refine JG.FC (i:=14) ⟨⟨0,_,rfl⟩,trivial⟩ (vs:= [.agg #[iV aI.1,iV aI.2.1,.slice cA (aI.2.2).length cB],.agg #[iV aJ.1,iV aJ.2.1,.slice cD (aJ.2.2).length cE]]) (EG e4 e9 fc) (by decide+kernel) rfl rfl rfl rfl (Aw func134 rfl) rfl aX ?_;rintro _ ff _ fg ⟨rfl,rfl⟩ fh;refine JG.mv 15 ht rfl rfl ?_;refine JG.V (v:= .bool (decide (¬(fb<0)))) 16 ht rfl rfl (fun ρ h s' hs=>Yl.Gw (h _ _ rfl)) ?_;refine JG.mv 17 ht rfl rfl ?_;obtain rfl:=oi fe;refine Av.BU ?_ (cy _ _ ⟨ff,rfl,rfl,fg,fh⟩);exact⟨rfl,rfl,rfl,rfl,rfl,rfl,rfl,trivial⟩
     ·have fj:=im ct bJ;refine JG.ms ht rfl [4,5,6,7,8,9,10,11,12,13,14,15,16,17] rfl ?_;obtain rfl:=oi fj;refine Av.BU ?_ (cy _ _ ⟨ba,rfl,rfl,(Le.refl _),aX⟩);exact⟨rfl,rfl,rfl,rfl,rfl,rfl,rfl,trivial⟩
  ·have fk:=im bj bk;refine JL.exit rfl ?_;obtain rfl:=oi fk;have fm:bM=(Sum.inr ab.2.2):=(bi _ aK).symm;exact JL.kw (cP _ _ ⟨ab.2.2,aq,f27,fm,rfl,rfl,aY,bN,ai⟩) rfl
def Hs(fuel:Nat)(p0:List (A3))(p1:Int)(p3:Int)(K:A3)(O:A3)(U:Int)(A:Int):Option (A4 (Int) (Int)):=
 Option.bind (
  if A≤U then(
   (ix ((p0.set (Int.toNat p1) K).set (Int.toNat p3) O) (A)).bind fun Z=>
   (ix ((p0.set (Int.toNat p1) K).set (Int.toNat p3) O) (p1)).bind fun aa=>
   (f134 fuel Z aa).bind fun ab=>
   some (decide (ab<0))
  ) else(
   some false
  )
 ) fun ac=>
 if ac=true then(
  (Ax (A+1)).bind fun ae=>
  some (.more ae)
 ) else(
  some (.done A)
 )
def Ht(fuel:Nat)(p0:List (A3))(p1:Int)(p3:Int)(K:A3)(O:A3)(U:Int)(A:Int):Option (A4 (Int) (Int)):=
 Option.bind (
  if U≤A then(
   (ix ((p0.set (Int.toNat p1) K).set (Int.toNat p3) O) (A)).bind fun Z=>
   (ix ((p0.set (Int.toNat p1) K).set (Int.toNat p3) O) (p1)).bind fun aa=>
   (f134 fuel Z aa).bind fun ab=>
   some (decide (¬(ab<0)))
  ) else(
   some false
  )
 ) fun ac=>
 if ac=true then(
  (Ax (A - 1)).bind fun ae=>
  some (.more ae)
 ) else(
  some (.done A)
 )
def GM(fuel:Nat)(p1:Int)(K:Int×Int×(List (A3)))(A:Int):Option (A4 (Int) (Int)):=
 Option.bind (
  if A≤K.2.1 then(
   (ix K.2.2 (A)).bind fun O=>
   (ix K.2.2 (p1)).bind fun U=>
   (f134 fuel O U).bind fun Z=>
   some (decide (Z<0))
  ) else(
   some false
  )
 ) fun aa=>
 if aa=true then(
  (Ax (A+1)).bind fun ab=>
  some (.more ab)
 ) else(
  some (.done A)
 )
def GN(fuel:Nat)(p1:Int)(K:Int×Int×(List (A3)))(O:Int)(A:Int):Option (A4 (Int) (Int)):=
 Option.bind (
  if O≤A then(
   (ix K.2.2 (A)).bind fun U=>
   (ix K.2.2 (p1)).bind fun Z=>
   (f134 fuel U Z).bind fun aa=>
   some (decide (¬(aa<0)))
  ) else(
   some false
  )
 ) fun ab=>
 if ab=true then(
  (Ax (A - 1)).bind fun ac=>
  some (.more ac)
 ) else(
  some (.done A)
 )
def Gi(fuel:Nat)(p1:Int)(A:Int×Int×(List (A3))):Option (A4 (Int×Int×(List (A3))) (Int×(List (A3)))):=
 Option.bind (iter (GM fuel p1 A) fuel A.1) fun K=>
 Option.bind (iter (GN fuel p1 A K) fuel A.2.1) fun O=>
 if O<K then(
  some (.done (O,A.2.2))
 ) else(
  (ix A.2.2 (O)).bind fun U=>
  (ix A.2.2 (K)).bind fun Z=>
  (Ax (K+1)).bind fun aa=>
  (Ax (O - 1)).bind fun ab=>
  some (.more (aa,ab,((A.2.2.set (Int.toNat K) U).set (Int.toNat O) Z)))
 )
def f185(fuel:Nat)(p0:List (A3))(p1:Int)(p2:Int)(p3:Int):Option (Int×Bool×(List (A3))):=
 (ix p0 (p3)).bind fun A=>
 (ix p0 (p1)).bind fun K=>
 (Ax (p1+1)).bind fun ab=>
 (Ax (p2 - 1)).bind fun aa=>
 Option.bind (iter (Hs fuel p0 p1 p3 A K aa) fuel ab) fun Z=>
 Option.bind (iter (Ht fuel p0 p1 p3 A K Z) fuel aa) fun O=>
 if O<Z then(
  (ix ((p0.set (Int.toNat p1) A).set (Int.toNat p3) K) (p1)).bind fun ac=>
  (ix ((p0.set (Int.toNat p1) A).set (Int.toNat p3) K) (O)).bind fun ae=>
  some (O,true,((((p0.set (Int.toNat p1) A).set (Int.toNat p3) K).set (Int.toNat O) ac).set (Int.toNat p1) ae))
 ) else(
  (ix ((p0.set (Int.toNat p1) A).set (Int.toNat p3) K) (O)).bind fun ag=>
  (ix ((p0.set (Int.toNat p1) A).set (Int.toNat p3) K) (Z)).bind fun ah=>
  (Ax (Z+1)).bind fun ai=>
  (Ax (O - 1)).bind fun aj=>
  Option.bind (iter (Gi fuel p1) fuel (ai,aj,((((p0.set (Int.toNat p1) A).set (Int.toNat p3) K).set (Int.toNat Z) ag).set (Int.toNat O) ah))) fun U=>
  (ix U.2 (p1)).bind fun ak=>
  (ix U.2 (U.1)).bind fun al=>
  some (U.1,false,((U.2.set (Int.toNat U.1) ak).set (Int.toNat p1) al))
 )
theorem NW{A:Nat}{aa:Nat}{ab:Nat}{au:Array Value}{p0:List (A3)}{p1:Int}{p2:Int}{p3:Int}(hW:WL 133 BH E A aa ab au p0){fuel:Nat}{r:Int×Bool×(List (A3))}(b1:f185 fuel p0 p1 p2 p3=some r):Aq J 185 [.slice (some ⟨A,0,none⟩) ab aa,iV p1,iV p2,iV p3,(.func (.func 134) #[] #[])] E [(A,.cells au 133 (0,0))] (fun w E' B'=>∃(b2:Array Value),w= .tuple #[iV r.1,.bool r.2.1]∧B'= [(A,.cells b2 133 (0,0))]∧WL 133 BH E' A aa ab b2 (r.2.2)):=by
 refine Aq.en func185 rfl rfl fun Q gn cs H bI b3=>?_;unfold f185 at b1;refine zg 6 rfl ?_;refine JB.draw [13,15] [A] mixed rfl ?_;refine JB.mv 0 rfl rfl ?_;refine JB.mv 1 rfl rfl ?_;refine JB.mv 2 rfl rfl ?_;refine JB.mv 3 rfl rfl ?_;refine JB.mv 4 rfl rfl ?_;refine JB.mv 5 rfl rfl ?_;obtain⟨K,bi,dg⟩:=bs b1;obtain⟨_,⟨_,_,rfl,rfl,⟨_,_,rfl,rfl,⟨an,c4,rfl,dh⟩⟩⟩,di⟩:=WL.at hW bi;refine JB.V 6 true rfl rfl (fun ρ h s' hs=>Yl.Bg hW.2 bi underlying130 (Ag type133) (h _ _ rfl) (h _ _ rfl)) ?_;refine JB.val (v:= .agg #[iV K.1,iV K.2.1,.slice an (K.2.2).length c4]) 7 false rfl (by decide+kernel) rfl rfl rfl (fun ρ h s' hs=>have hs:=hs rfl;Yl.Bs (vs:= [iV K.1,iV K.2.1,.slice an (K.2.2).length c4]) (Al underlying133) (Ag type133) (h _ _ rfl) (fun q w U=>by rw [Bi rfl];exact Bl 0 bI rfl (by simp [AH]) hs (di q w U))) ?_;refine JB.mv 8 rfl rfl ?_;refine JB.mv 9 rfl rfl ?_;obtain⟨O,aS,dj⟩:=bs dg;obtain⟨_,⟨_,_,rfl,rfl,⟨_,_,rfl,rfl,⟨ao,ap,rfl,dk⟩⟩⟩,dl⟩:=WL.at hW aS;refine JB.V 10 true rfl rfl (fun ρ h s' hs=>Yl.Bg hW.2 aS underlying130 (Ag type133) (h _ _ rfl) (h _ _ rfl)) ?_;refine JB.val (v:= .agg #[iV O.1,iV O.2.1,.slice ao (O.2.2).length ap]) 11 false rfl (by decide+kernel) rfl rfl rfl (fun ρ h s' hs=>have hs:=hs rfl;Yl.Bs (vs:= [iV O.1,iV O.2.1,.slice ao (O.2.2).length ap]) (Al underlying133) (Ag type133) (h _ _ rfl) (fun q w U=>by rw [Bi rfl];exact Bl 0 bI rfl (by simp [AH]) hs (dl q w U))) ?_;refine JB.V 12 true rfl rfl (fun ρ h s' hs=>Yl.Bg hW.2 aS underlying130 (Ag type133) (h _ _ rfl) (h _ _ rfl)) ?_;have b4:=WL.put (x':=K) (ws':= [iV K.1,iV K.2.1,.slice an (K.2.2).length c4]) hW hW.2 aS ⟨_,_,rfl,rfl,⟨_,_,rfl,rfl,⟨_,_,rfl,dh⟩⟩⟩;refine JB.store (v:= .agg #[iV K.1,iV K.2.1,.slice an (K.2.2).length c4]) (off:=Int.toNat (p1)*3) 13 0 (by decide+kernel) (by decide+kernel) rfl rfl rfl bI rfl rfl (Ag type133) (by simp [Value.cells,BB]) rfl b4.2 fun dm=>?_;refine JB.V 14 true rfl rfl (fun ρ h s' hs=>Yl.Bg hW.2 bi underlying130 (Ag type133) (h _ _ rfl) (h _ _ rfl)) ?_;have Z:=WL.put (x':=O) (ws':= [iV O.1,iV O.2.1,.slice ao (O.2.2).length ap]) b4.1 hW.2 bi ⟨_,_,rfl,rfl,⟨_,_,rfl,rfl,⟨_,_,rfl,dk⟩⟩⟩;refine JB.store (v:= .agg #[iV O.1,iV O.2.1,.slice ao (O.2.2).length ap]) (off:=Int.toNat (p3)*3) 15 0 (by decide+kernel) (by decide+kernel) rfl rfl rfl dm rfl rfl (Ag type133) (by simp [Value.cells,BB]) rfl Z.2 fun dn=>?_;refine JB.fin (by decide+kernel) ?_;obtain⟨dp,dq,dr⟩:=bs dj;refine zg 3 rfl ?_;refine JL.Y rfl (fun ρ h=>Yl.A0 (h _ _ rfl) (h _ _ rfl) dq) ?_;obtain⟨aB,dt,du⟩:=bs dr;refine zg 1 rfl ?_;refine JL.Y rfl (fun ρ h=>Yl.Bb (h _ _ rfl) (h _ _ rfl) dt) ?_;obtain⟨ay,dv,dw⟩:=bs du;refine zg 4 rfl ?_;refine JL.join (fun L s=>∃(aT:LH),Jm E H aT [[(A,.cells (A5 (A5 au (Int.toNat (p1)*3) [iV K.1,iV K.2.1,.slice an (K.2.2).length c4]) (Int.toNat (p3)*3) [iV O.1,iV O.2.1,.slice ao (O.2.2).length ap]) 133 (0,0))]] [(0,.slice (some ⟨A,0,none⟩) ab aa),(1,iV p1),(4,(.func (.func 134) #[] #[])),(12,iV ay),(13,iV aB)] L s) ?_ ?_
 ·rintro _ _ ⟨aT,rfl,rfl,aq,dx⟩;obtain⟨aC,dy,b5⟩:=bs dw;refine JL.seq ?_;refine JL.join (fun L s=>∃(aU:LH),Jm aT H aU [[(A,.cells (A5 (A5 au (Int.toNat (p1)*3) [iV K.1,iV K.2.1,.slice an (K.2.2).length c4]) (Int.toNat (p3)*3) [iV O.1,iV O.2.1,.slice ao (O.2.2).length ap]) 133 (0,0))]] [(0,.slice (some ⟨A,0,none⟩) ab aa),(1,iV p1),(4,(.func (.func 134) #[] #[])),(12,iV ay),(13,iV aC)] L s) ?_ ?_
  ·rintro _ _ ⟨aU,rfl,rfl,aA,aD⟩;refine zg 7 rfl ?_;refine JL.ifs (p:=aC<ay) rfl (fun bJ=>?_) (fun bJ=>?_)
   ·have dz:=ip b5 bJ;refine JL.seq ?_;refine JB.draw [13,15] [A] mixed rfl ?_;refine JB.mv 0 rfl rfl ?_;refine JB.mv 1 rfl rfl ?_;refine JB.mv 2 rfl rfl ?_;refine JB.mv 3 rfl rfl ?_;refine JB.mv 4 rfl rfl ?_;refine JB.mv 5 rfl rfl ?_;refine JB.V 6 true rfl rfl (fun ρ h s' hs=>Yl.Bg hW.2 aS underlying130 (Ag type133) (h _ _ rfl) (h _ _ rfl)) ?_;obtain⟨ah,bK,dA⟩:=bs dz;obtain⟨_,⟨_,_,rfl,rfl,⟨_,_,rfl,rfl,⟨aV,aW,rfl,dB⟩⟩⟩,dC⟩:=WL.at (Z.1.mono (aq.trans aA)) bK;refine JB.val (v:= .agg #[iV ah.1,iV ah.2.1,.slice aV (ah.2.2).length aW]) 7 false rfl (by decide+kernel) rfl rfl rfl (fun ρ h s' hs=>have hs:=hs rfl;Yl.Bs (vs:= [iV ah.1,iV ah.2.1,.slice aV (ah.2.2).length aW]) (Al underlying133) (Ag type133) (h _ _ rfl) (fun q w U=>by rw [Bi rfl];exact Bl 0 aD rfl (by simp [AH]) hs (dC q w U))) ?_;refine JB.mv 8 rfl rfl ?_;refine JB.mv 9 rfl rfl ?_;obtain⟨ai,bj,dD⟩:=bs dA;obtain⟨_,⟨_,_,rfl,rfl,⟨_,_,rfl,rfl,⟨aX,aY,rfl,dE⟩⟩⟩,dF⟩:=WL.at (Z.1.mono (aq.trans aA)) bj;refine JB.V 10 true rfl rfl (fun ρ h s' hs=>Yl.Bg (Z.1).2 bj underlying130 (Ag type133) (h _ _ rfl) (h _ _ rfl)) ?_;refine JB.val (v:= .agg #[iV ai.1,iV ai.2.1,.slice aX (ai.2.2).length aY]) 11 false rfl (by decide+kernel) rfl rfl rfl (fun ρ h s' hs=>have hs:=hs rfl;Yl.Bs (vs:= [iV ai.1,iV ai.2.1,.slice aX (ai.2.2).length aY]) (Al underlying133) (Ag type133) (h _ _ rfl) (fun q w U=>by rw [Bi rfl];exact Bl 0 aD rfl (by simp [AH]) hs (dF q w U))) ?_;refine JB.V 12 true rfl rfl (fun ρ h s' hs=>Yl.Bg (Z.1).2 bj underlying130 (Ag type133) (h _ _ rfl) (h _ _ rfl)) ?_;have b6:=WL.put (x':=ah) (ws':= [iV ah.1,iV ah.2.1,.slice aV (ah.2.2).length aW]) (Z.1.mono (aq.trans aA)) (Z.1).2 bj ⟨_,_,rfl,rfl,⟨_,_,rfl,rfl,⟨_,_,rfl,dB⟩⟩⟩;refine JB.store (v:= .agg #[iV ah.1,iV ah.2.1,.slice aV (ah.2.2).length aW]) (off:=Int.toNat (aC)*3) 13 0 (by decide+kernel) (by decide+kernel) rfl rfl rfl aD rfl rfl (Ag type133) (by simp [Value.cells,BB]) rfl b6.2 fun dG=>?_;refine JB.V 14 true rfl rfl (fun ρ h s' hs=>Yl.Bg (Z.1).2 bK underlying130 (Ag type133) (h _ _ rfl) (h _ _ rfl)) ?_;have b7:=WL.put (x':=ai) (ws':= [iV ai.1,iV ai.2.1,.slice aX (ai.2.2).length aY]) b6.1 (Z.1).2 bK ⟨_,_,rfl,rfl,⟨_,_,rfl,rfl,⟨_,_,rfl,dE⟩⟩⟩;refine JB.store (v:= .agg #[iV ai.1,iV ai.2.1,.slice aX (ai.2.2).length aY]) (off:=Int.toNat (p1)*3) 15 0 (by decide+kernel) (by decide+kernel) rfl rfl rfl dG rfl rfl (Ag type133) (by simp [Value.cells,BB]) rfl b7.2 fun dH=>?_;refine JB.fin (by decide+kernel) ?_;refine zg 6 rfl ?_;obtain rfl:=oi dD;refine JL.rt func185 rfl rfl ?_;exact b3 _ _ _ _ (aq.trans aA) rfl ⟨(A5 (A5 (A5 (A5 au (Int.toNat (p1)*3) [iV K.1,iV K.2.1,.slice an (K.2.2).length c4]) (Int.toNat (p3)*3) [iV O.1,iV O.2.1,.slice ao (O.2.2).length ap]) (Int.toNat (aC)*3) [iV ah.1,iV ah.2.1,.slice aV (ah.2.2).length aW]) (Int.toNat (p1)*3) [iV ai.1,iV ai.2.1,.slice aX (ai.2.2).length aY]),rfl,(by first | rfl | simp | (simp [Value.cells])),b7.1⟩ dH
   ·have dI:=im b5 bJ;refine zg 2 rfl ?_;refine JB.draw [13,15] [A] mixed rfl ?_;refine JB.mv 0 rfl rfl ?_;refine JB.mv 1 rfl rfl ?_;refine JB.mv 2 rfl rfl ?_;refine JB.mv 3 rfl rfl ?_;refine JB.mv 4 rfl rfl ?_;refine JB.mv 5 rfl rfl ?_;obtain⟨aj,bk,dJ⟩:=bs dI;obtain⟨_,⟨_,_,rfl,rfl,⟨_,_,rfl,rfl,⟨aZ,a0,rfl,dK⟩⟩⟩,dL⟩:=WL.at (Z.1.mono (aq.trans aA)) bk;refine JB.V 6 true rfl rfl (fun ρ h s' hs=>Yl.Bg (Z.1).2 bk underlying130 (Ag type133) (h _ _ rfl) (h _ _ rfl)) ?_;refine JB.val (v:= .agg #[iV aj.1,iV aj.2.1,.slice aZ (aj.2.2).length a0]) 7 false rfl (by decide+kernel) rfl rfl rfl (fun ρ h s' hs=>have hs:=hs rfl;Yl.Bs (vs:= [iV aj.1,iV aj.2.1,.slice aZ (aj.2.2).length a0]) (Al underlying133) (Ag type133) (h _ _ rfl) (fun q w U=>by rw [Bi rfl];exact Bl 0 aD rfl (by simp [AH]) hs (dL q w U))) ?_;refine JB.mv 8 rfl rfl ?_;refine JB.mv 9 rfl rfl ?_;obtain⟨ak,bl,dM⟩:=bs dJ;obtain⟨_,⟨_,_,rfl,rfl,⟨_,_,rfl,rfl,⟨a1,a2,rfl,dN⟩⟩⟩,dO⟩:=WL.at (Z.1.mono (aq.trans aA)) bl;refine JB.V 10 true rfl rfl (fun ρ h s' hs=>Yl.Bg (Z.1).2 bl underlying130 (Ag type133) (h _ _ rfl) (h _ _ rfl)) ?_;refine JB.val (v:= .agg #[iV ak.1,iV ak.2.1,.slice a1 (ak.2.2).length a2]) 11 false rfl (by decide+kernel) rfl rfl rfl (fun ρ h s' hs=>have hs:=hs rfl;Yl.Bs (vs:= [iV ak.1,iV ak.2.1,.slice a1 (ak.2.2).length a2]) (Al underlying133) (Ag type133) (h _ _ rfl) (fun q w U=>by rw [Bi rfl];exact Bl 0 aD rfl (by simp [AH]) hs (dO q w U))) ?_;refine JB.V 12 true rfl rfl (fun ρ h s' hs=>Yl.Bg (Z.1).2 bl underlying130 (Ag type133) (h _ _ rfl) (h _ _ rfl)) ?_;have b8:=WL.put (x':=aj) (ws':= [iV aj.1,iV aj.2.1,.slice aZ (aj.2.2).length a0]) (Z.1.mono (aq.trans aA)) (Z.1).2 bl ⟨_,_,rfl,rfl,⟨_,_,rfl,rfl,⟨_,_,rfl,dK⟩⟩⟩;refine JB.store (v:= .agg #[iV aj.1,iV aj.2.1,.slice aZ (aj.2.2).length a0]) (off:=Int.toNat (ay)*3) 13 0 (by decide+kernel) (by decide+kernel) rfl rfl rfl aD rfl rfl (Ag type133) (by simp [Value.cells,BB]) rfl b8.2 fun dP=>?_;refine JB.V 14 true rfl rfl (fun ρ h s' hs=>Yl.Bg (Z.1).2 bk underlying130 (Ag type133) (h _ _ rfl) (h _ _ rfl)) ?_;have b9:=WL.put (x':=ak) (ws':= [iV ak.1,iV ak.2.1,.slice a1 (ak.2.2).length a2]) b8.1 (Z.1).2 bk ⟨_,_,rfl,rfl,⟨_,_,rfl,rfl,⟨_,_,rfl,dN⟩⟩⟩;refine JB.store (v:= .agg #[iV ak.1,iV ak.2.1,.slice a1 (ak.2.2).length a2]) (off:=Int.toNat (aC)*3) 15 0 (by decide+kernel) (by decide+kernel) rfl rfl rfl dP rfl rfl (Ag type133) (by simp [Value.cells,BB]) rfl b9.2 fun dQ=>?_;refine JB.fin (by decide+kernel) ?_;obtain⟨dR,dS,dT⟩:=bs dM;refine zg 3 rfl ?_;refine JL.Y rfl (fun ρ h=>Yl.A0 (h _ _ rfl) (h _ _ rfl) dS) ?_;obtain⟨dU,dV,dW⟩:=bs dT;refine zg 5 rfl ?_;refine JL.Y rfl (fun ρ h=>Yl.Bb (h _ _ rfl) (h _ _ rfl) dV) ?_;obtain⟨bm,dX,dY⟩:=bs dW;refine zg 3 rfl ?_;refine JL.join (fun L s=>∃(bL:LH) (f102:Array Value),Jn aU H bL [[(A,.cells f102 133 (0,0))]] [(0,.slice (some ⟨A,0,none⟩) ab aa),(1,iV p1),(13,iV bm.1)] L s (WL 133 BH bL A aa ab f102 (bm.2))) ?_ ?_
    ·rintro _ _ ⟨bL,f102,rfl,rfl,dZ,bM,az⟩;refine JL.seq ?_;refine JB.draw [13,15] [A] mixed rfl ?_;refine JB.mv 0 rfl rfl ?_;refine JB.mv 1 rfl rfl ?_;refine JB.mv 2 rfl rfl ?_;refine JB.mv 3 rfl rfl ?_;refine JB.mv 4 rfl rfl ?_;refine JB.mv 5 rfl rfl ?_;obtain⟨al,bn,ea⟩:=bs dY;obtain⟨_,⟨_,_,rfl,rfl,⟨_,_,rfl,rfl,⟨a3,a4,rfl,eb⟩⟩⟩,ec⟩:=WL.at az bn;refine JB.V 6 true rfl rfl (fun ρ h s' hs=>Yl.Bg az.2 bn underlying130 (Ag type133) (h _ _ rfl) (h _ _ rfl)) ?_;refine JB.val (v:= .agg #[iV al.1,iV al.2.1,.slice a3 (al.2.2).length a4]) 7 false rfl (by decide+kernel) rfl rfl rfl (fun ρ h s' hs=>have hs:=hs rfl;Yl.Bs (vs:= [iV al.1,iV al.2.1,.slice a3 (al.2.2).length a4]) (Al underlying133) (Ag type133) (h _ _ rfl) (fun q w U=>by rw [Bi rfl];exact Bl 0 bM rfl (by simp [AH]) hs (ec q w U))) ?_;refine JB.mv 8 rfl rfl ?_;refine JB.mv 9 rfl rfl ?_;obtain⟨am,bo,ed⟩:=bs ea;obtain⟨_,⟨_,_,rfl,rfl,⟨_,_,rfl,rfl,⟨a5,a6,rfl,ee⟩⟩⟩,ef⟩:=WL.at az bo;refine JB.V 10 true rfl rfl (fun ρ h s' hs=>Yl.Bg az.2 bo underlying130 (Ag type133) (h _ _ rfl) (h _ _ rfl)) ?_;refine JB.val (v:= .agg #[iV am.1,iV am.2.1,.slice a5 (am.2.2).length a6]) 11 false rfl (by decide+kernel) rfl rfl rfl (fun ρ h s' hs=>have hs:=hs rfl;Yl.Bs (vs:= [iV am.1,iV am.2.1,.slice a5 (am.2.2).length a6]) (Al underlying133) (Ag type133) (h _ _ rfl) (fun q w U=>by rw [Bi rfl];exact Bl 0 bM rfl (by simp [AH]) hs (ef q w U))) ?_;refine JB.V 12 true rfl rfl (fun ρ h s' hs=>Yl.Bg az.2 bo underlying130 (Ag type133) (h _ _ rfl) (h _ _ rfl)) ?_;have ca:=WL.put (x':=al) (ws':= [iV al.1,iV al.2.1,.slice a3 (al.2.2).length a4]) az az.2 bo ⟨_,_,rfl,rfl,⟨_,_,rfl,rfl,⟨_,_,rfl,eb⟩⟩⟩;refine JB.store (v:= .agg #[iV al.1,iV al.2.1,.slice a3 (al.2.2).length a4]) (off:=Int.toNat (bm.1)*3) 13 0 (by decide+kernel) (by decide+kernel) rfl rfl rfl bM rfl rfl (Ag type133) (by simp [Value.cells,BB]) rfl ca.2 fun eg=>?_;refine JB.V 14 true rfl rfl (fun ρ h s' hs=>Yl.Bg az.2 bn underlying130 (Ag type133) (h _ _ rfl) (h _ _ rfl)) ?_;have cb:=WL.put (x':=am) (ws':= [iV am.1,iV am.2.1,.slice a5 (am.2.2).length a6]) ca.1 az.2 bn ⟨_,_,rfl,rfl,⟨_,_,rfl,rfl,⟨_,_,rfl,ee⟩⟩⟩;refine JB.store (v:= .agg #[iV am.1,iV am.2.1,.slice a5 (am.2.2).length a6]) (off:=Int.toNat (p1)*3) 15 0 (by decide+kernel) (by decide+kernel) rfl rfl rfl eg rfl rfl (Ag type133) (by simp [Value.cells,BB]) rfl cb.2 fun eh=>?_;refine JB.fin (by decide+kernel) ?_;refine zg 6 rfl ?_;obtain rfl:=oi ed;refine JL.rt func185 rfl rfl ?_;exact b3 _ _ _ _ ((aq.trans aA).trans dZ) rfl ⟨(A5 (A5 f102 (Int.toNat (bm.1)*3) [iV al.1,iV al.2.1,.slice a3 (al.2.2).length a4]) (Int.toNat (p1)*3) [iV am.1,iV am.2.1,.slice a5 (am.2.2).length a6]),rfl,(by first | rfl | simp | (simp [Value.cells])),cb.1⟩ eh
    ·intro ei;refine JL.block ?_;refine JL.wk [(0,.slice (some ⟨A,0,none⟩) ab aa),(1,iV p1),(4,(.func (.func 134) #[] #[])),(12,iV dR),(13,iV dU)] rfl ?_;refine JL.Bf dX (fun L s ar=>∃(aE:LH) (f127:Array Value),Jn aU H aE [[(A,.cells f127 133 (0,0))]] [(0,.slice (some ⟨A,0,none⟩) ab aa),(1,iV p1),(4,(.func (.func 134) #[] #[])),(12,iV ar.1),(13,iV ar.2.1)] L s (WL 133 BH aE A aa ab f127 (ar.2.2))) ⟨aU,(A5 (A5 (A5 (A5 au (Int.toNat (p1)*3) [iV K.1,iV K.2.1,.slice an (K.2.2).length c4]) (Int.toNat (p3)*3) [iV O.1,iV O.2.1,.slice ao (O.2.2).length ap]) (Int.toNat (ay)*3) [iV aj.1,iV aj.2.1,.slice aZ (aj.2.2).length a0]) (Int.toNat (aC)*3) [iV ak.1,iV ak.2.1,.slice a1 (ak.2.2).length a2]),rfl,rfl,(Le.refl _),dQ,b9.1⟩ ?_;rintro _ _ ar ⟨aE,f127,rfl,rfl,cc,ej,ac⟩ ek ⟨gp,bN⟩ el;have cd:=bN;unfold Gi at cd;obtain⟨av,em,eo⟩:=bs cd;refine zg 2 rfl ?_;refine JL.join (fun L s=>∃(a7:LH),Jm aE H a7 [[(A,.cells f127 133 (0,0))]] [(0,.slice (some ⟨A,0,none⟩) ab aa),(1,iV p1),(4,(.func (.func 134) #[] #[])),(12,iV av),(13,iV ar.2.1)] L s) ?_ ?_
     ·rintro _ _ ⟨a7,rfl,rfl,aw,ep⟩;obtain⟨a8,eq,ce⟩:=bs eo;refine JL.seq ?_;refine JL.join (fun L s=>∃(bp:LH),Jm a7 H bp [[(A,.cells f127 133 (0,0))]] [(0,.slice (some ⟨A,0,none⟩) ab aa),(1,iV p1),(4,(.func (.func 134) #[] #[])),(12,iV av),(13,iV a8)] L s) ?_ ?_
      ·rintro _ _ ⟨bp,rfl,rfl,aF,bq⟩;refine zg 7 rfl ?_;refine JL.ifs (p:=a8<av) rfl (fun bO=>?_) (fun bO=>?_)
       ·have er:=ip ce bO;refine JL.exit rfl ?_;obtain rfl:=oi er;obtain rfl:=ek _ bN;exact JL.kw (ei _ _ ⟨bp,f127,rfl,rfl,((cc.trans aw).trans aF),bq,(ac.mono (aw.trans aF))⟩) rfl
       ·have et:=im ce bO;refine zg 2 rfl ?_;refine JB.draw [13,15] [A] mixed rfl ?_;refine JB.mv 0 rfl rfl ?_;refine JB.mv 1 rfl rfl ?_;refine JB.mv 2 rfl rfl ?_;refine JB.mv 3 rfl rfl ?_;refine JB.mv 4 rfl rfl ?_;refine JB.mv 5 rfl rfl ?_;obtain⟨ae,br,eu⟩:=bs et;obtain⟨_,⟨_,_,rfl,rfl,⟨_,_,rfl,rfl,⟨a9,ba,rfl,ew⟩⟩⟩,ex⟩:=WL.at (ac.mono (aw.trans aF)) br;refine JB.V 6 true rfl rfl (fun ρ h s' hs=>Yl.Bg ac.2 br underlying130 (Ag type133) (h _ _ rfl) (h _ _ rfl)) ?_;refine JB.val (v:= .agg #[iV ae.1,iV ae.2.1,.slice a9 (ae.2.2).length ba]) 7 false rfl (by decide+kernel) rfl rfl rfl (fun ρ h s' hs=>have hs:=hs rfl;Yl.Bs (vs:= [iV ae.1,iV ae.2.1,.slice a9 (ae.2.2).length ba]) (Al underlying133) (Ag type133) (h _ _ rfl) (fun q w U=>by rw [Bi rfl];exact Bl 0 bq rfl (by simp [AH]) hs (ex q w U))) ?_;refine JB.mv 8 rfl rfl ?_;refine JB.mv 9 rfl rfl ?_;obtain⟨ag,bu,ey⟩:=bs eu;obtain⟨_,⟨_,_,rfl,rfl,⟨_,_,rfl,rfl,⟨bb,bc,rfl,ez⟩⟩⟩,eA⟩:=WL.at (ac.mono (aw.trans aF)) bu;refine JB.V 10 true rfl rfl (fun ρ h s' hs=>Yl.Bg ac.2 bu underlying130 (Ag type133) (h _ _ rfl) (h _ _ rfl)) ?_;refine JB.val (v:= .agg #[iV ag.1,iV ag.2.1,.slice bb (ag.2.2).length bc]) 11 false rfl (by decide+kernel) rfl rfl rfl (fun ρ h s' hs=>have hs:=hs rfl;Yl.Bs (vs:= [iV ag.1,iV ag.2.1,.slice bb (ag.2.2).length bc]) (Al underlying133) (Ag type133) (h _ _ rfl) (fun q w U=>by rw [Bi rfl];exact Bl 0 bq rfl (by simp [AH]) hs (eA q w U))) ?_;refine JB.V 12 true rfl rfl (fun ρ h s' hs=>Yl.Bg ac.2 bu underlying130 (Ag type133) (h _ _ rfl) (h _ _ rfl)) ?_;have cf:=WL.put (x':=ae) (ws':= [iV ae.1,iV ae.2.1,.slice a9 (ae.2.2).length ba]) (ac.mono (aw.trans aF)) ac.2 bu ⟨_,_,rfl,rfl,⟨_,_,rfl,rfl,⟨_,_,rfl,ew⟩⟩⟩;refine JB.store (v:= .agg #[iV ae.1,iV ae.2.1,.slice a9 (ae.2.2).length ba]) (off:=Int.toNat (av)*3) 13 0 (by decide+kernel) (by decide+kernel) rfl rfl rfl bq rfl rfl (Ag type133) (by simp [Value.cells,BB]) rfl cf.2 fun eB=>?_;refine JB.V 14 true rfl rfl (fun ρ h s' hs=>Yl.Bg ac.2 br underlying130 (Ag type133) (h _ _ rfl) (h _ _ rfl)) ?_;have cg:=WL.put (x':=ag) (ws':= [iV ag.1,iV ag.2.1,.slice bb (ag.2.2).length bc]) cf.1 ac.2 br ⟨_,_,rfl,rfl,⟨_,_,rfl,rfl,⟨_,_,rfl,ez⟩⟩⟩;refine JB.store (v:= .agg #[iV ag.1,iV ag.2.1,.slice bb (ag.2.2).length bc]) (off:=Int.toNat (a8)*3) 15 0 (by decide+kernel) (by decide+kernel) rfl rfl rfl eB rfl rfl (Ag type133) (by simp [Value.cells,BB]) rfl cg.2 fun eC=>?_;refine JB.fin (by decide+kernel) ?_;obtain⟨eD,eE,eF⟩:=bs ey;refine zg 3 rfl ?_;refine JL.Y rfl (fun ρ h=>Yl.A0 (h _ _ rfl) (h _ _ rfl) eE) ?_;obtain⟨eG,eH,eI⟩:=bs eF;refine zg 4 rfl ?_;refine JL.Y rfl (fun ρ h=>Yl.Bb (h _ _ rfl) (h _ _ rfl) eH) ?_;refine zg 3 rfl ?_;obtain rfl:=oi eI;exact JL.kw (el _ _ (eD,eG,((ar.2.2.set (Int.toNat av) ae).set (Int.toNat a8) ag)) ⟨bp,(A5 (A5 f127 (Int.toNat (av)*3) [iV ae.1,iV ae.2.1,.slice a9 (ae.2.2).length ba]) (Int.toNat (a8)*3) [iV ag.1,iV ag.2.1,.slice bb (ag.2.2).length bc]),rfl,rfl,((cc.trans aw).trans aF),eC,cg.1⟩ bN) rfl
      ·intro eJ;refine JL.block ?_;refine JL.wk [(0,.slice (some ⟨A,0,none⟩) ab aa),(1,iV p1),(4,(.func (.func 134) #[] #[])),(12,iV av),(13,iV ar.2.1)] rfl ?_;refine JL.Bf eq (fun L s bv=>∃(bw:LH),Jm a7 H bw [[(A,.cells f127 133 (0,0))]] [(0,.slice (some ⟨A,0,none⟩) ab aa),(1,iV p1),(4,(.func (.func 134) #[] #[])),(12,iV av),(13,iV bv)] L s) ⟨a7,rfl,rfl,(Le.refl _),ep⟩ ?_;rintro _ _ bv ⟨bw,rfl,rfl,aG,bd⟩ eK ⟨gq,bP⟩ eL;have ci:=bP;unfold GN at ci;refine zg 2 rfl ?_;refine JG.Ce 17 [A] ⟨⟨0,_,rfl⟩,trivial⟩ bd mixed rfl (by decide+kernel) fun ht=>?_;refine JG.ms ht rfl [0,1,2,3] rfl ?_;obtain⟨ck,cm,cn⟩:=bs ci;refine Av.join 0 #[true,true,true,true,true,true,true,true,true,true,true,true,true,true,true,true,true] (fun L s=>∃(bx:LH),Jm bw H bx [[(A,.cells f127 133 (0,0))]] [(0,.slice (some ⟨A,0,none⟩) ab aa),(1,iV p1),(4,(.func (.func 134) #[] #[])),(12,iV av),(13,iV bv),(139,.bool ck)] L s) ?_ ?_
       ·rintro _ _ ⟨bx,rfl,rfl,co,cp⟩;refine Av.fin (by decide+kernel) ?_;refine JL.split (t:=ck) rfl (fun bQ=>?_) (fun bQ=>?_)
        ·have eM:=ip cn bQ;obtain⟨eN,eO,eP⟩:=bs eM;refine zg 4 rfl ?_;refine JL.Y rfl (fun ρ h=>Yl.Bb (h _ _ rfl) (h _ _ rfl) eO) ?_;refine zg 3 rfl ?_;obtain rfl:=oi eP;exact JL.kw (eL _ _ eN ⟨bx,rfl,rfl,(aG.trans co),cp⟩ bP) rfl
        ·have eQ:=ib cn bQ;refine JL.exit rfl ?_;obtain rfl:=oi eQ;obtain rfl:=eK _ bP;exact JL.kw (eJ _ _ ⟨bx,rfl,rfl,(aG.trans co),cp⟩) rfl
       ·intro cq;refine Av.BW (q:=av≤bv) (i:=126) rfl (fun bR=>?_) (fun bR=>?_)
        ·have eR:=ip cm bR;refine JG.ms ht rfl [4,5,6] rfl ?_;obtain⟨aH,cr,eS⟩:=bs eR;obtain⟨_,⟨_,_,rfl,rfl,⟨_,_,rfl,rfl,⟨ct,cu,rfl,eT⟩⟩⟩,eU⟩:=WL.at (ac.mono (aw.trans aG)) cr;refine JG.V 7 ht rfl rfl (fun ρ h s' hs=>Yl.Bg ((ac.mono (aw.trans aG))).2 cr underlying130 (Ag type133) (h _ _ rfl) (h _ _ rfl)) ?_;refine JG.V 8 ht rfl rfl (fun ρ h s' hs=>Yl.Bs (vs:= [iV aH.1,iV aH.2.1,.slice ct (aH.2.2).length cu]) (Al underlying133) (Ag type133) (h _ _ rfl) (fun q w U=>by rw [Bi rfl];exact Bl 0 bd rfl (by simp [AH]) hs (eU q w U))) ?_;refine JG.ms ht rfl [9,10] rfl ?_;obtain⟨aI,cv,eV⟩:=bs eS;obtain⟨_,⟨_,_,rfl,rfl,⟨_,_,rfl,rfl,⟨cw,cy,rfl,eW⟩⟩⟩,eX⟩:=WL.at (ac.mono (aw.trans aG)) cv;refine JG.V 11 ht rfl rfl (fun ρ h s' hs=>Yl.Bg ((ac.mono (aw.trans aG))).2 cv underlying130 (Ag type133) (h _ _ rfl) (h _ _ rfl)) ?_;refine JG.V 12 ht rfl rfl (fun ρ h s' hs=>Yl.Bs (vs:= [iV aI.1,iV aI.2.1,.slice cw (aI.2.2).length cy]) (Al underlying133) (Ag type133) (h _ _ rfl) (fun q w U=>by rw [Bi rfl];exact Bl 0 bd rfl (by simp [AH]) hs (eX q w U))) ?_;obtain⟨eY,eZ,e0⟩:=bs eV;refine JG.FC (i:=13) ⟨⟨0,_,rfl⟩,trivial⟩ (vs:= [.agg #[iV aH.1,iV aH.2.1,.slice ct (aH.2.2).length cu],.agg #[iV aI.1,iV aI.2.1,.slice cw (aI.2.2).length cy]]) (EG eT eW eZ) (by decide+kernel) rfl rfl rfl rfl (Aw func134 rfl) rfl bd ?_;rintro _ e1 _ e2 ⟨rfl,rfl⟩ e3;refine JG.mv 14 ht rfl rfl ?_;refine JG.V (v:= .bool (decide (¬(eY<0)))) 15 ht rfl rfl (fun ρ h s' hs=>Yl.Gw (h _ _ rfl)) ?_;refine JG.mv 16 ht rfl rfl ?_;obtain rfl:=oi e0;refine Av.BU ?_ (cq _ _ ⟨e1,rfl,rfl,e2,e3⟩);exact⟨rfl,rfl,rfl,rfl,rfl,rfl,trivial⟩
        ·have e4:=im cm bR;refine JG.ms ht rfl [4,5,6,7,8,9,10,11,12,13,14,15,16] rfl ?_;obtain rfl:=oi e4;refine Av.BU ?_ (cq _ _ ⟨bw,rfl,rfl,(Le.refl _),bd⟩);exact⟨rfl,rfl,rfl,rfl,rfl,rfl,trivial⟩
     ·intro e5;refine JL.block ?_;refine JL.wk [(0,.slice (some ⟨A,0,none⟩) ab aa),(1,iV p1),(4,(.func (.func 134) #[] #[])),(12,iV ar.1),(13,iV ar.2.1)] rfl ?_;refine JL.Bf em (fun L s bz=>∃(bA:LH),Jm aE H bA [[(A,.cells f127 133 (0,0))]] [(0,.slice (some ⟨A,0,none⟩) ab aa),(1,iV p1),(4,(.func (.func 134) #[] #[])),(12,iV bz),(13,iV ar.2.1)] L s) ⟨aE,rfl,rfl,(Le.refl _),ej⟩ ?_;rintro _ _ bz ⟨bA,rfl,rfl,aJ,bf⟩ e6 ⟨gr,bS⟩ e7;have cz:=bS;unfold GM at cz;refine zg 2 rfl ?_;refine JG.Ce 16 [A] ⟨⟨0,_,rfl⟩,trivial⟩ bf mixed rfl (by decide+kernel) fun ht=>?_;refine JG.ms ht rfl [0,1,2,3] rfl ?_;obtain⟨cA,cB,cC⟩:=bs cz;refine Av.join 0 #[true,true,true,true,true,true,true,true,true,true,true,true,true,true,true,true] (fun L s=>∃(bB:LH),Jm bA H bB [[(A,.cells f127 133 (0,0))]] [(0,.slice (some ⟨A,0,none⟩) ab aa),(1,iV p1),(4,(.func (.func 134) #[] #[])),(12,iV bz),(13,iV ar.2.1),(120,.bool cA)] L s) ?_ ?_
      ·rintro _ _ ⟨bB,rfl,rfl,cD,cE⟩;refine Av.fin (by decide+kernel) ?_;refine JL.split (t:=cA) rfl (fun bT=>?_) (fun bT=>?_)
       ·have e8:=ip cC bT;obtain⟨e9,fa,fb⟩:=bs e8;refine zg 4 rfl ?_;refine JL.Y rfl (fun ρ h=>Yl.A0 (h _ _ rfl) (h _ _ rfl) fa) ?_;refine zg 3 rfl ?_;obtain rfl:=oi fb;exact JL.kw (e7 _ _ e9 ⟨bB,rfl,rfl,(aJ.trans cD),cE⟩ bS) rfl
       ·have fc:=ib cC bT;refine JL.exit rfl ?_;obtain rfl:=oi fc;obtain rfl:=e6 _ bS;exact JL.kw (e5 _ _ ⟨bB,rfl,rfl,(aJ.trans cD),cE⟩) rfl
      ·intro cF;refine Av.BW (q:=bz≤ar.2.1) (i:=108) rfl (fun bU=>?_) (fun bU=>?_)
       ·have fe:=ip cB bU;refine JG.ms ht rfl [4,5,6] rfl ?_;obtain⟨aK,cG,ff⟩:=bs fe;obtain⟨_,⟨_,_,rfl,rfl,⟨_,_,rfl,rfl,⟨cH,cI,rfl,fg⟩⟩⟩,fh⟩:=WL.at (ac.mono aJ) cG;refine JG.V 7 ht rfl rfl (fun ρ h s' hs=>Yl.Bg ((ac.mono aJ)).2 cG underlying130 (Ag type133) (h _ _ rfl) (h _ _ rfl)) ?_;refine JG.V 8 ht rfl rfl (fun ρ h s' hs=>Yl.Bs (vs:= [iV aK.1,iV aK.2.1,.slice cH (aK.2.2).length cI]) (Al underlying133) (Ag type133) (h _ _ rfl) (fun q w U=>by rw [Bi rfl];exact Bl 0 bf rfl (by simp [AH]) hs (fh q w U))) ?_;refine JG.ms ht rfl [9,10] rfl ?_;obtain⟨aL,cJ,fj⟩:=bs ff;obtain⟨_,⟨_,_,rfl,rfl,⟨_,_,rfl,rfl,⟨cK,cM,rfl,fk⟩⟩⟩,fm⟩:=WL.at (ac.mono aJ) cJ;refine JG.V 11 ht rfl rfl (fun ρ h s' hs=>Yl.Bg ((ac.mono aJ)).2 cJ underlying130 (Ag type133) (h _ _ rfl) (h _ _ rfl)) ?_;refine JG.V 12 ht rfl rfl (fun ρ h s' hs=>Yl.Bs (vs:= [iV aL.1,iV aL.2.1,.slice cK (aL.2.2).length cM]) (Al underlying133) (Ag type133) (h _ _ rfl) (fun q w U=>by rw [Bi rfl];exact Bl 0 bf rfl (by simp [AH]) hs (fm q w U))) ?_;obtain⟨gt,fo,fp⟩:=bs fj;refine JG.FC (i:=13) ⟨⟨0,_,rfl⟩,trivial⟩ (vs:= [.agg #[iV aK.1,iV aK.2.1,.slice cH (aK.2.2).length cI],.agg #[iV aL.1,iV aL.2.1,.slice cK (aL.2.2).length cM]]) (EG fg fk fo) (by decide+kernel) rfl rfl rfl rfl (Aw func134 rfl) rfl bf ?_;rintro _ fq _ fs ⟨rfl,rfl⟩ fu;refine JG.ms ht rfl [14,15] rfl ?_;obtain rfl:=oi fp;refine Av.BU ?_ (cF _ _ ⟨fq,rfl,rfl,fs,fu⟩);exact⟨rfl,rfl,rfl,rfl,rfl,rfl,trivial⟩
       ·have fv:=im cB bU;refine JG.ms ht rfl [4,5,6,7,8,9,10,11,12,13,14,15] rfl ?_;obtain rfl:=oi fv;refine Av.BU ?_ (cF _ _ ⟨bA,rfl,rfl,(Le.refl _),bf⟩);exact⟨rfl,rfl,rfl,rfl,rfl,rfl,trivial⟩
  ·intro fw;refine JL.block ?_;refine JL.wk [(0,.slice (some ⟨A,0,none⟩) ab aa),(1,iV p1),(4,(.func (.func 134) #[] #[])),(12,iV ay),(13,iV aB)] rfl ?_;refine JL.Bf dy (fun L s bC=>∃(bD:LH),Jm aT H bD [[(A,.cells (A5 (A5 au (Int.toNat (p1)*3) [iV K.1,iV K.2.1,.slice an (K.2.2).length c4]) (Int.toNat (p3)*3) [iV O.1,iV O.2.1,.slice ao (O.2.2).length ap]) 133 (0,0))]] [(0,.slice (some ⟨A,0,none⟩) ab aa),(1,iV p1),(4,(.func (.func 134) #[] #[])),(12,iV ay),(13,iV bC)] L s) ⟨aT,rfl,rfl,(Le.refl _),dx⟩ ?_;rintro _ _ bC ⟨bD,rfl,rfl,aM,bg⟩ fx ⟨gu,bV⟩ fy;have cN:=bV;unfold Ht at cN;refine zg 2 rfl ?_;refine JG.Ce 17 [A] ⟨⟨0,_,rfl⟩,trivial⟩ bg mixed rfl (by decide+kernel) fun ht=>?_;refine JG.ms ht rfl [0,1,2,3] rfl ?_;obtain⟨cO,cP,cQ⟩:=bs cN;refine Av.join 0 #[true,true,true,true,true,true,true,true,true,true,true,true,true,true,true,true,true] (fun L s=>∃(bE:LH),Jm bD H bE [[(A,.cells (A5 (A5 au (Int.toNat (p1)*3) [iV K.1,iV K.2.1,.slice an (K.2.2).length c4]) (Int.toNat (p3)*3) [iV O.1,iV O.2.1,.slice ao (O.2.2).length ap]) 133 (0,0))]] [(0,.slice (some ⟨A,0,none⟩) ab aa),(1,iV p1),(4,(.func (.func 134) #[] #[])),(12,iV ay),(13,iV bC),(66,.bool cO)] L s) ?_ ?_
   ·rintro _ _ ⟨bE,rfl,rfl,cR,cT⟩;refine Av.fin (by decide+kernel) ?_;refine JL.split (t:=cO) rfl (fun bW=>?_) (fun bW=>?_)
    ·have fz:=ip cQ bW;obtain⟨fA,fB,fC⟩:=bs fz;refine zg 4 rfl ?_;refine JL.Y rfl (fun ρ h=>Yl.Bb (h _ _ rfl) (h _ _ rfl) fB) ?_;refine zg 3 rfl ?_;obtain rfl:=oi fC;exact JL.kw (fy _ _ fA ⟨bE,rfl,rfl,(aM.trans cR),cT⟩ bV) rfl
    ·have fD:=ib cQ bW;refine JL.exit rfl ?_;obtain rfl:=oi fD;obtain rfl:=fx _ bV;exact JL.kw (fw _ _ ⟨bE,rfl,rfl,(aM.trans cR),cT⟩) rfl
   ·intro cV;refine Av.BW (q:=ay≤bC) (i:=53) rfl (fun bX=>?_) (fun bX=>?_)
    ·have fE:=ip cP bX;refine JG.ms ht rfl [4,5,6] rfl ?_;obtain⟨aN,cW,fF⟩:=bs fE;obtain⟨_,⟨_,_,rfl,rfl,⟨_,_,rfl,rfl,⟨cX,cY,rfl,fG⟩⟩⟩,fH⟩:=WL.at (Z.1.mono (aq.trans aM)) cW;refine JG.V 7 ht rfl rfl (fun ρ h s' hs=>Yl.Bg ((Z.1.mono (aq.trans aM))).2 cW underlying130 (Ag type133) (h _ _ rfl) (h _ _ rfl)) ?_;refine JG.V 8 ht rfl rfl (fun ρ h s' hs=>Yl.Bs (vs:= [iV aN.1,iV aN.2.1,.slice cX (aN.2.2).length cY]) (Al underlying133) (Ag type133) (h _ _ rfl) (fun q w U=>by rw [Bi rfl];exact Bl 0 bg rfl (by simp [AH]) hs (fH q w U))) ?_;refine JG.ms ht rfl [9,10] rfl ?_;obtain⟨aO,cZ,fI⟩:=bs fF;obtain⟨_,⟨_,_,rfl,rfl,⟨_,_,rfl,rfl,⟨c0,c1,rfl,fJ⟩⟩⟩,fK⟩:=WL.at (Z.1.mono (aq.trans aM)) cZ;refine JG.V 11 ht rfl rfl (fun ρ h s' hs=>Yl.Bg ((Z.1.mono (aq.trans aM))).2 cZ underlying130 (Ag type133) (h _ _ rfl) (h _ _ rfl)) ?_;refine JG.V 12 ht rfl rfl (fun ρ h s' hs=>Yl.Bs (vs:= [iV aO.1,iV aO.2.1,.slice c0 (aO.2.2).length c1]) (Al underlying133) (Ag type133) (h _ _ rfl) (fun q w U=>by rw [Bi rfl];exact Bl 0 bg rfl (by simp [AH]) hs (fK q w U))) ?_;obtain⟨fL,fM,fN⟩:=bs fI;refine JG.FC (i:=13) ⟨⟨0,_,rfl⟩,trivial⟩ (vs:= [.agg #[iV aN.1,iV aN.2.1,.slice cX (aN.2.2).length cY],.agg #[iV aO.1,iV aO.2.1,.slice c0 (aO.2.2).length c1]]) (EG fG fJ fM) (by decide+kernel) rfl rfl rfl rfl (Aw func134 rfl) rfl bg ?_;rintro _ fO _ fP ⟨rfl,rfl⟩ fQ;refine JG.mv 14 ht rfl rfl ?_;refine JG.V (v:= .bool (decide (¬(fL<0)))) 15 ht rfl rfl (fun ρ h s' hs=>Yl.Gw (h _ _ rfl)) ?_;refine JG.mv 16 ht rfl rfl ?_;obtain rfl:=oi fN;refine Av.BU ?_ (cV _ _ ⟨fO,rfl,rfl,fP,fQ⟩);exact⟨rfl,rfl,rfl,rfl,rfl,rfl,trivial⟩
    ·have fR:=im cP bX;refine JG.ms ht rfl [4,5,6,7,8,9,10,11,12,13,14,15,16] rfl ?_;obtain rfl:=oi fR;refine Av.BU ?_ (cV _ _ ⟨bD,rfl,rfl,(Le.refl _),bg⟩);exact⟨rfl,rfl,rfl,rfl,rfl,rfl,trivial⟩
 ·intro fS;refine JL.block ?_;refine JL.wk [(0,.slice (some ⟨A,0,none⟩) ab aa),(1,iV p1),(4,(.func (.func 134) #[] #[])),(12,iV dp),(13,iV aB)] rfl ?_;refine JL.Bf dv (fun L s bF=>∃(bG:LH),Jm E H bG [[(A,.cells (A5 (A5 au (Int.toNat (p1)*3) [iV K.1,iV K.2.1,.slice an (K.2.2).length c4]) (Int.toNat (p3)*3) [iV O.1,iV O.2.1,.slice ao (O.2.2).length ap]) 133 (0,0))]] [(0,.slice (some ⟨A,0,none⟩) ab aa),(1,iV p1),(4,(.func (.func 134) #[] #[])),(12,iV bF),(13,iV aB)] L s) ⟨E,rfl,rfl,(Le.refl _),dn⟩ ?_;rintro _ _ bF ⟨bG,rfl,rfl,aP,bh⟩ fT ⟨gv,bY⟩ fU;have c2:=bY;unfold Hs at c2;refine zg 2 rfl ?_;refine JG.Ce 16 [A] ⟨⟨0,_,rfl⟩,trivial⟩ bh mixed rfl (by decide+kernel) fun ht=>?_;refine JG.ms ht rfl [0,1,2,3] rfl ?_;obtain⟨c3,c5,c6⟩:=bs c2;refine Av.join 0 #[true,true,true,true,true,true,true,true,true,true,true,true,true,true,true,true] (fun L s=>∃(bH:LH),Jm bG H bH [[(A,.cells (A5 (A5 au (Int.toNat (p1)*3) [iV K.1,iV K.2.1,.slice an (K.2.2).length c4]) (Int.toNat (p3)*3) [iV O.1,iV O.2.1,.slice ao (O.2.2).length ap]) 133 (0,0))]] [(0,.slice (some ⟨A,0,none⟩) ab aa),(1,iV p1),(4,(.func (.func 134) #[] #[])),(12,iV bF),(13,iV aB),(47,.bool c3)] L s) ?_ ?_
  ·rintro _ _ ⟨bH,rfl,rfl,c7,c8⟩;refine Av.fin (by decide+kernel) ?_;refine JL.split (t:=c3) rfl (fun bZ=>?_) (fun bZ=>?_)
   ·have fV:=ip c6 bZ;obtain⟨fW,fX,fY⟩:=bs fV;refine zg 4 rfl ?_;refine JL.Y rfl (fun ρ h=>Yl.A0 (h _ _ rfl) (h _ _ rfl) fX) ?_;refine zg 3 rfl ?_;obtain rfl:=oi fY;exact JL.kw (fU _ _ fW ⟨bH,rfl,rfl,(aP.trans c7),c8⟩ bY) rfl
   ·have fZ:=ib c6 bZ;refine JL.exit rfl ?_;obtain rfl:=oi fZ;obtain rfl:=fT _ bY;exact JL.kw (fS _ _ ⟨bH,rfl,rfl,(aP.trans c7),c8⟩) rfl
  ·intro c9;refine Av.BW (q:=bF≤aB) (i:=35) rfl (fun b0=>?_) (fun b0=>?_)
   ·have ga:=ip c5 b0;refine JG.ms ht rfl [4,5,6] rfl ?_;obtain⟨aQ,da,gb⟩:=bs ga;obtain⟨_,⟨_,_,rfl,rfl,⟨_,_,rfl,rfl,⟨db,dc,rfl,gc⟩⟩⟩,gd⟩:=WL.at (Z.1.mono aP) da;refine JG.V 7 ht rfl rfl (fun ρ h s' hs=>Yl.Bg ((Z.1.mono aP)).2 da underlying130 (Ag type133) (h _ _ rfl) (h _ _ rfl)) ?_;refine JG.V 8 ht rfl rfl (fun ρ h s' hs=>Yl.Bs (vs:= [iV aQ.1,iV aQ.2.1,.slice db (aQ.2.2).length dc]) (Al underlying133) (Ag type133) (h _ _ rfl) (fun q w U=>by rw [Bi rfl];exact Bl 0 bh rfl (by simp [AH]) hs (gd q w U))) ?_;refine JG.ms ht rfl [9,10] rfl ?_;obtain⟨aR,dd,ge⟩:=bs gb;obtain⟨_,⟨_,_,rfl,rfl,⟨_,_,rfl,rfl,⟨de,df,rfl,gf⟩⟩⟩,gg⟩:=WL.at (Z.1.mono aP) dd;refine JG.V 11 ht rfl rfl (fun ρ h s' hs=>Yl.Bg ((Z.1.mono aP)).2 dd underlying130 (Ag type133) (h _ _ rfl) (h _ _ rfl)) ?_;refine JG.V 12 ht rfl rfl (fun ρ h s' hs=>Yl.Bs (vs:= [iV aR.1,iV aR.2.1,.slice de (aR.2.2).length df]) (Al underlying133) (Ag type133) (h _ _ rfl) (fun q w U=>by rw [Bi rfl];exact Bl 0 bh rfl (by simp [AH]) hs (gg q w U))) ?_;obtain⟨gw,gh,gi⟩:=bs ge;refine JG.FC (i:=13) ⟨⟨0,_,rfl⟩,trivial⟩ (vs:= [.agg #[iV aQ.1,iV aQ.2.1,.slice db (aQ.2.2).length dc],.agg #[iV aR.1,iV aR.2.1,.slice de (aR.2.2).length df]]) (EG gc gf gh) (by decide+kernel) rfl rfl rfl rfl (Aw func134 rfl) rfl bh ?_;rintro _ gj _ gk ⟨rfl,rfl⟩ gl;refine JG.ms ht rfl [14,15] rfl ?_;obtain rfl:=oi gi;refine Av.BU ?_ (c9 _ _ ⟨gj,rfl,rfl,gk,gl⟩);exact⟨rfl,rfl,rfl,rfl,rfl,rfl,trivial⟩
   ·have gm:=im c5 b0;refine JG.ms ht rfl [4,5,6,7,8,9,10,11,12,13,14,15] rfl ?_;obtain rfl:=oi gm;refine Av.BU ?_ (c9 _ _ ⟨bG,rfl,rfl,(Le.refl _),bh⟩);exact⟨rfl,rfl,rfl,rfl,rfl,rfl,trivial⟩
end Pal
namespace Pal
open Go Go.Conc Go.Proofs
open Go.Proofs.Tryz
variable {J:Judge Tryz.prog}{E:LH}
def Ii(fuel:Nat)(p0:List (A3))(p1:Int)(p2:Int)(p3:Int)(aq:Unit):Option (A4 (Unit) (((List (A3)))⊕(Unit))):=
 (Ax (p2 - p1)).bind fun aa=>
 if aa≤12 then(
  (f178 fuel p0 p1 p2).bind fun ab=>
  some (.done (Sum.inl ab))
 ) else(
  if p3=0 then(
   none
  ) else(
   (f181 fuel p0 p1 p2).bind fun K=>
   Option.bind (
    if K.2=2 then(
     (f182 fuel p0 p1 p2).bind fun ac=>
     (Ax (p2 - 1)).bind fun ae=>
     (Ax (K.1 - p1)).bind fun ag=>
     (Ax (ae - ag)).bind fun ah=>
     some (ah,1,ac)
    ) else(
     some (K.1,K.2,p0)
    )
   ) fun A=>
   Option.bind (
    if A.2.1=1 then(
     (f183 fuel A.2.2 p1 p2).bind fun O=>
     if O.1=true then(
      some (Sum.inl O.2)
     ) else(
      some (Sum.inr O.2)
     )
    ) else(
     some (Sum.inr A.2.2)
    )
   ) fun ai=>Sum.elim (fun r=>some (.done (Sum.inl r))) (fun U=>
   Option.bind (
    if 0<p1 then(
     (Ax (p1 - 1)).bind fun aj=>
     (ix U (aj)).bind fun ak=>
     (ix U (A.1)).bind fun al=>
     (f134 fuel ak al).bind fun am=>
     some (decide (¬(am<0)))
    ) else(
     some false
    )
   ) fun an=>
   if an=true then(
    none
   ) else(
    (f185 fuel U p1 p2 A.1).bind fun Z=>
    (Ax (Z.1 - p1)).bind fun ao=>
    (Ax (p2 - Z.1)).bind fun ap=>
    (Fj (aa) (8)).bind fun ar=>
    if ao<ap then(
     none
    ) else(
     (Ax (Z.1+1)).bind fun au=>
     none
    )
   )
   ) ai
  )
 )
def F7(fuel:Nat)(p0:List (A3))(p1:Int)(p2:Int)(p3:Int):Option ((List (A3))):=
 Option.bind (iter (Ii fuel p0 p1 p2 p3) fuel ()) fun A=>
 Sum.elim (fun r=>some r) (fun K=>
 none
 ) A
theorem Nb{A:Nat}{K:Nat}{O:Nat}{ai:Array Value}{p0:List (A3)}{p1:Int}{p2:Int}{p3:Int}(hW:WL 133 BH E A K O ai p0){fuel:Nat}{r:(List (A3))}(az:F7 fuel p0 p1 p2 p3=some r):Aq J 162 [.slice (some ⟨A,0,none⟩) O K,iV p1,iV p2,iV p3,(.func (.func 134) #[] #[])] E [(A,.cells ai 133 (0,0))] (fun w E' B'=>∃(aA:Array Value),w= .tuple #[]∧B'= [(A,.cells aA 133 (0,0))]∧WL 133 BH E' A K O aA (r)):=by
 refine Aq.en func162 rfl rfl fun Q cw cs H a9 aB=>?_;unfold F7 at az;obtain⟨cy,ba,aC⟩:=bs az;refine zg 8 rfl ?_;refine JL.join (fun L s=>False) ?_ ?_
 ·intro _ _ bb;exact bb.elim
 ·intro cz;refine JL.block ?_;refine JL.wk [(0,.slice (some ⟨A,0,none⟩) O K),(1,iV p1),(2,iV p2),(3,iV p3),(4,(.func (.func 134) #[] #[])),(10,.bool true),(11,.bool true)] rfl ?_;refine JL.Bf ba (fun L s bc=>∃(aD:LH),Jm E H aD [[(A,.cells ai 133 (0,0))]] [(0,.slice (some ⟨A,0,none⟩) O K),(1,iV p1),(2,iV p2),(3,iV p3),(4,(.func (.func 134) #[] #[])),(10,.bool true),(11,.bool true)] L s) ⟨E,rfl,rfl,(Le.refl _),a9⟩ ?_;rintro _ _ bc ⟨aD,rfl,rfl,Z,aE⟩ aF ⟨cA,ak⟩ cB;have aG:=ak;unfold Ii at aG;obtain⟨aj,bd,aH⟩:=bs aG;refine zg 5 rfl ?_;refine JL.Y rfl (fun ρ h=>Yl.Bb (h _ _ rfl) (h _ _ rfl) bd) ?_;refine zg 8 rfl ?_;refine JL.ifs (p:=aj≤12) rfl (fun al=>?_) (fun al=>?_)
  ·have bf:=ip aH al;obtain⟨cC,bg,bh⟩:=bs bf;refine zg 6 rfl ?_;refine JS.BL 0 (NG (hW.mono Z) bg) rfl rfl (Aw func178 rfl) aE rfl ?_;rintro _ cD _ bi ⟨f32,rfl,rfl,bj⟩ bk;refine JL.done ?_;obtain rfl:=oi bh;obtain rfl:=aF _ ak;have bl:=elim_inl aC;obtain rfl:=oi bl;refine JL.rt func162 rfl rfl ?_;exact aB _ _ _ _ (Z.trans bi) rfl ⟨f32,rfl,(by first | rfl | simp | (simp [Value.cells])),bj⟩ bk
  ·have aI:=im aH al;refine zg 7 rfl ?_;refine JL.ifs (p:=p3=0) rfl (fun am=>?_) (fun am=>?_)
   ·have bm:=ip aI am;refine zg 6 rfl ?_;cases bm
   ·have bn:=im aI am;refine zg 5 rfl ?_;refine JL.Y (v:= .bool false) rfl (fun ρ h=>Yl.not (c:=true) (h _ _ rfl)) ?_;obtain⟨bo,bp,bq⟩:=bs bn;refine zg 9 rfl ?_;refine JS.BL 0 (NM (hW.mono Z) bp) rfl rfl (Aw func181 rfl) aE rfl ?_;rintro _ aJ _ an ⟨rfl,rfl⟩ aK;obtain⟨U,aL,br⟩:=bs bq;refine zg 12 rfl ?_;refine JL.join (fun L s=>∃(ac:LH) (f56:Array Value),Jn aJ H ac [[(A,.cells f56 133 (0,0))]] [(0,.slice (some ⟨A,0,none⟩) O K),(1,iV p1),(2,iV p2),(3,iV p3),(4,(.func (.func 134) #[] #[])),(10,.bool true),(11,.bool true),(12,iV aj),(13,iV U.1),(14,iV U.2.1)] L s (WL 133 BH ac A K O f56 (U.2.2))) ?_ ?_
    ·rintro _ _ ⟨ac,f56,rfl,rfl,bu,aM,aN⟩;obtain⟨bv,aO,aP⟩:=bs br;refine zg 12 rfl ?_;refine JL.join (fun L s=>∃(ao:(List (A3))) (ae:LH) (f65:Array Value),bv=Sum.inr ao∧Jn ac H ae [[(A,.cells f65 133 (0,0))]] [(0,.slice (some ⟨A,0,none⟩) O K),(1,iV p1),(2,iV p2),(3,iV p3),(4,(.func (.func 134) #[] #[])),(10,.bool true),(11,.bool true),(12,iV aj),(13,iV U.1)] L s (WL 133 BH ae A K O f65 (ao))) ?_ ?_
     ·rintro _ _ ⟨ao,ae,f65,rfl,rfl,rfl,cE,ag,ah⟩;have bw:=elim_inr aP;refine zg 2 rfl ?_;refine JG.Ce 17 [A] ⟨⟨0,_,rfl⟩,trivial⟩ ag mixed rfl (by decide+kernel) fun ht=>?_;refine JG.ms ht rfl [0,1,2] rfl ?_;obtain⟨aQ,aR,aS⟩:=bs bw;refine Av.join 0 #[true,true,true,true,true,true,true,true,true,true,true,true,true,true,true,true,true] (fun L s=>∃(aT:LH),Jm ae H aT [[(A,.cells f65 133 (0,0))]] [(0,.slice (some ⟨A,0,none⟩) O K),(1,iV p1),(2,iV p2),(3,iV p3),(4,(.func (.func 134) #[] #[])),(10,.bool true),(11,.bool true),(12,iV aj),(13,iV U.1),(97,.bool aQ)] L s) ?_ ?_
      ·rintro _ _ ⟨aT,rfl,rfl,bx,bz⟩;refine Av.fin (by decide+kernel) ?_;refine JL.split (t:=aQ) rfl (fun ap=>?_) (fun ap=>?_)
       ·have bA:=ip aS ap;refine zg 7 rfl ?_;cases bA
       ·have bB:=ib aS ap;obtain⟨cF,bC,bD⟩:=bs bB;refine zg 8 rfl ?_;refine JS.BL 0 (NW (ah.mono bx) bC) rfl rfl (Aw func185 rfl) bz rfl ?_;rintro _ cG _ cH ⟨f83,rfl,rfl,cI⟩ cJ;obtain⟨bE,bF,bG⟩:=bs bD;refine zg 15 rfl ?_;refine JL.Y rfl (fun ρ h=>Yl.Bb (h _ _ rfl) (h _ _ rfl) bF) ?_;obtain⟨bH,bI,bJ⟩:=bs bG;refine zg 2 rfl ?_;refine JL.Y rfl (fun ρ h=>Yl.Bb (h _ _ rfl) (h _ _ rfl) bI) ?_;obtain⟨bK,bL,aU⟩:=bs bJ;refine zg 6 rfl ?_;refine JL.Y (v:=iV bK) rfl (fun ρ h=>Yl.HV (h _ _ rfl) (h _ _ rfl) bL) ?_;refine zg 8 rfl ?_;refine JL.ifs (p:=bE<bH) rfl (fun aq=>?_) (fun aq=>?_)
        ·have bM:=ip aU aq;refine zg 14 rfl ?_;cases bM
        ·have bN:=im aU aq;obtain⟨cK,bO,bP⟩:=bs bN;refine zg 11 rfl ?_;refine JL.Y rfl (fun ρ h=>Yl.A0 (h _ _ rfl) (h _ _ rfl) bO) ?_;refine zg 3 rfl ?_;cases bP
      ·intro aV;refine Av.BW (q:=0<p1) (i:=83) rfl (fun ar=>?_) (fun ar=>?_)
       ·have bQ:=ip aR ar;refine JG.ms ht rfl [3,4,5] rfl ?_;obtain⟨cM,bR,bS⟩:=bs bQ;refine JG.V 6 ht rfl rfl (fun ρ h s' hs=>Yl.Bb (h _ _ rfl) (h _ _ rfl) bR) ?_;obtain⟨aa,aW,bT⟩:=bs bS;obtain⟨_,⟨_,_,rfl,rfl,⟨_,_,rfl,rfl,⟨aX,aY,rfl,bU⟩⟩⟩,bV⟩:=WL.at ah aW;refine JG.V 7 ht rfl rfl (fun ρ h s' hs=>Yl.Bg (ah).2 aW underlying130 (Ag type133) (h _ _ rfl) (h _ _ rfl)) ?_;refine JG.V 8 ht rfl rfl (fun ρ h s' hs=>Yl.Bs (vs:= [iV aa.1,iV aa.2.1,.slice aX (aa.2.2).length aY]) (Al underlying133) (Ag type133) (h _ _ rfl) (fun q w au=>by rw [Bi rfl];exact Bl 0 ag rfl (by simp [AH]) hs (bV q w au))) ?_;refine JG.ms ht rfl [9,10] rfl ?_;obtain⟨ab,aZ,bW⟩:=bs bT;obtain⟨_,⟨_,_,rfl,rfl,⟨_,_,rfl,rfl,⟨a0,a1,rfl,bX⟩⟩⟩,bY⟩:=WL.at ah aZ;refine JG.V 11 ht rfl rfl (fun ρ h s' hs=>Yl.Bg (ah).2 aZ underlying130 (Ag type133) (h _ _ rfl) (h _ _ rfl)) ?_;refine JG.V 12 ht rfl rfl (fun ρ h s' hs=>Yl.Bs (vs:= [iV ab.1,iV ab.2.1,.slice a0 (ab.2.2).length a1]) (Al underlying133) (Ag type133) (h _ _ rfl) (fun q w au=>by rw [Bi rfl];exact Bl 0 ag rfl (by simp [AH]) hs (bY q w au))) ?_;obtain⟨bZ,b0,b1⟩:=bs bW;refine JG.FC (i:=13) ⟨⟨0,_,rfl⟩,trivial⟩ (vs:= [.agg #[iV aa.1,iV aa.2.1,.slice aX (aa.2.2).length aY],.agg #[iV ab.1,iV ab.2.1,.slice a0 (ab.2.2).length a1]]) (EG bU bX b0) (by decide+kernel) rfl rfl rfl rfl (Aw func134 rfl) rfl ag ?_;rintro _ b2 _ b3 ⟨rfl,rfl⟩ b4;refine JG.mv 14 ht rfl rfl ?_;refine JG.V (v:= .bool (decide (¬(bZ<0)))) 15 ht rfl rfl (fun ρ h s' hs=>Yl.Gw (h _ _ rfl)) ?_;refine JG.mv 16 ht rfl rfl ?_;obtain rfl:=oi b1;refine Av.BU ?_ (aV _ _ ⟨b2,rfl,rfl,b3,b4⟩);exact⟨rfl,rfl,rfl,rfl,rfl,rfl,rfl,rfl,rfl,rfl,trivial⟩
       ·have b5:=im aR ar;refine JG.ms ht rfl [3,4,5,6,7,8,9,10,11,12,13,14,15,16] rfl ?_;obtain rfl:=oi b5;refine Av.BU ?_ (aV _ _ ⟨ae,rfl,rfl,(Le.refl _),ag⟩);exact⟨rfl,rfl,rfl,rfl,rfl,rfl,rfl,rfl,rfl,rfl,trivial⟩
     ·intro a2;refine JL.ifs (p:=U.2.1=1) rfl (fun av=>?_) (fun av=>?_)
      ·have b6:=ip aO av;obtain⟨a3,b7,a4⟩:=bs b6;refine zg 6 rfl ?_;refine JS.BL 0 (NR aN b7) rfl rfl (Aw func183 rfl) aM rfl ?_;rintro _ b8 _ a5 ⟨f133,rfl,rfl,a6⟩ a7;refine JL.done ?_;refine JL.split (t:=a3.1) rfl (fun aw=>?_) (fun aw=>?_)
       ·have b9:=ip a4 aw;obtain rfl:=oi b9;have ca:=elim_inl aP;obtain rfl:=oi ca;obtain rfl:=aF _ ak;have cb:=elim_inl aC;obtain rfl:=oi cb;refine JL.rt func162 rfl rfl ?_;exact aB _ _ _ _ (((Z.trans an).trans bu).trans a5) rfl ⟨f133,rfl,(by first | rfl | simp | (simp [Value.cells])),a6⟩ a7
       ·have cc:=ib a4 aw;refine JL.skip ?_;exact JL.kw (a2 _ _ ⟨a3.2,b8,f133,(Option.some.inj cc).symm,rfl,rfl,a5,a7,a6⟩) rfl
      ·have cd:=im aO av;refine JL.skip ?_;exact JL.kw (a2 _ _ ⟨U.2.2,ac,f56,(Option.some.inj cd).symm,rfl,rfl,(Le.refl _),aM,aN⟩) rfl
    ·intro a8;refine JL.ifs (p:=bo.2=2) rfl (fun ay=>?_) (fun ay=>?_)
     ·have ce:=ip aL ay;obtain⟨cN,cf,cg⟩:=bs ce;refine zg 6 rfl ?_;refine JS.BL 0 (Nz (hW.mono (Z.trans an)) cf) rfl rfl (Aw func182 rfl) aK rfl ?_;rintro _ ci _ ck ⟨f156,rfl,rfl,cm⟩ cn;obtain⟨cO,co,cp⟩:=bs cg;refine zg 4 rfl ?_;refine JL.Y rfl (fun ρ h=>Yl.Bb (h _ _ rfl) (h _ _ rfl) co) ?_;obtain⟨cP,cq,cr⟩:=bs cp;refine zg 2 rfl ?_;refine JL.Y rfl (fun ρ h=>Yl.Bb (h _ _ rfl) (h _ _ rfl) cq) ?_;obtain⟨cQ,ct,cu⟩:=bs cr;refine JL.Y rfl (fun ρ h=>Yl.Bb (h _ _ rfl) (h _ _ rfl) ct) ?_;refine zg 5 rfl ?_;obtain rfl:=oi cu;exact JL.kw (a8 _ _ ⟨ci,f156,rfl,rfl,ck,cn,cm⟩) rfl
     ·have cv:=im aL ay;refine JL.skip ?_;obtain rfl:=oi cv;exact JL.kw (a8 _ _ ⟨aJ,ai,rfl,rfl,(Le.refl _),aK,(hW.mono (Z.trans an))⟩) rfl
def Fa(fuel:Nat)(p3:Int)(A:Int×Int×Bool×Bool×(List (A3))):Option (A4 (Int×Int×Bool×Bool×(List (A3))) (((List (A3)))⊕(Unit))):=
 Option.bind (
  (Ax (A.2.1 - A.1)).bind fun ac=>
  if ac≤12 then(
   (f178 fuel A.2.2.2.2 A.1 A.2.1).bind fun ai=>
   some (Sum.inl ai)
  ) else(
   if p3=0 then(
    none
   ) else(
    Option.bind (
     if(!A.2.2.1)=true then(
      none
     ) else(
      some ()
     )
    ) fun aE=>
    (f181 fuel A.2.2.2.2 A.1 A.2.1).bind fun U=>
    Option.bind (
     if U.2=2 then(
      (f182 fuel A.2.2.2.2 A.1 A.2.1).bind fun aj=>
      (Ax (A.2.1 - 1)).bind fun ak=>
      (Ax (U.1 - A.1)).bind fun al=>
      (Ax (ak - al)).bind fun am=>
      some (am,1,aj)
     ) else(
      some (U.1,U.2,A.2.2.2.2)
     )
    ) fun O=>
    Option.bind (
     if A.2.2.1=true then(
      some A.2.2.2.1
     ) else(
      some false
     )
    ) fun an=>
    Option.bind (
     if an=true then(
      some (decide (O.2.1=1))
     ) else(
      some false
     )
    ) fun ao=>
    Option.bind (
     if ao=true then(
      (f183 fuel O.2.2 A.1 A.2.1).bind fun aa=>
      if aa.1=true then(
       some (Sum.inl aa.2)
      ) else(
       some (Sum.inr aa.2)
      )
     ) else(
      some (Sum.inr O.2.2)
     )
    ) fun ap=>Sum.elim (fun r=>some (Sum.inl r)) (fun ab=>
    Option.bind (
     if 0<A.1 then(
      (Ax (A.1 - 1)).bind fun aq=>
      (ix ab (aq)).bind fun ar=>
      (ix ab (O.1)).bind fun au=>
      (f134 fuel ar au).bind fun av=>
      some (decide (¬(av<0)))
     ) else(
      some false
     )
    ) fun aw=>
    if aw=true then(
     none
    ) else(
     (f185 fuel ab A.1 A.2.1 O.1).bind fun K=>
     (Ax (K.1 - A.1)).bind fun ae=>
     (Ax (A.2.1 - K.1)).bind fun ag=>
     (Fj (ac) (8)).bind fun ah=>
     Option.bind (
      if ae<ag then(
       (F7 fuel K.2.2 A.1 K.1 p3).bind fun ay=>
       (Ax (K.1+1)).bind fun az=>
       some (az,A.2.1,decide (ah≤ae),ay)
      ) else(
       (Ax (K.1+1)).bind fun aA=>
       (F7 fuel K.2.2 aA A.2.1 p3).bind fun aB=>
       some (A.1,K.1,decide (ah≤ag),aB)
      )
     ) fun Z=>
     some (Sum.inr (Z.1,Z.2.1,Z.2.2.1,K.2.1,Z.2.2.2))
    )
    ) ap
   )
  )
 ) fun aC=>Sum.elim (fun r=>some (.done (Sum.inl r))) (fun aD=>
 some (.more aD)
 ) aC
def f162(fuel:Nat)(p0:List (A3))(p1:Int)(p2:Int)(p3:Int):Option ((List (A3))):=
 Option.bind (iter (Fa fuel p3) fuel (p1,p2,true,true,p0)) fun A=>
 Sum.elim (fun r=>some r) (fun K=>
 none
 ) A
theorem Tx{K:Nat}{O:Nat}{U:Nat}{az:Array Value}{p0:List (A3)}{p1:Int}{p2:Int}{p3:Int}(hW:WL 133 BH E K O U az p0){fuel:Nat}{r:(List (A3))}(aP:f162 fuel p0 p1 p2 p3=some r):Aq J 162 [.slice (some ⟨K,0,none⟩) U O,iV p1,iV p2,iV p3,(.func (.func 134) #[] #[])] E [(K,.cells az 133 (0,0))] (fun w E' B'=>∃(aQ:Array Value),w= .tuple #[]∧B'= [(K,.cells aQ 133 (0,0))]∧WL 133 BH E' K O U aQ (r)):=by
 refine Aq.en func162 rfl rfl fun Q dM cs H bI aR=>?_;unfold f162 at aP;obtain⟨dN,bJ,aS⟩:=bs aP;refine zg 8 rfl ?_;refine JL.join (fun L s=>False) ?_ ?_
 ·intro _ _ bK;exact bK.elim
 ·intro dO;refine JL.block ?_;refine JL.wk [(0,.slice (some ⟨K,0,none⟩) U O),(1,iV p1),(2,iV p2),(3,iV p3),(4,(.func (.func 134) #[] #[])),(10,.bool true),(11,.bool true)] rfl ?_;refine JL.Bf bJ (fun L s A=>∃(ae:LH) (f22:Array Value),Jn E H ae [[(K,.cells f22 133 (0,0))]] [(0,.slice (some ⟨K,0,none⟩) U O),(1,iV A.1),(2,iV A.2.1),(3,iV p3),(4,(.func (.func 134) #[] #[])),(10,.bool A.2.2.1),(11,.bool A.2.2.2.1)] L s (WL 133 BH ae K O U f22 (A.2.2.2.2))) ⟨E,az,rfl,rfl,(Le.refl _),bI,hW⟩ ?_;rintro _ _ A ⟨ae,f22,rfl,rfl,aA,aT,ao⟩ aU ⟨dP,ap⟩ bL;have aV:=ap;unfold Fa at aV;obtain⟨bM,bN,aB⟩:=bs aV;refine JL.join (fun L s=>∃(aa:Int×Int×Bool×Bool×(List (A3))) (aq:LH) (f36:Array Value),bM=Sum.inr aa∧Jn ae H aq [[(K,.cells f36 133 (0,0))]] [(0,.slice (some ⟨K,0,none⟩) U O),(1,iV aa.1),(2,iV aa.2.1),(3,iV p3),(4,(.func (.func 134) #[] #[])),(10,.bool aa.2.2.1),(11,.bool aa.2.2.2.1)] L s (WL 133 BH aq K O U f36 (aa.2.2.2.2))) ?_ ?_
  ·rintro _ _ ⟨aa,aq,f36,rfl,rfl,rfl,bO,bP,bQ⟩;have bR:=elim_inr aB;obtain rfl:=oi bR;exact JL.kw (bL _ _ aa ⟨aq,f36,rfl,rfl,(aA.trans bO),bP,bQ⟩ ap) rfl
  ·intro bS;obtain⟨ac,bT,aW⟩:=bs bN;refine zg 5 rfl ?_;refine JL.Y rfl (fun ρ h=>Yl.Bb (h _ _ rfl) (h _ _ rfl) bT) ?_;refine zg 8 rfl ?_;refine JL.ifs (p:=ac≤12) rfl (fun aC=>?_) (fun aC=>?_)
   ·have bU:=ip aW aC;obtain⟨dQ,bV,bW⟩:=bs bU;refine zg 6 rfl ?_;refine JS.BL 0 (NG ao bV) rfl rfl (Aw func178 rfl) aT rfl ?_;rintro _ dR _ bX ⟨f52,rfl,rfl,bY⟩ bZ;refine JL.done ?_;obtain rfl:=oi bW;have b0:=elim_inl aB;obtain rfl:=oi b0;obtain rfl:=aU _ ap;have b1:=elim_inl aS;obtain rfl:=oi b1;refine JL.rt func162 rfl rfl ?_;exact aR _ _ _ _ (aA.trans bX) rfl ⟨f52,rfl,(by first | rfl | simp | (simp [Value.cells])),bY⟩ bZ
   ·have aX:=im aW aC;refine zg 7 rfl ?_;refine JL.ifs (p:=p3=0) rfl (fun aD=>?_) (fun aD=>?_)
    ·have b2:=ip aX aD;refine zg 6 rfl ?_;cases b2
    ·have b3:=im aX aD;refine zg 5 rfl ?_;refine JL.Y (v:= .bool (!A.2.2.1)) rfl (fun ρ h=>Yl.not (h _ _ rfl)) ?_;obtain⟨dS,aY,b4⟩:=bs b3;refine JL.done ?_;refine JL.join (fun L s=>∃(aZ:LH),Jm ae H aZ [[(K,.cells f22 133 (0,0))]] [(0,.slice (some ⟨K,0,none⟩) U O),(1,iV A.1),(2,iV A.2.1),(3,iV p3),(4,(.func (.func 134) #[] #[])),(10,.bool A.2.2.1),(11,.bool A.2.2.2.1),(12,iV ac)] L s) ?_ ?_
     ·rintro _ _ ⟨aZ,rfl,rfl,aj,b5⟩;obtain⟨b6,b7,b8⟩:=bs b4;refine zg 6 rfl ?_;refine JS.BL 0 (NM (ao.mono aj) b7) rfl rfl (Aw func181 rfl) b5 rfl ?_;rintro _ a0 _ ar ⟨rfl,rfl⟩ a1;obtain⟨Z,a2,b9⟩:=bs b8;refine zg 12 rfl ?_;refine JL.join (fun L s=>∃(ag:LH) (f84:Array Value),Jn a0 H ag [[(K,.cells f84 133 (0,0))]] [(0,.slice (some ⟨K,0,none⟩) U O),(1,iV A.1),(2,iV A.2.1),(3,iV p3),(4,(.func (.func 134) #[] #[])),(10,.bool A.2.2.1),(11,.bool A.2.2.2.1),(12,iV ac),(13,iV Z.1),(14,iV Z.2.1)] L s (WL 133 BH ag K O U f84 (Z.2.2))) ?_ ?_
      ·rintro _ _ ⟨ag,f84,rfl,rfl,a3,a4,a5⟩;obtain⟨a6,a7,ca⟩:=bs b9;refine zg 5 rfl ?_;refine JL.BI [4,5,6,7] (fun L s=>∃(ak:LH),Jm ag H ak [[(K,.cells f84 133 (0,0))]] [(0,.slice (some ⟨K,0,none⟩) U O),(1,iV A.1),(2,iV A.2.1),(3,iV p3),(4,(.func (.func 134) #[] #[])),(10,.bool A.2.2.1),(11,.bool A.2.2.2.1),(12,iV ac),(13,iV Z.1),(14,iV Z.2.1),(71,.bool a6)] L s) ?_ ?_
       ·rintro _ _ ⟨ak,rfl,rfl,au,a8⟩;obtain⟨a9,ba,cb⟩:=bs ca;refine zg 1 rfl ?_;refine JL.BI [] (fun L s=>∃(av:LH),Jm ak H av [[(K,.cells f84 133 (0,0))]] [(0,.slice (some ⟨K,0,none⟩) U O),(1,iV A.1),(2,iV A.2.1),(3,iV p3),(4,(.func (.func 134) #[] #[])),(10,.bool A.2.2.1),(11,.bool A.2.2.2.1),(12,iV ac),(13,iV Z.1),(75,.bool a9)] L s) ?_ ?_
        ·rintro _ _ ⟨av,rfl,rfl,aw,bb⟩;obtain⟨cc,bc,bd⟩:=bs cb;refine JL.done ?_;refine JL.join (fun L s=>∃(aE:(List (A3))) (al:LH) (f105:Array Value),cc=Sum.inr aE∧Jn av H al [[(K,.cells f105 133 (0,0))]] [(0,.slice (some ⟨K,0,none⟩) U O),(1,iV A.1),(2,iV A.2.1),(3,iV p3),(4,(.func (.func 134) #[] #[])),(10,.bool A.2.2.1),(11,.bool A.2.2.2.1),(12,iV ac),(13,iV Z.1)] L s (WL 133 BH al K O U f105 (aE))) ?_ ?_
         ·rintro _ _ ⟨aE,al,f105,rfl,rfl,rfl,cd,am,an⟩;have ce:=elim_inr bd;refine zg 2 rfl ?_;refine JG.Ce 17 [K] ⟨⟨0,_,rfl⟩,trivial⟩ am mixed rfl (by decide+kernel) fun ht=>?_;refine JG.ms ht rfl [0,1,2] rfl ?_;obtain⟨bf,bg,bh⟩:=bs ce;refine Av.join 0 #[true,true,true,true,true,true,true,true,true,true,true,true,true,true,true,true,true] (fun L s=>∃(bi:LH),Jm al H bi [[(K,.cells f105 133 (0,0))]] [(0,.slice (some ⟨K,0,none⟩) U O),(1,iV A.1),(2,iV A.2.1),(3,iV p3),(4,(.func (.func 134) #[] #[])),(10,.bool A.2.2.1),(11,.bool A.2.2.2.1),(12,iV ac),(13,iV Z.1),(97,.bool bf)] L s) ?_ ?_
          ·rintro _ _ ⟨bi,rfl,rfl,bj,cf⟩;refine Av.fin (by decide+kernel) ?_;refine JL.split (t:=bf) rfl (fun aF=>?_) (fun aF=>?_)
           ·have cg:=ip bh aF;refine zg 7 rfl ?_;cases cg
           ·have ci:=ib bh aF;obtain⟨bk,ck,cm⟩:=bs ci;refine zg 8 rfl ?_;refine JS.BL 0 (NW (an.mono bj) ck) rfl rfl (Aw func185 rfl) cf rfl ?_;rintro _ cn _ co ⟨f123,rfl,rfl,bl⟩ bm;obtain⟨cp,cq,cr⟩:=bs cm;refine zg 15 rfl ?_;refine JL.Y rfl (fun ρ h=>Yl.Bb (h _ _ rfl) (h _ _ rfl) cq) ?_;obtain⟨ct,cu,cv⟩:=bs cr;refine zg 2 rfl ?_;refine JL.Y rfl (fun ρ h=>Yl.Bb (h _ _ rfl) (h _ _ rfl) cu) ?_;obtain⟨cw,cy,cz⟩:=bs cv;refine zg 6 rfl ?_;refine JL.Y (v:=iV cw) rfl (fun ρ h=>Yl.HV (h _ _ rfl) (h _ _ rfl) cy) ?_;obtain⟨ab,bn,cA⟩:=bs cz;refine zg 8 rfl ?_;refine JL.join (fun L s=>∃(ay:LH) (f138:Array Value),Jn cn H ay [[(K,.cells f138 133 (0,0))]] [(0,.slice (some ⟨K,0,none⟩) U O),(1,iV ab.1),(2,iV ab.2.1),(3,iV p3),(4,(.func (.func 134) #[] #[])),(10,.bool ab.2.2.1),(11,.bool bk.2.1)] L s (WL 133 BH ay K O U f138 (ab.2.2.2))) ?_ ?_
            ·rintro _ _ ⟨ay,f138,rfl,rfl,cB,cC,cD⟩;refine JL.outBlock ?_;exact JL.kw (bS _ _ ⟨(ab.1,ab.2.1,ab.2.2.1,bk.2.1,ab.2.2.2),ay,f138,(Option.some.inj cA).symm,rfl,rfl,((((((((aj.trans ar).trans a3).trans au).trans aw).trans cd).trans bj).trans co).trans cB),cC,cD⟩) rfl
            ·intro bo;refine JL.ifs (p:=cp<ct) rfl (fun aG=>?_) (fun aG=>?_)
             ·have cE:=ip bn aG;obtain⟨dT,cF,cG⟩:=bs cE;refine zg 14 rfl ?_;refine JS.BL 0 (Nb bl cF) rfl rfl (Aw func162 rfl) bm rfl ?_;rintro _ cH _ cI ⟨f150,rfl,rfl,cJ⟩ cK;obtain⟨dU,cM,cN⟩:=bs cG;refine zg 3 rfl ?_;refine JL.Y rfl (fun ρ h=>Yl.A0 (h _ _ rfl) (h _ _ rfl) cM) ?_;refine zg 2 rfl ?_;obtain rfl:=oi cN;exact JL.kw (bo _ _ ⟨cH,f150,rfl,rfl,cI,cK,cJ⟩) rfl
             ·have cO:=im bn aG;obtain⟨dV,cP,cQ⟩:=bs cO;refine zg 11 rfl ?_;refine JL.Y rfl (fun ρ h=>Yl.A0 (h _ _ rfl) (h _ _ rfl) cP) ?_;obtain⟨dW,cR,cT⟩:=bs cQ;refine zg 3 rfl ?_;refine JS.BL 0 (Nb bl cR) rfl rfl (Aw func162 rfl) bm rfl ?_;rintro _ cV _ cW ⟨f165,rfl,rfl,cX⟩ cY;refine zg 5 rfl ?_;obtain rfl:=oi cT;exact JL.kw (bo _ _ ⟨cV,f165,rfl,rfl,cW,cY,cX⟩) rfl
          ·intro bp;refine Av.BW (q:=0<A.1) (i:=83) rfl (fun aH=>?_) (fun aH=>?_)
           ·have cZ:=ip bg aH;refine JG.ms ht rfl [3,4,5] rfl ?_;obtain⟨dX,c0,c1⟩:=bs cZ;refine JG.V 6 ht rfl rfl (fun ρ h s' hs=>Yl.Bb (h _ _ rfl) (h _ _ rfl) c0) ?_;obtain⟨ah,bq,c2⟩:=bs c1;obtain⟨_,⟨_,_,rfl,rfl,⟨_,_,rfl,rfl,⟨br,bu,rfl,c3⟩⟩⟩,c4⟩:=WL.at an bq;refine JG.V 7 ht rfl rfl (fun ρ h s' hs=>Yl.Bg (an).2 bq underlying130 (Ag type133) (h _ _ rfl) (h _ _ rfl)) ?_;refine JG.V 8 ht rfl rfl (fun ρ h s' hs=>Yl.Bs (vs:= [iV ah.1,iV ah.2.1,.slice br (ah.2.2).length bu]) (Al underlying133) (Ag type133) (h _ _ rfl) (fun q w aI=>by rw [Bi rfl];exact Bl 0 am rfl (by simp [AH]) hs (c4 q w aI))) ?_;refine JG.ms ht rfl [9,10] rfl ?_;obtain⟨ai,bv,c5⟩:=bs c2;obtain⟨_,⟨_,_,rfl,rfl,⟨_,_,rfl,rfl,⟨bw,bx,rfl,c6⟩⟩⟩,c7⟩:=WL.at an bv;refine JG.V 11 ht rfl rfl (fun ρ h s' hs=>Yl.Bg (an).2 bv underlying130 (Ag type133) (h _ _ rfl) (h _ _ rfl)) ?_;refine JG.V 12 ht rfl rfl (fun ρ h s' hs=>Yl.Bs (vs:= [iV ai.1,iV ai.2.1,.slice bw (ai.2.2).length bx]) (Al underlying133) (Ag type133) (h _ _ rfl) (fun q w aI=>by rw [Bi rfl];exact Bl 0 am rfl (by simp [AH]) hs (c7 q w aI))) ?_;obtain⟨c8,c9,da⟩:=bs c5;refine JG.FC (i:=13) ⟨⟨0,_,rfl⟩,trivial⟩ (vs:= [.agg #[iV ah.1,iV ah.2.1,.slice br (ah.2.2).length bu],.agg #[iV ai.1,iV ai.2.1,.slice bw (ai.2.2).length bx]]) (EG c3 c6 c9) (by decide+kernel) rfl rfl rfl rfl (Aw func134 rfl) rfl am ?_;rintro _ db _ dc ⟨rfl,rfl⟩ dd;refine JG.mv 14 ht rfl rfl ?_;refine JG.V (v:= .bool (decide (¬(c8<0)))) 15 ht rfl rfl (fun ρ h s' hs=>Yl.Gw (h _ _ rfl)) ?_;refine JG.mv 16 ht rfl rfl ?_;obtain rfl:=oi da;refine Av.BU ?_ (bp _ _ ⟨db,rfl,rfl,dc,dd⟩);exact⟨rfl,rfl,rfl,rfl,rfl,rfl,rfl,rfl,rfl,rfl,trivial⟩
           ·have de:=im bg aH;refine JG.ms ht rfl [3,4,5,6,7,8,9,10,11,12,13,14,15,16] rfl ?_;obtain rfl:=oi de;refine Av.BU ?_ (bp _ _ ⟨al,rfl,rfl,(Le.refl _),am⟩);exact⟨rfl,rfl,rfl,rfl,rfl,rfl,rfl,rfl,rfl,rfl,trivial⟩
         ·intro bz;refine JL.split (t:=a9) rfl (fun aJ=>?_) (fun aJ=>?_)
          ·have df:=ip bc aJ;obtain⟨bA,dg,bB⟩:=bs df;refine zg 6 rfl ?_;refine JS.BL 0 (NR (a5.mono (au.trans aw)) dg) rfl rfl (Aw func183 rfl) bb rfl ?_;rintro _ dh _ bC ⟨f205,rfl,rfl,bD⟩ bE;refine JL.done ?_;refine JL.split (t:=bA.1) rfl (fun aK=>?_) (fun aK=>?_)
           ·have di:=ip bB aK;obtain rfl:=oi di;have dj:=elim_inl bd;obtain rfl:=oi dj;have dk:=elim_inl aB;obtain rfl:=oi dk;obtain rfl:=aU _ ap;have dl:=elim_inl aS;obtain rfl:=oi dl;refine JL.rt func162 rfl rfl ?_;exact aR _ _ _ _ ((((((aA.trans aj).trans ar).trans a3).trans au).trans aw).trans bC) rfl ⟨f205,rfl,(by first | rfl | simp | (simp [Value.cells])),bD⟩ bE
           ·have dm:=ib bB aK;refine JL.skip ?_;exact JL.kw (bz _ _ ⟨bA.2,dh,f205,(Option.some.inj dm).symm,rfl,rfl,bC,bE,bD⟩) rfl
          ·have dn:=ib bc aJ;refine JL.skip ?_;exact JL.kw (bz _ _ ⟨Z.2.2,av,f84,(Option.some.inj dn).symm,rfl,rfl,(Le.refl _),bb,(a5.mono (au.trans aw))⟩) rfl
        ·intro bF;refine JL.Cg (c:=a6) (i:=72) rfl (fun aL=>?_) (fun aL=>?_)
         ·have dp:=ip ba aL;refine zg 3 rfl ?_;obtain rfl:=oi dp;exact JL.kw (bF _ _ ⟨ak,rfl,rfl,(Le.refl _),a8⟩) rfl
         ·have dq:=ib ba aL;refine zg 3 rfl ?_;obtain rfl:=oi dq;exact JL.kw (bF _ _ ⟨ak,rfl,rfl,(Le.refl _),a8⟩) rfl
       ·intro bG;refine JL.Cg (c:=A.2.2.1) (i:=69) rfl (fun aM=>?_) (fun aM=>?_)
        ·have dr:=ip a7 aM;refine zg 2 rfl ?_;obtain rfl:=oi dr;exact JL.kw (bG _ _ ⟨ag,rfl,rfl,(Le.refl _),a4⟩) rfl
        ·have dt:=ib a7 aM;refine zg 2 rfl ?_;obtain rfl:=oi dt;exact JL.kw (bG _ _ ⟨ag,rfl,rfl,(Le.refl _),a4⟩) rfl
      ·intro bH;refine JL.ifs (p:=b6.2=2) rfl (fun aN=>?_) (fun aN=>?_)
       ·have du:=ip a2 aN;obtain⟨dY,dv,dw⟩:=bs du;refine zg 6 rfl ?_;refine JS.BL 0 (Nz (ao.mono (aj.trans ar)) dv) rfl rfl (Aw func182 rfl) a1 rfl ?_;rintro _ dx _ dy ⟨dz,rfl,rfl,dA⟩ dB;obtain⟨dZ,dC,dD⟩:=bs dw;refine zg 4 rfl ?_;refine JL.Y rfl (fun ρ h=>Yl.Bb (h _ _ rfl) (h _ _ rfl) dC) ?_;obtain⟨ea,dE,dF⟩:=bs dD;refine zg 2 rfl ?_;refine JL.Y rfl (fun ρ h=>Yl.Bb (h _ _ rfl) (h _ _ rfl) dE) ?_;obtain⟨eb,dG,dH⟩:=bs dF;refine JL.Y rfl (fun ρ h=>Yl.Bb (h _ _ rfl) (h _ _ rfl) dG) ?_;refine zg 5 rfl ?_;obtain rfl:=oi dH;exact JL.kw (bH _ _ ⟨dx,dz,rfl,rfl,dy,dB,dA⟩) rfl
       ·have dI:=im a2 aN;refine JL.skip ?_;obtain rfl:=oi dI;exact JL.kw (bH _ _ ⟨a0,f22,rfl,rfl,(Le.refl _),a1,(ao.mono (aj.trans ar))⟩) rfl
     ·intro dJ;refine JL.split (t:=(!A.2.2.1)) rfl (fun aO=>?_) (fun aO=>?_)
      ·have dK:=ip aY aO;refine zg 6 rfl ?_;cases dK
      ·have dL:=ib aY aO;refine JL.skip ?_;obtain rfl:=oi dL;exact JL.kw (dJ _ _ ⟨ae,rfl,rfl,(Le.refl _),aT⟩) rfl
def f133(fuel:Nat)(p0:List (A3)):Option ((List (A3))):=
 (f163 fuel (B6 ((p0).length:Int))).bind fun A=>
 (f162 fuel p0 0 ((p0).length:Int) A).bind fun K=>
 some K
theorem Sx{A:Nat}{K:Nat}{O:Nat}{U:Array Value}{p0:List (A3)}(hW:WL 133 BH E A K O U p0){fuel:Nat}{r:(List (A3))}(Z:f133 fuel p0=some r):Aq J 133 [.slice (some ⟨A,0,none⟩) O K,(.func (.func 134) #[] #[])] E [(A,.cells U 133 (0,0))] (fun w E' B'=>∃(aa:Array Value),w= .tuple #[]∧B'= [(A,.cells aa 133 (0,0))]∧WL 133 BH E' A K O aa (r)):=by
 refine Aq.en func133 rfl rfl fun Q ao cs H ac ae=>?_;unfold f133 at Z;refine zg 3 rfl ?_;refine JL.Y (v:=iV ((p0).length:Int)) rfl (fun ρ h=>Yl.OP (hW).2 rfl underlying130 (h _ _ rfl)) ?_;refine zg 6 rfl ?_;refine JL.Y (v:= .int .u64 ((B6 ((p0).length:Int):Nat):Int)) rfl (fun ρ h=>Yl.B6 underlying3 underlying156 (h _ _ rfl)) ?_;obtain⟨ap,ag,ah⟩:=bs Z;refine JS.cl (NV ag) rfl rfl (Aw func163 rfl) ac ?_;rintro _ aq _ ab ⟨rfl,rfl⟩ ai;obtain⟨ar,aj,ak⟩:=bs ah;refine zg 1 rfl ?_;refine JS.BL 0 (Tx (hW.mono ab) aj) rfl rfl (Aw func162 rfl) ai rfl ?_;rintro _ au _ al ⟨f12,rfl,rfl,am⟩ an;refine JL.done ?_;obtain rfl:=oi ak;refine JL.fin (v:= .tuple #[]) rfl rfl (Bx.list func133 rfl (vs:= []) trivial) ?_;exact ae _ _ _ _ (ab.trans al) rfl ⟨f12,rfl,(by first | rfl | simp | (simp [Value.cells])),am⟩ an
end Pal
namespace Pal
def Ad{α:Type}(o:Option α)(Q:α→Prop):Prop:=∃a,o=some a∧Q a
section
variable {α β:Type}{Q R:α→Prop}
theorem Ad.intro{a:α}(h:Q a):Ad (some a) Q:=⟨a,rfl,h⟩
theorem Ad.mono{o:Option α}(h:Ad o R)(k:∀a,R a→Q a):Ad o Q:=let ⟨a,A,K⟩:=h;⟨a,A,k a K⟩
theorem Ad.of_eq{o:Option α}{a:α}(h:o=some a)(k:Q a):Ad o Q:=⟨a,h,k⟩
theorem Ad.b{o:Option β}{f:β→Option α}{S:β→Prop}(h:Ad o S)(k:∀b,S b→Ad (f b) Q):Ad (o.bind f) Q:=by
 obtain⟨b,rfl,hb⟩:=h;obtain⟨a,A,K⟩:=k b hb;exact⟨a,A,K⟩
theorem Ad.be{o:Option β}{f:β→Option α}{b:β}(h:o=some b)(k:Ad (f b) Q):Ad (o.bind f) Q:=by subst h;exact k
theorem Ad.UE{f:Int→Option α}{x:Int}(A: -9223372036854775808≤x)(K:x≤9223372036854775807)(k:Ad (f x) Q):Ad ((Ax x).bind f) Q:=Ad.be (if_pos ⟨A,K⟩) k
theorem C6{xs:List β}{i:Int}{m:Nat}{b:β}(h:i=(m:Int))(hb:xs[m]? =some b):ix xs i=some b:=by subst h;simpa [ix] using hb
theorem Ad.Bo{f:β→Option α}{xs:List β}{i:Int}{m:Nat}(h:i=(m:Int))(hm:m<xs.length)(k:Ad (f xs[m]) Q):Ad ((ix xs i).bind f) Q:=Ad.be (C6 h (List.getElem?_eq_getElem hm)) k
theorem Ad.TK{f:List β→Option α}{xs:List β}{x:β}(h:xs.length+1≤2 ^ 40)(k:Ad (f (xs++ [x])) Q):Ad ((room xs x).bind f) Q:=Ad.be (if_pos h) k
theorem Ad.ite{c:Prop} [Decidable c] {x y:Option α}(A:c→Ad x Q)(K:¬c→Ad y Q):Ad (if c then x else y) Q:=by
 by_cases h:c
 ·rw [if_pos h];exact A h
 ·rw [if_neg h];exact K h
theorem Ad.pos{c:Prop} [Decidable c] {x y:Option α}(h:c)(k:Ad x Q):Ad (if c then x else y) Q:=by rw [if_pos h];exact k
theorem Ad.neg{c:Prop} [Decidable c] {x y:Option α}(h:¬c)(k:Ad y Q):Ad (if c then x else y) Q:=by rw [if_neg h];exact k
def A4.sat{S A:Type}(I:S→Prop)(Q:A→Prop):A4 S A→Prop
 | .more s=>I s
 | .done a=>Q a
theorem Ad.iter{S:Type}{body:S→Option (A4 S α)}(I:Nat→S→Prop)(round:∀m s,I m s→Ad (body s) (A4.sat (fun s'=>∃m',m'<m∧I m' s') Q)):
  ∀{m fuel:Nat} {s:S},I m s→m<fuel→Ad (iter body fuel s) Q:=by
 intro m
 induction m using Nat.strongRecOn with
 | _ m K=>
  intro fuel s O ab;obtain⟨fuel,rfl⟩:∃k,fuel=k+1:=⟨fuel - 1,by omega⟩;obtain⟨st,U,A⟩:=round m s O;unfold Pal.iter;rw [U];cases st with
  | more s'=>
   obtain⟨m',Z,aa⟩:=A;exact K m' Z aa (by omega)
  | done a=>exact⟨a,rfl,A⟩
end
end Pal
namespace Pal
open Go.Sort
abbrev PT:=Int×Int×(List (Int×(List Int)×Nat))
def AK(x y:PT):Bool:=decide (x.1<y.1)
theorem II:SWO AK:=⟨fun x=>by simp [AK],fun x y z A K=>by simp [AK] at*;omega,fun x y z A K=>by simp [AK] at*;omega⟩
def KO(xs:List PT):Prop:=∀x∈xs,0≤x.1∧x.1≤1000
theorem Hu{fuel:Nat}{x y:PT}(A:0≤x.1∧x.1≤1000)(K:0≤y.1∧y.1≤1000):f134 fuel x y=some (x.1 - y.1):=by
 unfold f134;rw [show Ax (x.1 - y.1)=some (x.1 - y.1) from if_pos (by omega)];rfl
theorem GL(x y:PT):decide (x.1 - y.1<0)=AK x y:=by unfold AK;congr 1;apply propext;omega
theorem KO.get{xs:List PT}(h:KO xs){i:Nat}(hi:i<xs.length):0≤xs[i].1∧xs[i].1≤1000:=h _ (List.getElem_mem hi)
theorem KO.set{xs:List PT}(h:KO xs){i:Nat}{x:PT}(A:0≤x.1∧x.1≤1000):KO (xs.set i x):=fun y K=>by
 rcases List.mem_or_eq_of_mem_set K with q | q
 ·exact h y q
 ·subst q;exact A
theorem Ge{xs:List PT}{i j:Nat}(hi:i<xs.length)(A:j<xs.length):((xs.set i xs[j]).set j xs[i]).toArray=swp xs.toArray i j:=by
 unfold swp;rw [show xs.toArray[j]! =xs[j] by simp [getElem!_pos,A],show xs.toArray[i]! =xs[i] by simp [getElem!_pos,hi]];simp
theorem Eo{xs:List PT}{i:Nat}(hi:i<xs.length):xs.toArray[i]! =xs[i]:=by simp [getElem!_pos,hi]
section
variable {α:Type}{Q:α→Prop}
theorem Ad.A6{f:Int→Option α}{x:Int}(y:Int)(h:x=y)(A: -9223372036854775808≤y)(K:y≤9223372036854775807)(k:Ad (f y) Q):Ad ((Ax x).bind f) Q:=by subst h;exact Ad.UE A K k
end
theorem Sb{F:Nat}(a:Nat):∀(j fuel:Nat) (xs:List PT),j<fuel→j<xs.length→xs.length<1000→KO xs→
  Ad (iter (GQ F (a:Int)) fuel ((j:Int),xs)) (fun ys=>ys.toArray=insInner AK a j xs.toArray∧KO ys∧ys.length=xs.length):=by
 intro j
 induction j with
 | zero=>
  intro fuel xs ac O aa A;obtain⟨fuel,rfl⟩:∃k,fuel=k+1:=⟨fuel - 1,by omega⟩;refine⟨xs,?_,rfl,A,rfl⟩;have ae:¬((a:Int)<0):=by omega
  simp [iter,GQ,ae]
 | succ j ag=>
  intro fuel xs ac O aa A;obtain⟨fuel,rfl⟩:∃k,fuel=k+1:=⟨fuel - 1,by omega⟩;have K:j<xs.length:=by omega
  have ah:Ad (GQ F (a:Int) (((j+1:Nat):Int),xs)) (fun st=>st=if(decide (j+1>a)&&AK xs[j+1] xs[j])=true then .more ((j:Int),(xs.set (j+1) xs[j]).set j xs[j+1]) else .done xs):=by
   unfold GQ;refine Ad.b (S:=fun c=>c=(decide (j+1>a)&&AK xs[j+1] xs[j])) ?_ ?_
   ·refine Ad.ite (fun h=>?_) (fun h=>?_)
    ·have Z:a<j+1:=by simp at h;omega
     refine Ad.Bo (m:=j+1) rfl O ?_;refine Ad.A6 (j:Int) (by simp) (by omega) (by omega) ?_;refine Ad.Bo (m:=j) rfl K ?_;refine Ad.be (Hu (A.get O) (A.get K)) ?_;refine Ad.intro ?_;rw [GL];simp [Z]
    ·have Z:¬a<j+1:=by simp at h;omega
     refine Ad.intro ?_;simp [Z]
   ·rintro c rfl;refine Ad.ite (fun h=>?_) (fun h=>?_)
    ·refine Ad.A6 (j:Int) (by simp) (by omega) (by omega) ?_;refine Ad.A6 (j:Int) (by simp) (by omega) (by omega) ?_;refine Ad.Bo (m:=j) rfl K ?_;refine Ad.Bo (m:=j+1) rfl O ?_;refine Ad.be (b:=(xs.set (j+1) xs[j])[j]'(by simpa using K)) (C6 rfl (List.getElem?_eq_getElem _)) ?_;refine Ad.A6 (j:Int) (by simp) (by omega) (by omega) ?_;refine Ad.intro ?_;rw [if_pos h];simp
    ·refine Ad.intro ?_;rw [if_neg h]
  obtain⟨st,ai,rfl⟩:=ah;unfold iter;rw [ai];have U:insInner AK a (j+1) xs.toArray=if(decide (j+1>a)&&AK xs[j+1] xs[j])=true then insInner AK a j (swp xs.toArray (j+1) j) else xs.toArray:=by
   rw [insInner,Eo O,Eo K]
  by_cases ab:(decide (j+1>a)&&AK xs[j+1] xs[j])=true
  ·rw [if_pos ab] at U ⊢;have aj:KO ((xs.set (j+1) xs[j]).set j xs[j+1]):=(A.set (A.get K)).set (A.get O);refine(ag fuel ((xs.set (j+1) xs[j]).set j xs[j+1]) (by omega) (by simpa using K) (by simpa using aa) aj).mono ?_;rintro ys ⟨ak,al,am⟩;refine⟨?_,al,by simpa using am⟩;rw [ak,Ge O K,U]
  ·rw [if_neg ab] at U ⊢;exact⟨xs,rfl,U.symm,A,rfl⟩
theorem Qv{F:Nat}(a b:Nat)(ah:2000<F):∀(m i fuel:Nat) (xs:List PT),b - i=m→m<fuel→b≤xs.length→xs.length<1000→KO xs→
  Ad (iter (Gh F (a:Int) (b:Int)) fuel ((i:Int),xs)) (fun ys=>ys.toArray=insOuter AK a b i xs.toArray∧KO ys∧ys.length=xs.length):=by
 intro m
 induction m with
 | zero=>
  intro i fuel xs hm Z hb U K;obtain⟨fuel,rfl⟩:∃k,fuel=k+1:=⟨fuel - 1,by omega⟩;have O:¬i<b:=by omega
  have A:Ad (Gh F (a:Int) (b:Int) ((i:Int),xs)) (fun st=>st= .done xs):=by
   unfold Gh;exact Ad.neg (show ¬(i:Int)<(b:Int) by omega) (Ad.intro rfl)
  obtain⟨st,A,rfl⟩:=A;unfold iter;rw [A];refine⟨xs,rfl,?_,K,rfl⟩;rw [insOuter,if_neg O]
 | succ m aa=>
  intro i fuel xs hm Z hb U K;obtain⟨fuel,rfl⟩:∃k,fuel=k+1:=⟨fuel - 1,by omega⟩;have O:i<b:=by omega
  obtain⟨ys,ab,ac,ae,ai⟩:=Sb (F:=F) a i F xs (by omega) (by omega) U K;have A:Ad (Gh F (a:Int) (b:Int) ((i:Int),xs)) (fun st=>st= .more (((i+1:Nat):Int),ys)):=by
   unfold Gh;refine Ad.pos (show(i:Int)<(b:Int) by omega) ?_;refine Ad.be ab ?_;refine Ad.A6 ((i+1:Nat):Int) (by simp) (by omega) (by omega) ?_;exact Ad.intro rfl
  obtain⟨st,A,rfl⟩:=A;unfold iter;rw [A];refine(aa (i+1) fuel ys (by omega) (by omega) (by omega) (by omega) ae).mono ?_;rintro aj ⟨k1,ag,ak⟩;refine⟨?_,ag,by omega⟩;rw [k1,ac,insOuter.eq_def AK a b i,if_pos O]
theorem MS{F a b:Nat}{xs:List PT}(A:2000<F)(hb:b≤xs.length)(K:xs.length<1000)(O:KO xs)(ab:a≤b):
  Ad (f178 F xs (a:Int) (b:Int)) (fun ys=>ys.toArray=insertionSort AK xs.toArray a b∧KO ys∧ys.length=xs.length):=by
 unfold f178;refine Ad.A6 ((a+1:Nat):Int) (by simp) (by omega) (by omega) ?_;refine Ad.b (Qv (F:=F) a b A (b - (a+1)) (a+1) F xs rfl (by omega) hb K O) ?_;rintro ys ⟨U,Z,aa⟩;exact⟨ys,rfl,U,Z,aa⟩
end Pal
namespace Pal
open Go.Sort
theorem Kd{F a b sw:Nat}{xs:List PT}(K:a<xs.length)(hb:b<xs.length)(hs:sw<1000)(U:xs.length<1000)(O:KO xs):
  f200 F xs (a:Int) (b:Int) (sw:Int)=some ((((order2 AK xs.toArray a b sw).1:Nat):Int),(((order2 AK xs.toArray a b sw).2.1:Nat):Int),(((order2 AK xs.toArray a b sw).2.2:Nat):Int)):=by
 have h:Ad (f200 F xs (a:Int) (b:Int) (sw:Int)) (fun r=>r=((((order2 AK xs.toArray a b sw).1:Nat):Int),(((order2 AK xs.toArray a b sw).2.1:Nat):Int),(((order2 AK xs.toArray a b sw).2.2:Nat):Int))):=by
  unfold f200;refine Ad.Bo (m:=b) rfl hb ?_;refine Ad.Bo (m:=a) rfl K ?_;refine Ad.be (Hu (O.get hb) (O.get K)) ?_;have e:order2 AK xs.toArray a b sw=if AK xs[b] xs[a] then(b,a,sw+1) else(a,b,sw):=by unfold order2;rw [Eo K,Eo hb]
  refine Ad.ite (fun h=>?_) (fun h=>?_)
  ·have A:AK xs[b] xs[a]=true:=by rw [← GL];exact decide_eq_true h
   refine Ad.A6 ((sw+1:Nat):Int) (by simp) (by omega) (by omega) ?_;refine Ad.intro ?_;rw [e,if_pos A]
  ·have A:¬AK xs[b] xs[a]=true:=by rw [← GL];simpa using h
   refine Ad.intro ?_;rw [e,if_neg A]
 obtain⟨r,A,rfl⟩:=h;exact A
theorem LZ{n a b sw:Nat}{d:Array PT}(A:a<n)(hb:b<n):(order2 AK d a b sw).1<n∧(order2 AK d a b sw).2.1<n∧(order2 AK d a b sw).2.2≤sw+1:=by
 unfold order2;split
 ·exact⟨hb,A,Nat.le_refl _⟩
 ·exact⟨A,hb,Nat.le_succ _⟩
theorem RB{F a b c sw:Nat}{xs:List PT}(O:a<xs.length)(hb:b<xs.length)(U:c<xs.length)(hs:sw<900)(A:xs.length<1000)(K:KO xs):
  f197 F xs (a:Int) (b:Int) (c:Int) (sw:Int)=some ((((median AK xs.toArray a b c sw).1:Nat):Int),(((median AK xs.toArray a b c sw).2:Nat):Int)):=by
 unfold f197 median;obtain⟨aa,Z,ac⟩:=LZ (sw:=sw) (d:=xs.toArray) O hb;rw [Kd O hb (by omega) A K];simp only [Option.bind_some];obtain⟨ab,ae,ag⟩:=LZ (sw:=(order2 AK xs.toArray a b sw).2.2) (d:=xs.toArray) Z U;rw [Kd Z U (by omega) A K];simp only [Option.bind_some];rw [Kd aa ab (by omega) A K];simp only [Option.bind_some]
def F4:Hint→Int | .unknown=>0 | .increasing=>1 | .decreasing=>2
theorem Ad.quo{α:Type}{Q:α→Prop}{f:Int→Option α}{x:Int}(m k:Nat)(A:x=(m:Int))(hm:m<1000)(K:0<k)(h:Ad (f ((m / k:Nat):Int)) Q):Ad ((Fj x (k:Int)).bind f) Q:=by
 subst A;refine Ad.be ?_ h;unfold Fj;rw [if_neg (by omega)];have e:((m:Int).tdiv (k:Int))=((m / k:Nat):Int):=by rw [Int.tdiv_eq_ediv_of_nonneg (by omega)];rfl
 have hle:m / k≤m:=Nat.div_le_self _ _;rw [e];generalize m / k=z at hle ⊢;exact if_pos (by omega)
theorem RI{F a b:Nat}{xs:List PT}(ah:a+8≤b)(ai:b<a+50)(hb:b≤xs.length)(aa:xs.length<1000)(ab:KO xs):
  f181 F xs (a:Int) (b:Int)=some ((((choosePivot AK xs.toArray a b).1:Nat):Int),F4 (choosePivot AK xs.toArray a b).2):=by
 have h:Ad (f181 F xs (a:Int) (b:Int)) (fun r=>r=((((choosePivot AK xs.toArray a b).1:Nat):Int),F4 (choosePivot AK xs.toArray a b).2)):=by
  unfold f181;have aj:(b - a) / 4≤b - a:=Nat.div_le_self _ _;have ak:(b - a) / 4*3<b - a:=by omega
  refine Ad.A6 ((b - a:Nat):Int) (by omega) (by omega) (by omega) ?_;refine Ad.quo (b - a) 4 rfl (by omega) (by omega) ?_;refine Ad.A6 (((b - a) / 4*1:Nat):Int) (by push_cast;rfl) (by omega) (by omega) ?_;refine Ad.A6 ((a+(b - a) / 4*1:Nat):Int) (by push_cast;rfl) (by omega) (by omega) ?_;refine Ad.quo (b - a) 4 rfl (by omega) (by omega) ?_;refine Ad.A6 (((b - a) / 4*2:Nat):Int) (by push_cast;rfl) (by omega) (by omega) ?_;refine Ad.A6 ((a+(b - a) / 4*2:Nat):Int) (by push_cast;rfl) (by omega) (by omega) ?_;refine Ad.quo (b - a) 4 rfl (by omega) (by omega) ?_;refine Ad.A6 (((b - a) / 4*3:Nat):Int) (by push_cast;rfl) (by omega) (by omega) ?_;refine Ad.A6 ((a+(b - a) / 4*3:Nat):Int) (by push_cast;rfl) (by omega) (by omega) ?_;have ac:choosePivot AK xs.toArray a b=((median AK xs.toArray (a+(b - a) / 4*1) (a+(b - a) / 4*2) (a+(b - a) / 4*3) 0).1,if(median AK xs.toArray (a+(b - a) / 4*1) (a+(b - a) / 4*2) (a+(b - a) / 4*3) 0).2=0 then .increasing else if(median AK xs.toArray (a+(b - a) / 4*1) (a+(b - a) / 4*2) (a+(b - a) / 4*3) 0).2=12 then .decreasing else .unknown):=by
   unfold choosePivot;simp only;rw [if_pos (by omega),if_neg (by omega)]
  rw [ac];generalize ae:median AK xs.toArray (a+(b - a) / 4*1) (a+(b - a) / 4*2) (a+(b - a) / 4*3) 0=A;refine Ad.b (S:=fun r=>r=(((A.1:Nat):Int),((A.2:Nat):Int))) ?_ ?_
  ·refine Ad.pos (by omega) ?_;refine Ad.b (S:=fun _=>True) (Ad.neg (by omega) (Ad.intro trivial)) fun _ _=>?_;have Z:=RB (F:=F) (a:=a+(b - a) / 4*1) (b:=a+(b - a) / 4*2) (c:=a+(b - a) / 4*3) (sw:=0) (xs:=xs) (by omega) (by omega) (by omega) (by omega) aa ab;rw [ae] at Z;exact Ad.be Z (Ad.intro rfl)
  ·rintro r rfl;refine Ad.ite (fun h=>?_) (fun h=>?_)
   ·have K:A.2=0:=by simp at h;omega
    rw [if_pos K];exact Ad.intro rfl
   ·have K:¬A.2=0:=by simp at h;omega
    rw [if_neg K];refine Ad.ite (fun O=>?_) (fun O=>?_)
    ·have U:A.2=12:=by simp at O;omega
     rw [if_pos U];exact Ad.intro rfl
    ·have U:¬A.2=12:=by simp at O;omega
     rw [if_neg U];exact Ad.intro rfl
 obtain⟨r,ag,rfl⟩:=h;exact ag
theorem RS{F:Nat}:∀(m i j fuel:Nat) (xs:List PT),j - i≤m→m<fuel→(i<j→j<xs.length)→i≤xs.length→j≤xs.length→xs.length<1000→KO xs→
  Ad (iter (Fy F) fuel ((i:Int),(j:Int),xs)) (fun ys=>ys.toArray=reverseLoop i j xs.toArray∧KO ys∧ys.length=xs.length):=by
 intro m
 induction m with
 | zero=>
  intro i j fuel xs hm ac aa hi ae ab A;obtain⟨fuel,rfl⟩:∃k,fuel=k+1:=⟨fuel - 1,by omega⟩;have K:¬i<j:=by omega
  have O:Ad (Fy F ((i:Int),(j:Int),xs)) (fun st=>st= .done xs):=by
   unfold Fy;exact Ad.neg (show ¬(i:Int)<(j:Int) by omega) (Ad.intro rfl)
  obtain⟨st,hb,rfl⟩:=O;unfold iter;rw [hb];refine⟨xs,rfl,?_,A,rfl⟩;rw [reverseLoop,if_neg K]
 | succ m ag=>
  intro i j fuel xs hm ac aa hi ae ab A;obtain⟨fuel,rfl⟩:∃k,fuel=k+1:=⟨fuel - 1,by omega⟩;by_cases K:i<j
  ·have U:=aa K;have Z:i<xs.length:=by omega
   have O:Ad (Fy F ((i:Int),(j:Int),xs)) (fun st=>st= .more (((i+1:Nat):Int),((j - 1:Nat):Int),(xs.set i xs[j]).set j xs[i])):=by
    unfold Fy;refine Ad.pos (show(i:Int)<(j:Int) by omega) ?_;refine Ad.Bo (m:=j) rfl U ?_;refine Ad.Bo (m:=i) rfl Z ?_;refine Ad.A6 ((i+1:Nat):Int) (by simp) (by omega) (by omega) ?_;refine Ad.A6 ((j - 1:Nat):Int) (by simp;omega) (by omega) (by omega) ?_;exact Ad.intro rfl
   obtain⟨st,hb,rfl⟩:=O;unfold iter;rw [hb];refine(ag (i+1) (j - 1) fuel ((xs.set i xs[j]).set j xs[i]) (by omega) (by omega) (by simp;omega) (by simp;omega) (by simp;omega) (by simpa using ab) ((A.set (A.get U)).set (A.get Z))).mono ?_;rintro ys ⟨ah,ai,aj⟩;refine⟨?_,ai,by simpa using aj⟩;rw [ah,Ge Z U,reverseLoop.eq_def i j,if_pos K]
  ·have O:Ad (Fy F ((i:Int),(j:Int),xs)) (fun st=>st= .done xs):=by
    unfold Fy;exact Ad.neg (show ¬(i:Int)<(j:Int) by omega) (Ad.intro rfl)
   obtain⟨st,hb,rfl⟩:=O;unfold iter;rw [hb];refine⟨xs,rfl,?_,A,rfl⟩;rw [reverseLoop,if_neg K]
theorem RL{F a b:Nat}{xs:List PT}(O:2000<F)(U:a<b)(hb:b≤xs.length)(A:xs.length<1000)(K:KO xs):
  Ad (f182 F xs (a:Int) (b:Int)) (fun ys=>ys.toArray=reverseRange xs.toArray a b∧KO ys∧ys.length=xs.length):=by
 unfold f182 reverseRange;refine Ad.A6 ((b - 1:Nat):Int) (by omega) (by omega) (by omega) ?_;refine Ad.b (RS (F:=F) (b - 1 - a) a (b - 1) F xs (by omega) (by omega) (by omega) (by omega) (by omega) A K) ?_;rintro ys h;exact⟨ys,rfl,h⟩
theorem Rq{F b q1:Nat}{xs:List PT}(q2:Int)(hb:b≤xs.length)(ag:xs.length<1000)(aa:KO xs):∀(m i fuel:Nat),b - i≤m→m<fuel→1≤i→
  Ad (iter (Gg F (b:Int) (((q1:Nat):Int),q2,xs)) fuel (i:Int)) (fun r=>r=((scanSorted AK xs.toArray b i:Nat):Int)):=by
 intro m
 induction m with
 | zero=>
  intro i fuel hm ae hi;obtain⟨fuel,rfl⟩:∃k,fuel=k+1:=⟨fuel - 1,by omega⟩;have A:¬i<b:=by omega
  have K:Ad (Gg F (b:Int) (((q1:Nat):Int),q2,xs) (i:Int)) (fun st=>st= .done (i:Int)):=by
   unfold Gg;refine Ad.b (S:=fun c=>c=false) (Ad.neg (by omega) (Ad.intro rfl)) ?_;rintro c rfl;exact Ad.neg (by simp) (Ad.intro rfl)
  obtain⟨st,O,rfl⟩:=K;unfold iter;rw [O];refine⟨_,rfl,?_⟩;rw [scanSorted,if_neg (by simp [A])]
 | succ m ab=>
  intro i fuel hm ae hi;obtain⟨fuel,rfl⟩:∃k,fuel=k+1:=⟨fuel - 1,by omega⟩;by_cases A:i<b
  ·have U:i<xs.length:=by omega
   have Z:i - 1<xs.length:=by omega
   have K:Ad (Gg F (b:Int) (((q1:Nat):Int),q2,xs) (i:Int)) (fun st=>st=if(!AK xs[i] xs[i-1])=true then .more ((i+1:Nat):Int) else .done (i:Int)):=by
    unfold Gg;refine Ad.b (S:=fun c=>c= !AK xs[i] xs[i-1]) ?_ ?_
    ·refine Ad.pos (by omega) ?_;refine Ad.Bo (m:=i) rfl U ?_;refine Ad.A6 ((i - 1:Nat):Int) (by omega) (by omega) (by omega) ?_;refine Ad.Bo (m:=i - 1) rfl Z ?_;refine Ad.be (Hu (aa.get U) (aa.get Z)) ?_;refine Ad.intro ?_;rw [← GL];exact decide_not
    ·rintro c rfl;refine Ad.ite (fun h=>?_) (fun h=>?_)
     ·refine Ad.A6 ((i+1:Nat):Int) (by simp) (by omega) (by omega) ?_;rw [if_pos h];exact Ad.intro rfl
     ·rw [if_neg h];exact Ad.intro rfl
   obtain⟨st,O,rfl⟩:=K;unfold iter;rw [O];have hs:scanSorted AK xs.toArray b i=if(!AK xs[i] xs[i-1])=true then scanSorted AK xs.toArray b (i+1) else i:=by
    rw [scanSorted.eq_def AK xs.toArray b i,Eo U,Eo Z];simp [A]
   by_cases ac:(!AK xs[i] xs[i-1])=true
   ·rw [if_pos ac] at hs ⊢;rw [hs];exact ab (i+1) fuel (by omega) (by omega) (by omega)
   ·rw [if_neg ac] at hs ⊢;exact⟨_,rfl,by rw [hs]⟩
  ·exact ab i (fuel+1) (by omega) (by omega) hi
theorem RX{F a b:Nat}{xs:List PT}(ab:2000<F)(ac:a<b)(ae:b<a+50)(hb:b≤xs.length)(K:xs.length<1000)(O:KO xs):
  f183 F xs (a:Int) (b:Int)=some ((partialInsertionSort AK xs.toArray a b).2,xs)∧(partialInsertionSort AK xs.toArray a b).1=xs.toArray:=by
 have e:partialInsertionSort AK xs.toArray a b=if scanSorted AK xs.toArray b (a+1)=b then(xs.toArray,true) else(xs.toArray,false):=by
  unfold partialInsertionSort partialIns;simp only;split
  ·rfl
  ·rw [if_pos (by omega)]
 have h:Ad (f183 F xs (a:Int) (b:Int)) (fun r=>r=((partialInsertionSort AK xs.toArray a b).2,xs)):=by
  unfold f183;refine Ad.A6 ((a+1:Nat):Int) (by simp) (by omega) (by omega) ?_;refine Ad.b (S:=fun r=>r=Sum.inl ((partialInsertionSort AK xs.toArray a b).2,xs)) ?_ ?_
  ·obtain⟨A,rfl⟩:∃k,F=k+1:=⟨F - 1,by omega⟩;have U:Ad (IA (A+1) (a:Int) (b:Int) (((a+1:Nat):Int),0,xs)) (fun st=>st= .done (Sum.inl ((partialInsertionSort AK xs.toArray a b).2,xs))):=by
    unfold IA;refine Ad.pos (show(0:Int)<5 by omega) ?_;refine Ad.b (Rq (F:=A+1) (q1:=a+1) 0 hb K O (b - (a+1)) (a+1) (A+1) (by omega) (by omega) (by omega)) ?_;rintro r rfl;rw [e];refine Ad.ite (fun h=>?_) (fun h=>?_)
    ·rw [if_pos (by omega)];exact Ad.intro rfl
    ·rw [if_neg (by omega)];refine Ad.A6 ((b - a:Nat):Int) (by omega) (by omega) (by omega) ?_;exact Ad.pos (by omega) (Ad.intro rfl)
   obtain⟨st,Z,rfl⟩:=U;unfold iter;rw [Z];exact⟨_,rfl,rfl⟩
  ·rintro r rfl;exact Ad.intro rfl
 obtain⟨r,aa,rfl⟩:=h;refine⟨aa,?_⟩;rw [e];split <;> rfl
end Pal
namespace Pal
open Go.Sort
theorem LO{body:Int→Option (A4 Int Int)}{d:Array PT}{p:PT→Bool}{j:Nat}(U:j<900)
  (h:∀i:Nat,i≤j+2→body (i:Int)=some (if(decide (i≤j)&&p d[i]!)=true then .more ((i+1:Nat):Int) else .done (i:Int))):
  ∀(m i fuel:Nat),j+1 - i≤m→m<fuel→i≤j+2→iter body fuel (i:Int)=some ((scanUp p d j i:Nat):Int):=by
 intro m
 induction m with
 | zero=>
  intro i fuel hm K hi;obtain⟨fuel,rfl⟩:∃k,fuel=k+1:=⟨fuel - 1,by omega⟩;have A:¬(decide (i≤j)&&p d[i]!)=true:=by simp;omega
  unfold iter;rw [h i hi,if_neg A,scanUp,if_neg A]
 | succ m O=>
  intro i fuel hm K hi;obtain⟨fuel,rfl⟩:∃k,fuel=k+1:=⟨fuel - 1,by omega⟩;unfold iter;rw [h i hi,scanUp];by_cases A:(decide (i≤j)&&p d[i]!)=true
  ·rw [if_pos A,if_pos A];have:i≤j:=by simp at A;exact A.1
   exact O (i+1) fuel (by omega) (by omega) (by omega)
  ·rw [if_neg A,if_neg A]
theorem Ly{body:Int→Option (A4 Int Int)}{d:Array PT}{p:PT→Bool}{i:Nat}(hi:1≤i){n:Nat}
  (h:∀j:Nat,j<n→body (j:Int)=some (if(decide (i≤j)&&p d[j]!)=true then .more ((j - 1:Nat):Int) else .done (j:Int))):
  ∀(j fuel:Nat),j<n→j<fuel→iter body fuel (j:Int)=some ((scanDown p d i j:Nat):Int):=by
 intro j
 induction j with
 | zero=>
  intro fuel K O;obtain⟨fuel,rfl⟩:∃k,fuel=k+1:=⟨fuel - 1,by omega⟩;have A:¬(decide (i≤0)&&p d[0]!)=true:=by simp;omega
  unfold iter;rw [h 0 K,if_neg A];rfl
 | succ j U=>
  intro fuel K O;obtain⟨fuel,rfl⟩:∃k,fuel=k+1:=⟨fuel - 1,by omega⟩;unfold iter;rw [h (j+1) K,scanDown];by_cases A:(decide (i≤j+1)&&p d[j+1]!)=true
  ·rw [if_pos A,if_pos A];exact U fuel (by omega) (by omega)
  ·rw [if_neg A,if_neg A]
theorem Ad.H3{α:Type}{o:Option α}{a:α}(h:Ad o (fun x=>x=a)):o=some a:=by obtain⟨x,A,rfl⟩:=h;exact A
theorem Nc{F a:Nat}{q2:Int}{j:Nat}{q1:Int}{ys:List PT}(A:a<ys.length)(Z:j<ys.length)(aa:ys.length<900)(U:KO ys)(i:Nat)(hi:i≤j+2):
  GM F (a:Int) (q1,(j:Int),ys) (i:Int)=some (if(decide (i≤j)&&AK ys.toArray[i]! ys.toArray[a]!)=true then .more ((i+1:Nat):Int) else .done (i:Int)):=by
 refine Ad.H3 ?_;unfold GM;refine Ad.b (S:=fun c=>c=(decide (i≤j)&&AK ys.toArray[i]! ys.toArray[a]!)) ?_ ?_
 ·refine Ad.ite (fun h=>?_) (fun h=>?_)
  ·have K:i≤j:=by simp at h;omega
   have O:i<ys.length:=by omega
   refine Ad.Bo (m:=i) rfl O ?_;refine Ad.Bo (m:=a) rfl A ?_;refine Ad.be (Hu (U.get O) (U.get A)) ?_;refine Ad.intro ?_;rw [GL,Eo O,Eo A];simp [K]
  ·have K:¬i≤j:=by simp at h;omega
   refine Ad.intro ?_;simp [K]
 ·rintro c rfl;refine Ad.ite (fun h=>?_) (fun h=>?_)
  ·refine Ad.A6 ((i+1:Nat):Int) (by simp) (by omega) (by omega) ?_;rw [if_pos h];exact Ad.intro rfl
  ·rw [if_neg h];exact Ad.intro rfl
theorem Mf{F a i:Nat}{q1 q2:Int}{ys:List PT}(K:a<ys.length)(Z:ys.length<900)(U:KO ys)(hi:1≤i)(j:Nat)(O:j<ys.length):
  GN F (a:Int) (q1,q2,ys) (i:Int) (j:Int)=some (if(decide (i≤j)&& !AK ys.toArray[j]! ys.toArray[a]!)=true then .more ((j - 1:Nat):Int) else .done (j:Int)):=by
 refine Ad.H3 ?_;unfold GN;refine Ad.b (S:=fun c=>c=(decide (i≤j)&& !AK ys.toArray[j]! ys.toArray[a]!)) ?_ ?_
 ·refine Ad.ite (fun h=>?_) (fun h=>?_)
  ·have A:i≤j:=by omega
   refine Ad.Bo (m:=j) rfl O ?_;refine Ad.Bo (m:=a) rfl K ?_;refine Ad.be (Hu (U.get O) (U.get K)) ?_;refine Ad.intro ?_;rw [Eo O,Eo K,← GL,← decide_not];simp [A]
  ·have A:¬i≤j:=by omega
   refine Ad.intro ?_;simp [A]
 ·rintro c rfl;refine Ad.ite (fun h=>?_) (fun h=>?_)
  ·have A:i≤j:=by simp at h;exact h.1
   refine Ad.A6 ((j - 1:Nat):Int) (by omega) (by omega) (by omega) ?_;rw [if_pos h];exact Ad.intro rfl
  ·rw [if_neg h];exact Ad.intro rfl
theorem RN{F a b:Nat}(aw:2000<F)(ay:a<b):∀(m i j fuel:Nat) (ys:List PT),j+1 - i≤m→m<fuel→a<i→i≤j+2→j<b→b≤ys.length→ys.length<900→KO ys→
  Ad (iter (Gi F (a:Int)) fuel ((i:Int),(j:Int),ys)) (fun r=>r.1=(((partLoop AK a i j ys.toArray).1:Nat):Int)∧r.2.toArray=(partLoop AK a i j ys.toArray).2∧KO r.2∧r.2.length=ys.length):=by
 intro m
 induction m with
 | zero=>?_
 | succ m ak=>?_
 all_goals
  intro i j fuel ys hm az aA al aB hb U O;obtain⟨fuel,rfl⟩:∃k,fuel=k+1:=⟨fuel - 1,by omega⟩;have ag:a<ys.length:=by omega
  have ah:j<ys.length:=by omega
  have Z:iter (GM F (a:Int) ((i:Int),(j:Int),ys)) F (i:Int)=some ((scanUp (fun x=>AK x ys.toArray[a]!) ys.toArray j i:Nat):Int):=
   LO (by omega) (fun am an=>Nc (q2:=0) ag ah U O am an) (j+1 - i) i F (by omega) (by omega) al
  have ao:=scanUp_ge (fun x=>AK x ys.toArray[a]!) ys.toArray j i;have ap:=scanUp_spec (fun x=>AK x ys.toArray[a]!) ys.toArray j _ i rfl;have K:=partLoop_eq AK a i j ys.toArray;generalize aC:scanUp (fun x=>AK x ys.toArray[a]!) ys.toArray j i=i2 at Z ao ap K;have aa:iter (GN F (a:Int) ((i:Int),(j:Int),ys) (i2:Int)) F (j:Int)=some ((scanDown (fun x=> !AK x ys.toArray[a]!) ys.toArray i2 j:Nat):Int):=
   Ly (n:=ys.length) (by omega) (fun aq ar=>Mf ag U O (by omega) aq ar) j F ah (by omega)
  have hle:=scanDown_le (fun x=> !AK x ys.toArray[a]!) ys.toArray i2 j;generalize aD:scanDown (fun x=> !AK x ys.toArray[a]!) ys.toArray i2 j=A at aa hle K;by_cases ai:i2>A
  ·have ab:Gi F (a:Int) ((i:Int),(j:Int),ys)=some (.done ((A:Int),ys)):=by
    refine Ad.H3 ?_;unfold Gi;refine Ad.be Z ?_;refine Ad.be aa ?_;exact Ad.pos (by omega) (Ad.intro rfl)
   unfold iter;rw [ab];rw [if_pos ai] at K;exact⟨_,rfl,by rw [K],by rw [K],O,rfl⟩
  ·first
    | (exfalso;omega)
    | (
     have ac:i2<ys.length:=by omega
     have ae:A<ys.length:=by omega
     have ab:Gi F (a:Int) ((i:Int),(j:Int),ys)=some (.more (((i2+1:Nat):Int),((A - 1:Nat):Int),(ys.set i2 ys[A]).set A ys[i2])):=by
      refine Ad.H3 ?_
      unfold Gi
      refine Ad.be Z ?_
      refine Ad.be aa ?_
      refine Ad.neg (by omega) ?_
      refine Ad.Bo (m:=A) rfl ae ?_
      refine Ad.Bo (m:=i2) rfl ac ?_
      refine Ad.A6 ((i2+1:Nat):Int) (by simp) (by omega) (by omega) ?_
      refine Ad.A6 ((A - 1:Nat):Int) (by omega) (by omega) (by omega) ?_
      exact Ad.intro rfl
     unfold iter;rw [ab]
     rw [if_neg ai] at K
     refine(ak (i2+1) (A - 1) fuel ((ys.set i2 ys[A]).set A ys[i2]) (by omega) (by omega) (by omega) (by omega) (by omega) (by simpa using hb) (by simpa using U) ((O.set (O.get ae)).set (O.get ac))).mono ?_
     rintro r ⟨k1,aj,au,av⟩
     rw [Ge ac ae,← K] at k1 aj
     exact⟨k1,aj,au,by simpa using av⟩)
theorem QU{F a:Nat}{j p3:Nat}{xs ys:List PT}{A K:PT}(he:(xs.set a A).set p3 K=ys)(O:a<ys.length)(U:j<ys.length)(Z:ys.length<900)(aa:KO ys)(i:Nat)(hi:i≤j+2):
  Hs F xs (a:Int) (p3:Int) A K (j:Int) (i:Int)=some (if(decide (i≤j)&&AK ys.toArray[i]! ys.toArray[a]!)=true then .more ((i+1:Nat):Int) else .done (i:Int)):=by
 rw [← Nc (F:=F) (q1:=0) (q2:=0) O U Z aa i hi];unfold Hs GM;simp only [Int.toNat_natCast,he]
theorem PD{F a i p3:Nat}{xs ys:List PT}{A K:PT}(he:(xs.set a A).set p3 K=ys)(O:a<ys.length)(U:ys.length<900)(Z:KO ys)(hi:1≤i)(j:Nat)(aa:j<ys.length):
  Ht F xs (a:Int) (p3:Int) A K (i:Int) (j:Int)=some (if(decide (i≤j)&& !AK ys.toArray[j]! ys.toArray[a]!)=true then .more ((j - 1:Nat):Int) else .done (j:Int)):=by
 rw [← Mf (F:=F) (q1:=0) (q2:=0) O U Z hi j aa];unfold Ht GN;simp only [Int.toNat_natCast,he]
theorem Pn(a:Nat):∀(n i j:Nat) (d:Array PT),j+1 - i≤n→(partLoop AK a i j d).1≤j:=by
  intro n
  induction n with
  | zero=>?_
  | succ n U=>?_
  all_goals
    intro i j d aa;have A:=partLoop_eq AK a i j d;have Z:=scanUp_ge (fun x=>AK x d[a]!) d j i;generalize ab:scanUp (fun x=>AK x d[a]!) d j i=i2 at Z A;have hle:=scanDown_le (fun x=> !AK x d[a]!) d i2 j;generalize ac:scanDown (fun x=> !AK x d[a]!) d i2 j=K at hle A;by_cases O:i2>K
    ·rw [A,if_pos O];exact hle
    ·first
        | (exfalso;omega)
        | (rw [A,if_neg O]
           have:=U (i2+1) (K - 1) (swp d i2 K) (by omega)
           omega)
theorem Rr{F a b pv:Nat}(aq:2000<F){xs:List PT}(aD:a≤pv)(aE:pv<b)(hb:b≤xs.length)(aF:xs.length<900)(ac:KO xs):
  Ad (f185 F xs (a:Int) (b:Int) (pv:Int)) (fun r=>r.1=(((partition AK xs.toArray a b pv).1:Nat):Int)∧r.2.1=(partition AK xs.toArray a b pv).2.1∧r.2.2.toArray=(partition AK xs.toArray a b pv).2.2∧KO r.2.2∧r.2.2.length=xs.length):=by
 have ae:a<xs.length:=by omega
 have ag:pv<xs.length:=by omega
 obtain⟨ys,U⟩:∃ys,(xs.set a xs[pv]).set pv xs[a]=ys:=⟨_,rfl⟩;have K:KO ys:=by rw [← U];exact(ac.set (ac.get ag)).set (ac.get ae)
 have an:ys.length=xs.length:=by rw [← U];simp
 have ar:ys.toArray=swp xs.toArray a pv:=by rw [← U,Ge ae ag]
 have aa:a<ys.length:=by omega
 have ao:b - 1<ys.length:=by omega
 unfold f185;refine Ad.Bo (m:=pv) rfl ag ?_;refine Ad.Bo (m:=a) rfl ae ?_;refine Ad.A6 ((a+1:Nat):Int) (by simp) (by omega) (by omega) ?_;refine Ad.A6 ((b - 1:Nat):Int) (by omega) (by omega) (by omega) ?_;have au:iter (Hs F xs (a:Int) (pv:Int) xs[pv] xs[a] ((b - 1:Nat):Int)) F ((a+1:Nat):Int)=some ((scanUp (fun x=>AK x ys.toArray[a]!) ys.toArray (b - 1) (a+1):Nat):Int):=
  LO (by omega) (fun av aw=>QU U aa ao (by omega) K av aw) (b - 1+1 - (a+1)) (a+1) F (by omega) (by omega) (by omega)
 refine Ad.be au ?_;have ay:=scanUp_ge (fun x=>AK x ys.toArray[a]!) ys.toArray (b - 1) (a+1);have O:partition AK xs.toArray a b pv=if scanUp (fun x=>AK x ys.toArray[a]!) ys.toArray (b - 1) (a+1)>scanDown (fun x=> !AK x ys.toArray[a]!) ys.toArray (scanUp (fun x=>AK x ys.toArray[a]!) ys.toArray (b - 1) (a+1)) (b - 1) then
   (scanDown (fun x=> !AK x ys.toArray[a]!) ys.toArray (scanUp (fun x=>AK x ys.toArray[a]!) ys.toArray (b - 1) (a+1)) (b - 1),true,swp ys.toArray (scanDown (fun x=> !AK x ys.toArray[a]!) ys.toArray (scanUp (fun x=>AK x ys.toArray[a]!) ys.toArray (b - 1) (a+1)) (b - 1)) a) else
   ((partLoop AK a (scanUp (fun x=>AK x ys.toArray[a]!) ys.toArray (b - 1) (a+1)+1) (scanDown (fun x=> !AK x ys.toArray[a]!) ys.toArray (scanUp (fun x=>AK x ys.toArray[a]!) ys.toArray (b - 1) (a+1)) (b - 1) - 1) (swp ys.toArray (scanUp (fun x=>AK x ys.toArray[a]!) ys.toArray (b - 1) (a+1)) (scanDown (fun x=> !AK x ys.toArray[a]!) ys.toArray (scanUp (fun x=>AK x ys.toArray[a]!) ys.toArray (b - 1) (a+1)) (b - 1)))).1,false,
    swp (partLoop AK a (scanUp (fun x=>AK x ys.toArray[a]!) ys.toArray (b - 1) (a+1)+1) (scanDown (fun x=> !AK x ys.toArray[a]!) ys.toArray (scanUp (fun x=>AK x ys.toArray[a]!) ys.toArray (b - 1) (a+1)) (b - 1) - 1) (swp ys.toArray (scanUp (fun x=>AK x ys.toArray[a]!) ys.toArray (b - 1) (a+1)) (scanDown (fun x=> !AK x ys.toArray[a]!) ys.toArray (scanUp (fun x=>AK x ys.toArray[a]!) ys.toArray (b - 1) (a+1)) (b - 1)))).2
     (partLoop AK a (scanUp (fun x=>AK x ys.toArray[a]!) ys.toArray (b - 1) (a+1)+1) (scanDown (fun x=> !AK x ys.toArray[a]!) ys.toArray (scanUp (fun x=>AK x ys.toArray[a]!) ys.toArray (b - 1) (a+1)) (b - 1) - 1) (swp ys.toArray (scanUp (fun x=>AK x ys.toArray[a]!) ys.toArray (b - 1) (a+1)) (scanDown (fun x=> !AK x ys.toArray[a]!) ys.toArray (scanUp (fun x=>AK x ys.toArray[a]!) ys.toArray (b - 1) (a+1)) (b - 1)))).1 a):=by
  rw [ar];rfl
 generalize aG:scanUp (fun x=>AK x ys.toArray[a]!) ys.toArray (b - 1) (a+1)=i2 at ay O ⊢;have az:iter (Ht F xs (a:Int) (pv:Int) xs[pv] xs[a] (i2:Int)) F ((b - 1:Nat):Int)=some ((scanDown (fun x=> !AK x ys.toArray[a]!) ys.toArray i2 (b - 1):Nat):Int):=
  Ly (n:=ys.length) (by omega) (fun aA aB=>PD U aa (by omega) K (by omega) aA aB) (b - 1) F ao (by omega)
 refine Ad.be az ?_;have hle:=scanDown_le (fun x=> !AK x ys.toArray[a]!) ys.toArray i2 (b - 1);generalize aH:scanDown (fun x=> !AK x ys.toArray[a]!) ys.toArray i2 (b - 1)=A at hle O ⊢;have Z:A<ys.length:=by omega
 simp only [Int.toNat_natCast,U];refine Ad.ite (fun h=>?_) (fun h=>?_)
 ·have ah:i2>A:=by omega
  rw [if_pos ah] at O;refine Ad.Bo (m:=a) rfl aa ?_;refine Ad.Bo (m:=A) rfl Z ?_;refine Ad.intro ?_;rw [O];exact⟨rfl,rfl,Ge Z aa,(K.set (K.get aa)).set (K.get Z),by simp [an]⟩
 ·have ah:¬i2>A:=by omega
  have ai:i2<ys.length:=by omega
  rw [if_neg ah] at O;refine Ad.Bo (m:=A) rfl Z ?_;refine Ad.Bo (m:=i2) rfl ai ?_;refine Ad.A6 ((i2+1:Nat):Int) (by simp) (by omega) (by omega) ?_;refine Ad.A6 ((A - 1:Nat):Int) (by omega) (by omega) (by omega) ?_;refine Ad.b (RN (F:=F) aq (show a<b by omega) (A - 1+1 - (i2+1)) (i2+1) (A - 1) F ((ys.set i2 ys[A]).set A ys[i2]) (by omega) (by omega) (by omega) (by omega) (by omega) (by simp;omega) (by simp;omega) ((K.set (K.get Z)).set (K.get ai))) ?_;rintro r ⟨k1,aj,ab,ap⟩;rw [Ge ai Z] at k1 aj;have aC:=Pn a _ (i2+1) (A - 1) (swp ys.toArray i2 A) (Nat.le_refl _);obtain⟨aI,ak⟩:=r;simp only at k1 aj ab ap ⊢;subst k1;rw [← aj] at O;have hlen:ak.length=ys.length:=by simpa using ap
  generalize (partLoop AK a (i2+1) (A - 1) (swp ys.toArray i2 A)).1=pm at aC O ⊢;have al:pm<ak.length:=by omega
  have am:a<ak.length:=by omega
  refine Ad.Bo (m:=a) rfl am ?_;refine Ad.Bo (m:=pm) rfl al ?_;refine Ad.intro ?_;rw [O];exact⟨rfl,rfl,Ge al am,(ab.set (ab.get am)).set (ab.get al),by simp [hlen,an]⟩
end Pal
namespace Pal
open Go.Sort
theorem RD(F:Nat):∀n:Nat,n<13→∃l,f163 F (B6 (n:Int))=some l:=by
 intro n A
 match n,A with
 | 0,_=>exact⟨_,rfl⟩
 | 1,_=>exact⟨_,rfl⟩
 | 2,_=>exact⟨_,rfl⟩
 | 3,_=>exact⟨_,rfl⟩
 | 4,_=>exact⟨_,rfl⟩
 | 5,_=>exact⟨_,rfl⟩
 | 6,_=>exact⟨_,rfl⟩
 | 7,_=>exact⟨_,rfl⟩
 | 8,_=>exact⟨_,rfl⟩
 | 9,_=>exact⟨_,rfl⟩
 | 10,_=>exact⟨_,rfl⟩
 | 11,_=>exact⟨_,rfl⟩
 | 12,_=>exact⟨_,rfl⟩
 | n+13,h=>omega
theorem QC(F:Nat):f163 F (B6 ((13:Nat):Int))=some 4:=rfl
def Is(xs:List PT)(d:Array PT)(ys:List PT):Prop:=ys.toArray=d∧KO ys∧ys.length=xs.length
theorem LG{F a b:Nat}{l:Int}{xs:List PT}(A:2000<F)(K:a≤b)(ag:b≤a+12)(hb:b≤xs.length)(ah:xs.length<900)(O:KO xs):
  Ad (F7 F xs (a:Int) (b:Int) l) (Is xs (insertionSort AK xs.toArray a b)):=by
 unfold F7;refine Ad.b (S:=fun r=>∃ys,r=Sum.inl ys∧Is xs (insertionSort AK xs.toArray a b) ys) ?_ ?_
 ·obtain⟨U,rfl⟩:∃k,F=k+1:=⟨F - 1,by omega⟩;obtain⟨ys,Z,aa,ab,ac⟩:=MS A hb (by omega) O K;have ae:Ii (U+1) xs (a:Int) (b:Int) l ()=some (.done (Sum.inl ys)):=by
   refine Ad.H3 ?_;unfold Ii;refine Ad.A6 ((b - a:Nat):Int) (by omega) (by omega) (by omega) ?_;refine Ad.pos (by omega) ?_;exact Ad.be Z (Ad.intro rfl)
  unfold iter;rw [ae];exact⟨_,rfl,ys,rfl,aa,ab,ac⟩
 ·rintro r ⟨ys,rfl,h⟩;exact Ad.intro h
theorem JF{F a b:Nat}{l:Int}{wb wp:Bool}{xs:List PT}(A:2000<F)(K:a≤b)(ac:b≤a+12)(hb:b≤xs.length)(ae:xs.length<900)(O:KO xs):
  Ad (Fa F l ((a:Int),(b:Int),wb,wp,xs)) (fun st=>∃ys,st= .done (Sum.inl ys)∧Is xs (insertionSort AK xs.toArray a b) ys):=by
 obtain⟨ys,U,Z,aa,ab⟩:=MS A hb (by omega) O K;unfold Fa;refine Ad.b (S:=fun r=>r=Sum.inl ys) ?_ ?_
 ·refine Ad.A6 ((b - a:Nat):Int) (by dsimp only;omega) (by omega) (by omega) ?_;refine Ad.pos (by omega) ?_;exact Ad.be U (Ad.intro rfl)
 ·rintro r rfl;exact Ad.intro ⟨ys,rfl,Z,aa,ab⟩
theorem PI{F n:Nat}{l:Int}{xs:List PT}(K:2000<F)(ab:n=xs.length)(ac:n≤12)(O:KO xs):
  Ad (f162 F xs 0 (n:Int) l) (Is xs (insertionSort AK xs.toArray 0 n)):=by
 unfold f162;refine Ad.b (S:=fun r=>∃ys,r=Sum.inl ys∧Is xs (insertionSort AK xs.toArray 0 n) ys) ?_ ?_
 ·obtain⟨A,rfl⟩:∃k,F=k+1:=⟨F - 1,by omega⟩;obtain⟨st,U,ys,rfl,Z⟩:=JF (F:=A+1) (a:=0) (b:=n) (l:=l) (wb:=true) (wp:=true) (xs:=xs) K (by omega) (by omega) (by omega) (by omega) O;have aa:Fa (A+1) l (0,(n:Int),true,true,xs)=some (.done (Sum.inl ys)):=U;unfold iter;rw [aa];exact⟨_,rfl,ys,rfl,Z⟩
 ·rintro r ⟨ys,rfl,h⟩;exact Ad.intro h
theorem Qm{S A:Type}{body:S→Option (A4 S A)}{F:Nat}{s s':S}(h:body s=some (.more s')){Q:A→Prop}(k:Ad (iter body F s') Q):Ad (iter body (F+1) s) Q:=by
 unfold iter;rw [h];exact k
theorem QL{S A:Type}{body:S→Option (A4 S A)}{F:Nat}{s:S}{Q:A→Prop}(h:Ad (body s) (fun st=>∃a,st= .done a∧Q a)):Ad (iter body (F+1) s) Q:=by
 obtain⟨st,K,a,rfl,O⟩:=h;unfold iter;rw [K];exact⟨a,rfl,O⟩
set_option maxHeartbeats 1000000 in
theorem Sa{F:Nat}{xs:List PT}(bf:3000<F)(aL:xs.length=13)(aq:KO xs):
  Ad (f162 F xs 0 ((13:Nat):Int) 4) (Is xs (pdq AK xs.toArray 0 13 4 true true)):=by
 have aM:xs.toArray.size=13:=by simpa using aL
 obtain⟨s1,B1,bg,s2,bh,ar,bi,bj⟩:=rd_facts (lt:=AK) (d:=xs.toArray) (a:=0) (b:=13) (limit:=4) (wb:=true) (wp:=true) II partialInsertionSort_holds reverseRange_holds (by omega) (by rw [aM];omega) (.inl rfl);have au:¬(13 - 0≤12):=by omega
 have aE:=RI (F:=F) (a:=0) (b:=13) (xs:=xs) (by omega) (by omega) (by omega) (by omega) aq;have aN:choosePivot AK xs.toArray 0 13=(rd AK xs.toArray 0 13 4 true true).c:=rfl;rw [aN] at aE;generalize A:rd AK xs.toArray 0 13 4 true true=R at*;have aO:R.lim=4:=by rw [← A];rfl
 have aP:R.c.2= .decreasing→R.d2=reverseRange xs.toArray 0 13∧R.pivot=(13 - 1) - (R.c.1 - 0)∧R.hint= .increasing:=by
  intro h;rw [← A] at h ⊢;exact rd_dec h
 have aQ:R.c.2≠ .decreasing→R.d2=xs.toArray∧R.pivot=R.c.1∧R.hint=R.c.2:=by
  intro h;rw [← A] at h ⊢;exact rd_not h
 have aR:R.hint= .increasing→R.pi=partialInsertionSort AK R.d2 0 13:=by
  intro h;rw [← A] at h ⊢;exact rd_pi_yes (by simp [h])
 have aS:R.hint≠ .increasing→R.pi=(R.d2,false):=by
  intro h;rw [← A] at h ⊢;exact rd_pi_no (by simp [h])
 have aT:Ad (if F4 R.c.2=2 then(f182 F xs 0 ((13:Nat):Int)).bind fun aU=>(Ax (((13:Nat):Int) - 1)).bind fun aV=>(Ax (((R.c.1:Nat):Int) - 0)).bind fun aW=>(Ax (aV - aW)).bind fun aX=>some (aX,(1:Int),aU) else some (((R.c.1:Nat):Int),F4 R.c.2,xs))
   (fun q=>q.1=((R.pivot:Nat):Int)∧q.2.1=F4 R.hint∧Is xs R.d2 q.2.2):=by
  by_cases aj:R.c.2= .decreasing
  ·obtain⟨ae,ag,Z⟩:=aP aj;refine Ad.pos (by rw [aj];rfl) ?_;refine Ad.b (RL (F:=F) (a:=0) (b:=13) (xs:=xs) (by omega) (by omega) (by omega) (by omega) aq) ?_;rintro ys ⟨k1,O,U⟩;refine Ad.A6 12 (by omega) (by omega) (by omega) ?_;refine Ad.A6 ((R.c.1:Nat):Int) (by omega) (by omega) (by omega) ?_;refine Ad.A6 ((12 - R.c.1:Nat):Int) (by omega) (by omega) (by omega) ?_;refine Ad.intro ⟨?_,?_,?_,O,U⟩
   ·rw [ag];rfl
   ·rw [Z];rfl
   ·rw [ae];exact k1
  ·obtain⟨ae,ag,Z⟩:=aQ aj;refine Ad.neg (by intro h;cases av:R.c.2 <;> rw [av] at h aj <;> first | (exact aj rfl) | (cases h)) ?_
   refine Ad.intro ⟨?_,?_,?_,aq,rfl⟩
   ·rw [ag]
   ·rw [Z]
   ·rw [ae]
 unfold f162;refine Ad.b (S:=fun r=>∃ys,r=Sum.inl ys∧Is xs (pdq AK xs.toArray 0 13 4 true true) ys) ?_ (by rintro r ⟨ys,rfl,h⟩;exact Ad.intro h);have aY:∀(aa:List PT),Is xs R.pi.1 aa→R.pi.2=false→
   Ad ((f185 F aa 0 ((13:Nat):Int) ((R.pivot:Nat):Int)).bind fun K=>(Ax (K.1 - 0)).bind fun aF=>(Ax (((13:Nat):Int) - K.1)).bind fun aG=>(Fj (13:Int) (8)).bind fun aH=>
     Option.bind (
      if aF<aG then(
       (F7 F K.2.2 0 K.1 4).bind fun aZ=>
       (Ax (K.1+1)).bind fun a0=>
       some (a0,((13:Nat):Int),decide (aH≤aF),aZ)
      ) else(
       (Ax (K.1+1)).bind fun a1=>
       (F7 F K.2.2 a1 ((13:Nat):Int) 4).bind fun a2=>
       some ((0:Int),K.1,decide (aH≤aG),a2)
      )
     ) fun an=>
     some (an.1,an.2.1,an.2.2.1,K.2.1,an.2.2.2))
    (fun st=>Ad (Fa F 4 st) (fun q=>∃a,q= .done a∧∃ys,a=Sum.inl ys∧Is xs (pdq AK xs.toArray 0 13 4 true true) ys)):=by
  intro aa a3 aI;obtain⟨z1,a4,bk⟩:=a3;have bl:aa.length=13:=by omega
  refine Ad.b (Rr (F:=F) (a:=0) (b:=13) (pv:=R.pivot) (xs:=aa) (by omega) (by omega) ar.2 (by omega) (by omega) a4) ?_;rw [z1];have ab:=partition_holds AK II R.pi.1 0 13 R.pivot ar.1 ar.2 (by omega);have ak:=fun aw=>pdq_left (lt:=AK) (d:=xs.toArray) (a:=0) (b:=13) (limit:=4) (wb:=true) (wp:=true) au (by omega) (by rw [A];exact aI) (by simp) (by rw [A];exact⟨ab.1,ab.2.1⟩) aw;have al:=fun aw=>pdq_right (lt:=AK) (d:=xs.toArray) (a:=0) (b:=13) (limit:=4) (wb:=true) (wp:=true) au (by omega) (by rw [A];exact aI) (by simp) (by rw [A];exact⟨ab.1,ab.2.1⟩) aw;rw [A] at ak al;rw [aO] at ak al;generalize partition AK R.pi.1 0 13 R.pivot=PA at ab ak al ⊢;obtain⟨m,bm,d4⟩:=PA;rintro⟨bn,a5,ac⟩ ⟨k1,O,U,ay,a6⟩;simp only at k1 O U ay a6 ab ak al ⊢;subst k1 O;have hm:m<13:=ab.2.1;have bo:ac.length=13:=by omega
  refine Ad.A6 (m:Int) (by omega) (by omega) (by omega) ?_;refine Ad.A6 ((13 - m:Nat):Int) (by omega) (by omega) (by omega) ?_;refine Ad.be (b:=1) rfl ?_;by_cases aJ:m - 0<13 - m
  ·refine Ad.b (S:=fun q=>∃us,q=(((m+1:Nat):Int),((13:Nat):Int),decide ((1:Int)≤(m:Int)),us)∧Is ac (insertionSort AK ac.toArray 0 m) us) ?_ ?_
   ·refine Ad.pos (by omega) ?_;refine Ad.b (LG (F:=F) (a:=0) (b:=m) (l:=4) (xs:=ac) (by omega) (by omega) (by omega) (by omega) (by omega) ay) ?_;intro us az;refine Ad.A6 ((m+1:Nat):Int) (by simp) (by omega) (by omega) ?_;exact Ad.intro ⟨us,rfl,az⟩
   ·rintro q ⟨us,rfl,u1,aA,a7⟩;refine Ad.intro ?_;refine(JF (F:=F) (a:=m+1) (b:=13) (l:=4) (xs:=us) (by omega) (by omega) (by omega) (by omega) (by omega) aA).mono ?_;rintro st ⟨ys,rfl,v1,v2,a8⟩;refine⟨_,rfl,ys,rfl,?_,v2,by omega⟩;rw [v1,u1,U,ak aJ,pdq_small (by omega),pdq_small (by omega)]
  ·refine Ad.b (S:=fun q=>∃us,q=((0:Int),(m:Int),decide ((1:Int)≤((13 - m:Nat):Int)),us)∧Is ac (insertionSort AK ac.toArray (m+1) 13) us) ?_ ?_
   ·refine Ad.neg (by omega) ?_;refine Ad.A6 ((m+1:Nat):Int) (by simp) (by omega) (by omega) ?_;refine Ad.b (LG (F:=F) (a:=m+1) (b:=13) (l:=4) (xs:=ac) (by omega) (by omega) (by omega) (by omega) (by omega) ay) ?_;intro us az;exact Ad.intro ⟨us,rfl,az⟩
   ·rintro q ⟨us,rfl,u1,aA,a7⟩;refine Ad.intro ?_;have:=JF (F:=F) (a:=0) (b:=m) (l:=4) (wb:=decide ((1:Int)≤((13 - m:Nat):Int))) (wp:=a5) (xs:=us) (by omega) (by omega) (by omega) (by omega) (by omega) aA;refine Ad.mono this ?_;rintro st ⟨ys,rfl,v1,v2,a8⟩;refine⟨_,rfl,ys,rfl,?_,v2,by omega⟩;rw [v1,u1,U,al aJ,pdq_small (by omega),pdq_small (by omega)]
 have a9:Ad (Fa F 4 (0,((13:Nat):Int),true,true,xs)) (fun st=>(∃a,st= .done a∧∃ys,a=Sum.inl ys∧Is xs (pdq AK xs.toArray 0 13 4 true true) ys)∨
   ∃s',st= .more s'∧Ad (Fa F 4 s') (fun q=>∃a,q= .done a∧∃ys,a=Sum.inl ys∧Is xs (pdq AK xs.toArray 0 13 4 true true) ys)):=by
  unfold Fa;refine Ad.b (S:=fun r=>(∃ys,r=Sum.inl ys∧Is xs (pdq AK xs.toArray 0 13 4 true true) ys)∨∃s',r=Sum.inr s'∧Ad (Fa F 4 s') (fun q=>∃a,q= .done a∧∃ys,a=Sum.inl ys∧Is xs (pdq AK xs.toArray 0 13 4 true true) ys)) ?_ ?_
  ·refine Ad.A6 13 (by dsimp only;omega) (by omega) (by omega) ?_;refine Ad.neg (by omega) ?_;refine Ad.neg (by omega) ?_;refine Ad.b (S:=fun _=>True) (Ad.neg (by simp) (Ad.intro trivial)) fun _ _=>?_;refine Ad.be aE ?_;refine Ad.b aT ?_;rintro⟨q1,q2,ah⟩ ⟨ae,ag,Z⟩;simp only at ae ag Z ⊢;subst ae ag;refine Ad.be (b:=true) (by simp) ?_;refine Ad.be (b:=decide (F4 R.hint=1)) (by simp) ?_;have ba:Ad (if(decide (F4 R.hint=1))=true then(f183 F ah 0 ((13:Nat):Int)).bind fun aB=>if aB.1=true then some (Sum.inl aB.2) else some (Sum.inr aB.2) else some (Sum.inr ah))
     (fun r=>(R.pi.2=true∧∃ys,r=Sum.inl ys∧Is xs R.pi.1 ys)∨(R.pi.2=false∧∃ys,r=Sum.inr ys∧Is xs R.pi.1 ys)):=by
    by_cases hh:R.hint= .increasing
    ·refine Ad.pos (by rw [hh];rfl) ?_;obtain⟨k1,O,U⟩:=Z;obtain⟨aC,ao⟩:=RX (F:=F) (a:=0) (b:=13) (xs:=ah) (by omega) (by omega) (by omega) (by omega) (by omega) O;rw [k1] at aC ao;rw [← aR hh] at aC ao;refine Ad.be aC ?_;refine Ad.ite (fun h=>?_) (fun h=>?_)
     ·exact Ad.intro (.inl ⟨h,ah,rfl,by rw [ao];exact k1,O,U⟩)
     ·exact Ad.intro (.inr ⟨by simpa using h,ah,rfl,by rw [ao];exact k1,O,U⟩)
    ·refine Ad.neg (by intro h;cases av:R.hint <;> rw [av] at h hh <;> first | (exact hh rfl) | (simp [F4] at h)) ?_
     rw [aS hh];exact Ad.intro (.inr ⟨rfl,ah,rfl,Z⟩)
   refine Ad.b ba ?_;rintro r (⟨p2,ys,rfl,aD⟩ | ⟨p2,aa,rfl,bb⟩)
   ·refine Ad.intro (.inl ⟨ys,rfl,?_⟩);rw [pdq_done au (by omega) (by rw [A];exact p2),A];exact aD
   ·rw [Sum.elim_inr];refine Ad.b (S:=fun c=>c=false) (Ad.neg (by omega) (Ad.intro rfl)) ?_;rintro c rfl;refine Ad.neg (by simp) ?_;obtain⟨s',ai,am⟩:=aY aa bb p2;have bp:∀{α β:Type} (o:Option α) (f:α→Option β) (g:β→(List PT)⊕(Int×Int×Bool×Bool×List PT)),True:=fun _ _ _=>trivial;refine Ad.of_eq (a:=Sum.inr s') ?_ (.inr ⟨s',rfl,am⟩);have key:∀(o:Option (Int×Int×Bool×Bool×List PT)),o=some s'→(o.bind fun x=>some (Sum.inr x:List PT⊕(Int×Int×Bool×Bool×List PT)))=some (Sum.inr s'):=fun o bc=>by rw [bc];rfl
    refine Eq.trans ?_ (key _ ai);simp only [Option.bind_assoc,Option.bind_some]
  ·rintro r (⟨ys,rfl,aD⟩ | ⟨s',rfl,bd⟩)
   ·exact Ad.intro (.inl ⟨_,rfl,ys,rfl,aD⟩)
   ·exact Ad.intro (.inr ⟨s',rfl,bd⟩)
 obtain⟨bq,aK⟩:∃k,F=k+2:=⟨F - 2,by omega⟩;obtain⟨st,ai,am | am⟩:=a9
 ·obtain⟨a,rfl,ap⟩:=am;rw [aK] at ai ⊢;unfold iter;rw [ai];exact⟨a,rfl,ap⟩
 ·obtain⟨s',rfl,ap⟩:=am;rw [aK] at ai ap ⊢;exact Qm ai (QL ap)
end Pal
namespace Pal
open Go Go.Conc Go.Proofs
open Go.Proofs.Tryz
variable {J:Judge Tryz.prog}{E:LH}
def MH(fuel:Nat)(p1:Int)(A:Int)(O:Unit):Option (A4 (Unit) (Unit)):=
 Option.bind (
  if p1<A then(
   none
  ) else(
   some false
  )
 ) fun K=>
 if K=true then(
  (Ax (A - 1)).bind fun U=>
  (Ax (A - 1)).bind fun Z=>
  none
 ) else(
  some (.done ())
 )
def Mw(fuel:Nat)(p1:Int)(p2:Int)(A:Int):Option (A4 (Int) (Unit)):=
 if A<p2 then(
  Option.bind (iter (MH fuel p1 A) fuel ()) fun O=>
  (Ax (A+1)).bind fun K=>
  some (.more K)
 ) else(
  some (.done ())
 )
def Kx(fuel:Nat)(p1:Int)(p2:Int):Option (Unit):=
 (Ax (p1+1)).bind fun A=>
 Option.bind (iter (Mw fuel p1 p2) fuel A) fun K=>
 some ()
theorem RR{p1:Int}{p2:Int}{fuel:Nat}{r:Unit}(ah:Kx fuel p1 p2=some r):Aq J 178 [.slice none 0 0,iV p1,iV p2,(.func (.func 134) #[] #[])] E [] (fun w E' B'=>w= .tuple #[]∧B'= []):=by
 refine Aq.en func178 rfl rfl fun Q a4 cs H aq ar=>?_;unfold Kx at ah;obtain⟨au,av,aw⟩:=bs ah;refine zg 3 rfl ?_;refine JL.Y rfl (fun ρ h=>Yl.A0 (h _ _ rfl) (h _ _ rfl) av) ?_;obtain⟨a5,ay,az⟩:=bs aw;refine zg 2 rfl ?_;refine JL.join (fun L s=>∃(ai:LH),Jm E H ai [] [] L s) ?_ ?_
 ·rintro _ _ ⟨ai,rfl,rfl,aA,aB⟩;obtain rfl:=oi az;refine JL.fin (v:= .tuple #[]) rfl rfl (Bx.list func178 rfl (vs:= []) trivial) ?_;exact ar _ _ _ _ aA rfl ⟨rfl,rfl⟩ aB
 ·intro aC;refine JL.block ?_;refine JL.wk [(0,.slice none 0 0),(1,iV p1),(2,iV p2),(3,(.func (.func 134) #[] #[])),(8,iV au)] rfl ?_;refine JL.Bf ay (fun L s A=>∃(K:LH),Jm E H K [] [(0,.slice none 0 0),(1,iV p1),(2,iV p2),(3,(.func (.func 134) #[] #[])),(8,iV A)] L s) ⟨E,rfl,rfl,(Le.refl _),aq⟩ ?_;rintro _ _ A ⟨K,rfl,rfl,aj,ak⟩ aD ⟨a6,U⟩ aE;have Z:=U;unfold Mw at Z;refine zg 7 rfl ?_;refine JL.ifs (p:=A<p2) rfl (fun aa=>?_) (fun aa=>?_)
  ·have aF:=ip Z aa;obtain⟨a7,aG,aH⟩:=bs aF;refine zg 8 rfl ?_;refine JL.join (fun L s=>∃(ab:LH),Jm K H ab [] [(0,.slice none 0 0),(1,iV p1),(2,iV p2),(3,(.func (.func 134) #[] #[])),(8,iV A)] L s) ?_ ?_
   ·rintro _ _ ⟨ab,rfl,rfl,aI,aJ⟩;obtain⟨aK,aL,aM⟩:=bs aH;refine zg 3 rfl ?_;refine JL.Y rfl (fun ρ h=>Yl.A0 (h _ _ rfl) (h _ _ rfl) aL) ?_;refine zg 2 rfl ?_;obtain rfl:=oi aM;exact JL.kw (aE _ _ aK ⟨ab,rfl,rfl,(aj.trans aI),aJ⟩ U) rfl
   ·intro aN;refine JL.block ?_;refine JL.wk [(0,.slice none 0 0),(1,iV p1),(2,iV p2),(3,(.func (.func 134) #[] #[])),(8,iV A),(9,iV A)] rfl ?_;refine JL.Bf aG (fun L s aO=>∃(O:LH),Jm K H O [] [(0,.slice none 0 0),(1,iV p1),(2,iV p2),(3,(.func (.func 134) #[] #[])),(8,iV A),(9,iV A)] L s) ⟨K,rfl,rfl,(Le.refl _),ak⟩ ?_;rintro _ _ aO ⟨O,rfl,rfl,aP,aQ⟩ aR ⟨a8,al⟩ a9;have am:=al;unfold MH at am;refine zg 2 rfl ?_;refine JG.Co 17 mixed rfl (by decide+kernel) fun ht=>?_;refine JG.ms ht rfl [0,1,2,3] rfl ?_;obtain⟨an,ao,ap⟩:=bs am;refine Av.join 0 #[true,true,true,true,true,true,true,true,true,true,true,true,true,true,true,true,true] (fun L s=>∃(ac:LH),Jm O H ac [] [(0,.slice none 0 0),(1,iV p1),(2,iV p2),(3,(.func (.func 134) #[] #[])),(8,iV A),(9,iV A),(34,.bool an)] L s) ?_ ?_
    ·rintro _ _ ⟨ac,rfl,rfl,aS,aT⟩;refine Av.fin (by decide+kernel) ?_;refine JL.split (t:=an) rfl (fun ae=>?_) (fun ae=>?_)
     ·have aU:=ip ap ae;refine zg 3 rfl ?_;refine JG.Co 16 mixed rfl (by decide+kernel) fun ht=>?_;refine JG.ms ht rfl [0,1,2,3] rfl ?_;obtain⟨ba,aV,aW⟩:=bs aU;refine JG.V 4 ht rfl rfl (fun ρ h s' hs=>Yl.Bb (h _ _ rfl) (h _ _ rfl) aV) ?_;refine JG.ms ht rfl [5,6] rfl ?_;obtain⟨bb,aX,aY⟩:=bs aW;refine JG.V 7 ht rfl rfl (fun ρ h s' hs=>Yl.Bb (h _ _ rfl) (h _ _ rfl) aX) ?_;cases aY
     ·have aZ:=ib ap ae;refine JL.exit rfl ?_;obtain rfl:=oi aZ;obtain rfl:=aR _ al;exact JL.kw (aN _ _ ⟨ac,rfl,rfl,(aP.trans aS),aT⟩) rfl
    ·intro a0;refine Av.BW (q:=p1<A) (i:=21) rfl (fun ag=>?_) (fun ag=>?_)
     ·have a1:=ip ao ag;refine JG.ms ht rfl [4,5,6] rfl ?_;cases a1
     ·have a2:=im ao ag;refine JG.ms ht rfl [4,5,6,7,8,9,10,11,12,13,14,15,16] rfl ?_;obtain rfl:=oi a2;refine Av.BU ?_ (a0 _ _ ⟨O,rfl,rfl,(Le.refl _),aQ⟩);exact⟨rfl,rfl,rfl,rfl,rfl,rfl,rfl,trivial⟩
  ·have a3:=im Z aa;refine JL.exit rfl ?_;obtain rfl:=oi a3;obtain rfl:=aD _ U;exact JL.kw (aC _ _ ⟨K,rfl,rfl,aj,ak⟩) rfl
def Mz(fuel:Nat)(p1:Int)(p2:Int)(p3:Int)(K:Unit):Option (A4 (Unit) ((Unit)⊕(Unit))):=
 (Ax (p2 - p1)).bind fun A=>
 if A≤12 then(
  (Kx fuel p1 p2).bind fun O=>
  some (.done (Sum.inl ()))
 ) else(
  if p3=0 then(
   none
  ) else(
   none
  )
 )
def KF(fuel:Nat)(p1:Int)(p2:Int)(p3:Int):Option (Unit):=
 Option.bind (iter (Mz fuel p1 p2 p3) fuel ()) fun A=>
 Sum.elim (fun r=>some r) (fun K=>
 none
 ) A
theorem R2{p1:Int}{p2:Int}{p3:Int}{fuel:Nat}{r:Unit}(O:KF fuel p1 p2 p3=some r):Aq J 162 [.slice none 0 0,iV p1,iV p2,iV p3,(.func (.func 134) #[] #[])] E [] (fun w E' B'=>w= .tuple #[]∧B'= []):=by
 refine Aq.en func162 rfl rfl fun Q aB cs H ae ag=>?_;unfold KF at O;obtain⟨aC,ah,ai⟩:=bs O;refine zg 8 rfl ?_;refine JL.join (fun L s=>False) ?_ ?_
 ·intro _ _ aj;exact aj.elim
 ·intro aD;refine JL.block ?_;refine JL.wk [(0,.slice none 0 0),(1,iV p1),(2,iV p2),(3,iV p3),(4,(.func (.func 134) #[] #[])),(10,.bool true),(11,.bool true)] rfl ?_;refine JL.Bf ah (fun L s ak=>∃(U:LH),Jm E H U [] [(0,.slice none 0 0),(1,iV p1),(2,iV p2),(3,iV p3),(4,(.func (.func 134) #[] #[])),(10,.bool true),(11,.bool true)] L s) ⟨E,rfl,rfl,(Le.refl _),ae⟩ ?_;rintro _ _ ak ⟨U,rfl,rfl,al,am⟩ an ⟨aE,Z⟩ aF;have aa:=Z;unfold Mz at aa;obtain⟨ao,ap,ab⟩:=bs aa;refine zg 5 rfl ?_;refine JL.Y rfl (fun ρ h=>Yl.Bb (h _ _ rfl) (h _ _ rfl) ap) ?_;refine zg 8 rfl ?_;refine JL.ifs (p:=ao≤12) rfl (fun A=>?_) (fun A=>?_)
  ·have aq:=ip ab A;obtain⟨aG,ar,au⟩:=bs aq;refine zg 6 rfl ?_;refine JS.cl (RR ar) rfl rfl (Aw func178 rfl) am ?_;rintro _ aH _ av ⟨rfl,rfl⟩ aw;refine JL.done ?_;obtain rfl:=oi au;obtain rfl:=an _ Z;have ay:=elim_inl ai;obtain rfl:=oi ay;refine JL.rt func162 rfl rfl ?_;exact ag _ _ _ _ (al.trans av) rfl ⟨rfl,rfl⟩ aw
  ·have ac:=im ab A;refine zg 7 rfl ?_;refine JL.ifs (p:=p3=0) rfl (fun K=>?_) (fun K=>?_)
   ·have az:=ip ac K;refine zg 6 rfl ?_;cases az
   ·have aA:=im ac K;refine zg 5 rfl ?_;refine JL.Y (v:= .bool false) rfl (fun ρ h=>Yl.not (c:=true) (h _ _ rfl)) ?_;refine zg 9 rfl ?_;cases aA
def Ov(fuel:Nat):Option (Unit):=
 (f163 fuel (B6 ((0:Nat):Int))).bind fun A=>
 (KF fuel 0 ((0:Nat):Int) A).bind fun K=>
 some ()
theorem Re{fuel:Nat}{r:Unit}(A:Ov fuel=some r):Aq J 133 [.slice none 0 0,(.func (.func 134) #[] #[])] E [] (fun w E' B'=>w= .tuple #[]∧B'= []):=by
 refine Aq.en func133 rfl rfl fun Q ai cs H K O=>?_;unfold Ov at A;refine zg 3 rfl ?_;refine JL.Y rfl (fun ρ h=>Yl.len rfl underlying130 (h _ _ rfl)) ?_;refine zg 6 rfl ?_;refine JL.Y (v:= .int .u64 ((B6 ((0:Nat):Int):Nat):Int)) rfl (fun ρ h=>Yl.B6 underlying3 underlying156 (h _ _ rfl)) ?_;obtain⟨aj,U,Z⟩:=bs A;refine JS.cl (NV U) rfl rfl (Aw func163 rfl) K ?_;rintro _ ak _ aa ⟨rfl,rfl⟩ ab;obtain⟨al,ac,ae⟩:=bs Z;refine zg 1 rfl ?_;refine JS.cl (R2 ac) rfl rfl (Aw func162 rfl) ab ?_;rintro _ am _ ag ⟨rfl,rfl⟩ ah;refine JL.done ?_;obtain rfl:=oi ae;refine JL.fin (v:= .tuple #[]) rfl rfl (Bx.list func133 rfl (vs:= []) trivial) ?_;exact O _ _ _ _ (aa.trans ag) rfl ⟨rfl,rfl⟩ ah
end Pal
namespace Pal
open Go Go.Conc Go.Proofs Go.Sort
theorem PN:∀(ys A:List PT),A.Perm ys→ys.Pairwise (fun p q=>p.1<q.1)→A.Pairwise (fun p q=>p.1≤q.1)→A=ys:=by
 intro ys
 induction ys with
 | nil=>intro A h _ _;exact h.eq_nil
 | cons y ys aa=>
  intro A h K O;cases A with
  | nil=>exact absurd h.symm.eq_nil (by simp)
  | cons z A=>
   rw [List.pairwise_cons] at K O;have U:z∈y::ys:=h.mem_iff.1 (by simp);have Z:y∈z::A:=h.mem_iff.2 (by simp);have e:z=y:=by
    rcases List.mem_cons.1 U with e | U
    ·exact e
    ·rcases List.mem_cons.1 Z with e | Z
     ·exact e.symm
     ·have:=K.1 z U;have:=O.1 y Z;omega
   subst e;rw [aa A ((List.perm_cons z).1 h) K.2 O.2]
theorem R4{F:Nat}{xs ys:List PT}(ai:3000<F)(aq:xs.length≤13)(aa:KO xs)(aj:ys.Perm xs)(hs:ys.Pairwise (fun p q=>p.1<q.1)):f133 F xs=some ys:=by
 have fin:∀(d:Array PT) (A:List PT),PermIn 0 xs.toArray.size xs.toArray d→SortedIn AK 0 xs.toArray.size d→A.toArray=d→A=ys:=by
  rintro d A ab ak rfl;have ac:A.Perm xs:=by
   have ae:=ab.2.2;have K:=ab.1;simp only [List.size_toArray] at K ae;have al:(A.toArray.extract 0 xs.length).toList=A:=by simp [← K]
   have am:(xs.toArray.extract 0 xs.length).toList=xs:=by simp
   rwa [al,am] at ae
  refine PN ys A (ac.trans aj.symm) hs ?_;rw [List.pairwise_iff_getElem];intro i j hi ag an;have h:=ak i j (Nat.zero_le _) an (by simpa using (ac.length_eq▸ag));rw [Eo hi,Eo ag] at h;simpa [AK] using h
 have h:Ad (f133 F xs) (fun A=>A=ys):=by
  unfold f133;rcases Nat.lt_or_ge xs.length 13 with ah | ah
  ·obtain⟨l,K⟩:=RD F xs.length ah;refine Ad.be K ?_;refine Ad.b (PI (F:=F) (n:=xs.length) (l:=l) (by omega) rfl (by omega) aa) ?_;rintro A ⟨k1,ao,ap⟩;obtain⟨U,Z⟩:=insertionSort_holds II xs.toArray 0 xs.length (Nat.zero_le _) (by simp);exact Ad.intro (fin _ A (by simpa using U) (by simpa using Z) k1)
  ·have O:xs.length=13:=by omega
   refine Ad.be (b:=4) (by rw [O];exact QC F) ?_;rw [O];refine Ad.b (Sa (F:=F) (xs:=xs) ai O aa) ?_;rintro A ⟨k1,ao,ap⟩;obtain⟨U,Z⟩:=pdq_sorts AK II xs.toArray 0 13 4 true true (Nat.zero_le _) (by simp [O]) (.inl rfl);have e:xs.toArray.size=13:=by simpa using O
   exact Ad.intro (fin _ A (by rw [e];exact U) (by rw [e];exact Z) k1)
 obtain⟨A,K,rfl⟩:=h;exact K
theorem Sr{J:Judge Tryz.prog}{E:LH}{a:Option Addr}{c:Nat}{g:Seg}{xs ys:List PT}(O:xs.length≤13)(U:KO xs)(K:ys.Perm xs)(hs:ys.Pairwise (fun p q=>p.1<q.1))(Z:OL 133 (rP rI (rP rI (rL (rP rI (rP (rL rI) (rN .u16)))))) E a c g xs):
  Aq J 133 [.slice a xs.length c,.func (.func 134) #[] #[]] E g (fun w E' B'=>w= .tuple #[]∧OL 133 (rP rI (rP rI (rL (rP rI (rP (rL rI) (rN .u16)))))) E' a c B' ys):=by
 rcases Z.cases with⟨rfl,rfl,rfl,rfl⟩ | ⟨ab,f,rfl,rfl,hW⟩
 ·obtain rfl:ys= []:=K.eq_nil;refine(Re (fuel:=10) (r:=()) rfl).mono ?_;rintro w E' B' hle ⟨A,rfl⟩;exact⟨A,OL.nil⟩
 ·refine(Sx hW (fuel:=4000) (R4 (by omega) O U K hs)).mono ?_;rintro w E' B' hle ⟨ac,A,rfl,aa⟩;exact⟨A,aa.1⟩
end Pal
namespace Pal
open Go Go.Conc Go.Proofs
open Go.Proofs.Tryz
open Go.Conc.Lib Go.ConcR.Gen
def Fz(qs:Nat→Int×List (By)):List (A3):=((List.range 13).filter (fun j=>decide (0<(qs j).2.length))).map (partOf qs)
theorem RA
  {E:LH} {k1 ae:Nat} {aq ar ag:Ar} {au av ah:Nat} {aw:List Value} {O:Br} {ab:AW} (ai:At E k1 ae (([.slice aq (O.1).length au,.slice ar (O.2.1).length av]:List Value)++aw)) (aC:Ao (rL rI) E aq au (O.1)) (aD:Ao (rL rI) E ar av (O.2.1)) (aE:(rA 13 (rN .u16)).r E aw (O.2.2)) (aF:Ao Bv E ag ah ab) {fuel:Nat} {qs:Nat→Int×List (By)} (aG:∀j,j<13→FG fuel O ab ((j:Nat):Int)=some (qs j)):
  Aq (Cr Tryz.prog) 102 [.pointer (some ⟨k1,ae,none⟩),.slice ag ab.length ah] E [] (fun w E' B'=>∃a c,w= .slice a (Fz qs).length c∧B'= []∧Ao BH E' a c (Fz qs)):=by
 refine Aq.en func102 rfl rfl fun Q bj cs H aH aI=>?_;refine zg 2 rfl ?_;refine JS.box (v:= .pointer (some ⟨k1,ae,none⟩)) rfl rfl rfl aH rfl fun aJ aK=>?_;refine JS.Ba 1 aK rfl fun bk aL aj aM=>?_;refine JS.box (v:= .slice ag ab.length ah) rfl rfl rfl aM rfl fun aN aO=>?_;refine JS.Ba 2 aO rfl fun bl ay aP aQ=>?_;refine JS.split (S':= []) (by simp) aQ fun aR=>?_;refine zg 4 rfl ?_;refine JS.makeChan rfl rfl rfl underlying162 (Cs type133) aR fun ch aS=>?_;refine JS.alloc rfl rfl rfl aS (AO type162) fun rc aT=>?_;refine JS.store (v:= .chan (some ch)) (off:=0) 1 rfl rfl rfl aT rfl rfl (Ag type162) (by simp [Value.cells,BB]) rfl (Nat.le_of_ble_eq_true rfl) fun aU=>?_;refine JS.Ba 1 aU rfl fun U ak al aV=>?_;refine zg 3 rfl ?_;refine JS.alloc rfl rfl rfl aV (AO type171) fun wg aW=>?_;refine JS.split (S':= [[(ch,.chan 0 #[] false 0 0 false)],[(wg,.cells #[.int .u64 0,.int .u32 0] 171 (0,0))]]) (by simp [Value.cells]) aW fun ac=>?_;refine zg 7 rfl ?_;refine JL.Gl ?_;refine JL.wk [(2,.pointer (some ⟨aJ,0,none⟩)),(3,.pointer (some ⟨aN,0,none⟩)),(5,.pointer (some ⟨rc,0,none⟩)),(6,.pointer (some ⟨wg,0,none⟩)),(11,iV ((0:Nat):Int))] rfl ?_;have aX:=aL.trans ay;have Z:=aX.trans ak;have am:=Nd.iff.1 ac;intro T aY;let F:Fam:=⟨wg,ch,171,13,fun j=>decide (0<(qs j).2.length),fun kk v E=>kk<13∧∃a c,v= .agg #[iV ((kk:Nat):Int),iV (qs kk).1,.slice a (qs kk).2.length c]∧Ao Ca E a c (qs kk).2,fun g s=>(Cr Tryz.prog).ok Q g s⟩;refine Q9 F (Nat.le_of_ble_eq_true rfl) (show 13<2147483647 by omega) ?_ ?_ (Jx (j:=1) ac rfl) (Jx (j:=0) ac rfl) ?_ (fun g s h=>h)
 ·rintro kk v bm bn an ⟨aa,a,c,aZ,ai⟩;exact⟨aa,a,c,aZ,ai.mono an⟩
 ·intro e;have:=am.1;simp at this;exact this e.symm
 have a0:=PH ac;show Way Tryz.prog true (Stop Tryz.prog F (.Dw 0)) _ (⟨(Ap U H [[(ch,.chan 0 #[] false 0 0 false)],[(wg,.cells #[.int .u64 0,.int .u32 0] 171 (0,0))]]).E,FZ (Ap U H [[(ch,.chan 0 #[] false 0 0 false)],[(wg,.cells #[.int .u64 0,.int .u32 0] 171 (0,0))]]).H wg ch,false⟩:St);rw [show(Ap U H [[(ch,.chan 0 #[] false 0 0 false)],[(wg,.cells #[.int .u64 0,.int .u32 0] 171 (0,0))]]).E=U from rfl,a0];have a1:Ay U H []:=trivial;refine Qa (F:=F) rfl (ai.mono Z) (aC.mono Z) (aD.mono Z) (Rp.mono _ Z aE) (aF.mono Z) (aj.mono (ay.trans ak)) (aP.mono ak) al aG (fun j _=>rfl) (fun j a2 E' a c a3=>⟨a2,a,c,rfl,a3⟩) (fun az ao bo=>?_) 13 0 rfl (by decide) U (Le.refl _) a1 T aY;refine zg 9 rfl ?_;refine JL.Y (v:= .func (.func 131) #[] ([.pointer (some F.sA),.pointer (some ⟨rc,0,none⟩)]:List Value).toArray) rfl (fun ρ h=>Yl.Gm (by simp) (by simp [h (.tmp 6) _ rfl,h (.tmp 5) _ rfl])) ?_;have aA:=QD (F:=F) (show 13<2147483648 by omega) (al.mono ao);refine JL.Ey (fi:= #[]) rfl rfl rfl rfl rfl rfl rfl (by first | exact aA | (simp only [List.append_toArray,List.nil_append,Array.append_empty,Array.empty_append];exact aA)) ?_
 refine zg 8 rfl ?_;refine JL.Y (v:= .chan (some ch)) rfl (fun ρ h=>Yl.load (Al underlying162) (h _ _ rfl) (At.G4 (j:=0) (al.mono ao) rfl)) ?_;refine zg 2 rfl ?_;refine JL.Gl ?_;refine JL.wk [(8,.slice none 0 0),(18,.chan (some ch))] rfl ?_;have a4:Ay az H [[]]:=trivial;refine PR (F:=F) (Q:=Q) rfl (fun g s h=>h) (qs:=qs) (fun kk v E' h=>h.2) (fun A bp a c g a5 am aB a6 a7 a8=>?_) 13 [] [] az none 0 [] rfl List.nodup_nil (by simp) (by decide) (Le.refl _) OL.nil a4;have ap:(Fz qs).Perm (A.map (partOf qs)):=by
  unfold Fz;refine List.Perm.map _ ?_;refine(List.perm_ext_iff_of_nodup (List.nodup_range.filter _) am).2 fun x=>?_;constructor
  ·intro K;simp at K;exact a6 x K.1 (by simpa [F] using K.2)
  ·intro K;have aa:=aB x K;simp;exact⟨aa.1,by simpa [F] using aa.2⟩
 have a9:(Fz qs).Pairwise (fun p q=>p.1<q.1):=by
  unfold Fz;rw [List.pairwise_map];refine List.Pairwise.filter _ ?_;refine List.Pairwise.imp ?_ List.pairwise_lt_range;intro a b an;exact Int.ofNat_lt.2 an
 have hlen:(A.map (partOf qs)).length≤13:=by
  rw [← ap.length_eq];unfold Fz;rw [List.length_map];exact Nat.le_trans (List.length_filter_le _ _) (by simp)
 have ba:KO (A.map (partOf qs)):=by
  intro x K;obtain⟨j,aj,rfl⟩:=List.mem_map.1 K;have aa:=(aB j aj).1;simp only [partOf];omega
 have bb:(A.map (partOf qs)).length=(Fz qs).length:=ap.length_eq.symm;refine zg 3 rfl ?_;refine JS.Kz (vs:= [.slice a (A.map (partOf qs)).length c,.func (.func 134) #[] #[]]) 0 (Sr hlen ba ap a9 a7) rfl rfl rfl (Aw func133 rfl) rfl a8 rfl ?_;rintro _ bq g' bc ⟨rfl,bd⟩ bf;refine zg 6 rfl ?_;refine JS.BJ 0 bd bf rfl fun br bg bh bi=>?_;refine JL.ret (v:= .slice a (A.map (partOf qs)).length c) rfl rfl (Bx.list func102 rfl (vs:= [.slice a (A.map (partOf qs)).length c]) ⟨rfl,trivial⟩) ?_;exact aI _ _ _ [] ((((Z.trans ao).trans a5).trans bc).trans bg) (by simp) ⟨a,c,by rw [bb],rfl,bh⟩ bi
end Pal
namespace Pal
open Go Go.Conc Go.Proofs
open Go.Proofs.Tryz
open Go.Conc.Lib Go.ConcR.Gen
def IM(fuel:Nat)(A:Br)(K:AW):Option (List (A3)):=
 if(List.range 13).all (fun j=>(FG fuel A K ((j:Nat):Int)).isSome)=true then some (Fz fun j=>(FG fuel A K ((j:Nat):Int)).getD (0,[])) else none
theorem Mm
  {E:LH} {k1 U:Nat} {Z aa ab:Ar} {ac ae ag:Nat} {ah:List Value} {A:Br} {K:AW} (al:At E k1 U (([.slice Z (A.1).length ac,.slice aa (A.2.1).length ae]:List Value)++ah)) (am:Ao (rL rI) E Z ac (A.1)) (an:Ao (rL rI) E aa ae (A.2.1)) (ao:(rA 13 (rN .u16)).r E ah (A.2.2)) (ap:Ao Bv E ab ag K) {fuel:Nat} {r:List (A3)} (O:IM fuel A K=some r):
  Aq (Cr Tryz.prog) 102 [.pointer (some ⟨k1,U,none⟩),.slice ab K.length ag] E [] (fun w E' B'=>∃(ai:Ar) (aj:Nat),w= .slice ai r.length aj∧B'= []∧Ao BH E' ai aj r):=by
 unfold IM at O;split at O
 ·rename_i ak;cases O;refine(RA al am an ao ap (fuel:=fuel) (qs:=fun j=>(FG fuel A K ((j:Nat):Int)).getD (0,[])) fun j aq=>?_).mono ?_
  ·rw [List.all_eq_true] at ak;obtain⟨q,ar⟩:=Option.isSome_iff_exists.1 (ak j (List.mem_range.2 aq));rw [ar];rfl
  ·rintro w E' B' _ ⟨a,c,au,av,aw⟩;exact⟨a,c,au,av,aw⟩
 ·cases O
end Pal
namespace Pal
open Go Go.Conc Go.Proofs
open Go.Proofs.Tryz
def N8(fuel:Nat)(K:A3)(A:Int×(List (By))×Int):Option (A4 (Int×(List (By))×Int) (Int×(List (By)))):=
 if A.2.2<((K.2.2).length:Int) then(
  (ix K.2.2 (A.2.2)).bind fun U=>
  (He fuel A.1 A.2.1 U K.2.1).bind fun O=>
  (Ax (A.2.2+1)).bind fun Z=>
  some (.more (O.1,O.2,Z))
 ) else(
  some (.done (A.1,A.2.1))
 )
def NY(fuel:Nat)(K:(List (A3)))(A:Int×(List (By))×Int):Option (A4 (Int×(List (By))×Int) (Int×(List (By)))):=
 if A.2.2<((K).length:Int) then(
  (ix K (A.2.2)).bind fun U=>
  Option.bind (iter (N8 fuel U) fuel (A.1,A.2.1,0)) fun O=>
  (Ax (A.2.2+1)).bind fun Z=>
  some (.more (O.1,O.2,Z))
 ) else(
  some (.done (A.1,A.2.1))
 )
def f93(fuel:Nat)(p0:Br)(p1:AW):Option ((Int×(List (By)))):=
 (IM fuel p0 p1).bind fun A=>
 Option.bind (iter (NY fuel A) fuel (0,[],0)) fun K=>
 some K
theorem Jf{E:LH}{k1:Nat}{aP:Nat}{aQ:Ar}{aR:Nat}{aS:Ar}{aT:Nat}{aU:List Value}{aV:Ar}{aW:Nat}{p0:Br}{p1:AW}(a9:At E k1 aP (([.slice aQ (p0.1).length aR,.slice aS (p0.2.1).length aT]:List Value)++aU))(ba:Ao (rL rI) E aQ aR (p0.1))(bb:Ao (rL rI) E aS aT (p0.2.1))(bc:(rA 13 (rN .u16)).r E aU (p0.2.2))(bd:Ao Bv E aV aW (p1)){fuel:Nat}{r:(Int×(List (By)))}(aX:f93 fuel p0 p1=some r):Aq (Cr Tryz.prog) 93 [.pointer (some ⟨k1,aP,none⟩),.slice aV (p1).length aW] E [] (fun w E' B'=>∃(aY:Ar) (aZ:Nat),w= .agg #[iV r.1,.slice aY (r.2).length aZ]∧B'= []∧Ao Ca E' aY aZ (r.2)):=by
 refine Aq.en func93 rfl rfl fun Q cq cs H bf bg=>?_;unfold f93 at aX;refine zg 2 rfl ?_;refine JS.alloc rfl rfl rfl bf (AO type97) fun O bh=>?_;refine zg 3 rfl ?_;refine JS.alloc rfl rfl rfl bh (AO type97) fun U bi=>?_;obtain⟨K,bj,bk⟩:=bs aX;refine zg 6 rfl ?_;refine JS.cl (Mm a9 ba bb bc bd bj) rfl rfl (Aw func102 rfl) bi ?_;rintro _ aB _ bl ⟨ag,ah,rfl,rfl,bm⟩ bn;refine JL.Y rfl (fun ρ h=>Yl.len rfl underlying130 (h _ _ rfl)) ?_;obtain⟨A,bo,bp⟩:=bs bk;refine zg 2 rfl ?_;refine JL.join (fun L s=>∃(aC:LH) (Z:Ar) (aa:Nat) (aD:Seg),Jn aB H aC [[(O,.cells #[iV 0,.slice none 0 0] 97 (0,0))],[(U,.cells #[iV A.1,.slice Z (A.2).length aa] 97 (0,0))],aD] [(4,.pointer (some ⟨O,0,none⟩)),(5,.pointer (some ⟨U,0,none⟩))] L s (OL 104 Ca aC Z aa aD (A.2))) ?_ ?_
 ·rintro _ _ ⟨aC,Z,aa,aD,rfl,rfl,bq,a0,br⟩;refine zg 2 rfl ?_;refine JL.Y rfl (fun ρ h=>Yl.Bs (vs:= [iV A.1,.slice Z (A.2).length aa]) (Al underlying97) (Ag type97) (h _ _ rfl) (D8 (off:=0) 1 a0 rfl rfl)) ?_;refine JS.st (v:= .agg #[iV A.1,.slice Z (A.2).length aa]) (off:=0) 0 a0 (Ag type97) rfl rfl rfl rfl fun bu=>?_;refine JL.done ?_;refine JS.BJ 2 br bu rfl fun cr bv bw bx=>?_;refine JS.drop 1 bx rfl fun a1=>?_;obtain rfl:=oi bp;refine JL.ret (v:= .agg #[iV A.1,.slice Z (A.2).length aa]) rfl rfl (Bx.list func93 rfl (vs:= [.agg #[iV A.1,.slice Z (A.2).length aa]]) ⟨⟨_,rfl,Ld.many (vs:= [iV A.1,.slice Z (A.2).length aa]) (Al underlying97) (Ag type97) (D8 (off:=0) 0 a1 rfl rfl)⟩,trivial⟩) ?_;refine F0 0 a1 rfl fun bz=>?_;exact bg _ _ _ _ ((bl.trans bq).trans bv) rfl ⟨Z,aa,rfl,rfl,bw⟩ bz
 ·intro bA;refine JL.block ?_;refine JL.wk [(4,.pointer (some ⟨O,0,none⟩)),(5,.pointer (some ⟨U,0,none⟩)),(12,.slice ag (K).length ah),(13,iV ((K).length:Int)),(14,iV 0)] rfl ?_;refine JL.Bf bo (fun L s ab=>∃(am:LH) (ai:Ar) (aj:Nat) (ak:Seg),Jn aB H am [[(O,.cells #[iV 0,.slice none 0 0] 97 (0,0))],[(U,.cells #[iV ab.1,.slice ai (ab.2.1).length aj] 97 (0,0))],ak] [(4,.pointer (some ⟨O,0,none⟩)),(5,.pointer (some ⟨U,0,none⟩)),(12,.slice ag (K).length ah),(13,iV ((K).length:Int)),(14,iV ab.2.2)] L s (OL 104 Ca am ai aj ak (ab.2.1))) ⟨aB,none,0,[],rfl,rfl,(Le.refl _),bn,OL.nil⟩ ?_;rintro _ _ ab ⟨am,ai,aj,ak,rfl,rfl,aE,a2,a3⟩ bB ⟨ct,aF⟩ bC;have aG:=aF;unfold NY at aG;refine zg 5 rfl ?_;refine JL.ifs (p:=ab.2.2<((K).length:Int)) rfl (fun aH=>?_) (fun aH=>?_)
  ·have bD:=ip aG aH;obtain⟨ac,bE,bF⟩:=bs bD;refine zg 5 rfl ?_;refine JS.BF (bm.mono aE) bE rfl rfl rfl rfl rfl underlying130 (Ag type133) ?_;rintro cu cv _ ⟨_,_,rfl,rfl,⟨_,_,rfl,rfl,⟨aI,aJ,rfl,bG⟩⟩⟩ bH;refine JL.Bj bH (Al underlying133) (Ag type133) rfl rfl ?_;refine JS.alloc rfl rfl rfl a2 (AO type133) fun a4 bI=>?_;refine JS.st (v:= .agg #[iV ac.1,iV ac.2.1,.slice aI (ac.2.2).length aJ]) (off:=0) 3 bI (Ag type133) rfl rfl rfl rfl fun bJ=>?_;refine JS.Ba 3 bJ rfl fun aK aL a5 bK=>?_;refine zg 3 rfl ?_;refine JL.fd underlying133 (Ag type97) rfl rfl rfl ?_;refine JL.fd underlying97 (Ag type95) rfl rfl rfl ?_;refine JL.ld 2 a5 (Al underlying95) rfl rfl rfl ?_;refine JL.Y rfl (fun ρ h=>Yl.len rfl underlying95 (h _ _ rfl)) ?_;obtain⟨al,bL,bM⟩:=bs bF;refine zg 2 rfl ?_;refine JL.join (fun L s=>∃(an:LH) (ao:Ar) (ap:Nat) (aq:Seg),Jn aK H an [[(O,.cells #[iV 0,.slice none 0 0] 97 (0,0))],[(U,.cells #[iV al.1,.slice ao (al.2).length ap] 97 (0,0))],aq] [(4,.pointer (some ⟨O,0,none⟩)),(5,.pointer (some ⟨U,0,none⟩)),(12,.slice ag (K).length ah),(13,iV ((K).length:Int)),(14,iV ab.2.2)] L s (OL 104 Ca an ao ap aq (al.2))) ?_ ?_
   ·rintro _ _ ⟨an,ao,ap,aq,rfl,rfl,bN,bO,bP⟩;obtain⟨bQ,bR,bS⟩:=bs bM;refine zg 2 rfl ?_;refine JL.Y rfl (fun ρ h=>Yl.A0 (h _ _ rfl) (h _ _ rfl) bR) ?_;refine zg 2 rfl ?_;obtain rfl:=oi bS;exact JL.kw (bC _ _ (al.1,al.2,bQ) ⟨an,ao,ap,aq,rfl,rfl,((aE.trans aL).trans bN),bO,bP⟩ aF) rfl
   ·intro bT;refine JL.block ?_;refine JL.wk [(4,.pointer (some ⟨O,0,none⟩)),(5,.pointer (some ⟨U,0,none⟩)),(7,.pointer (some ⟨a4,0,none⟩)),(12,.slice ag (K).length ah),(13,iV ((K).length:Int)),(14,iV ab.2.2),(20,.slice aI (ac.2.2).length aJ),(21,iV ((ac.2.2).length:Int)),(22,iV 0)] rfl ?_;refine JL.Bf bL (fun L s ae=>∃(ar:LH) (au:Ar) (av:Nat) (aw:Seg),Jn aK H ar [[(O,.cells #[iV 0,.slice none 0 0] 97 (0,0))],[(U,.cells #[iV ae.1,.slice au (ae.2.1).length av] 97 (0,0))],aw] [(4,.pointer (some ⟨O,0,none⟩)),(5,.pointer (some ⟨U,0,none⟩)),(7,.pointer (some ⟨a4,0,none⟩)),(12,.slice ag (K).length ah),(13,iV ((K).length:Int)),(14,iV ab.2.2),(20,.slice aI (ac.2.2).length aJ),(21,iV ((ac.2.2).length:Int)),(22,iV ae.2.2)] L s (OL 104 Ca ar au av aw (ae.2.1))) ⟨aK,ai,aj,ak,rfl,rfl,(Le.refl _),bK,(a3.mono aL)⟩ ?_;rintro _ _ ae ⟨ar,au,av,aw,rfl,rfl,ay,a6,a7⟩ bU ⟨cw,aM⟩ bV;have aN:=aM;unfold N8 at aN;refine zg 5 rfl ?_;refine JL.ifs (p:=ae.2.2<((ac.2.2).length:Int)) rfl (fun aO=>?_) (fun aO=>?_)
    ·have bW:=ip aN aO;obtain⟨az,bX,bY⟩:=bs bW;refine zg 5 rfl ?_;refine JS.BF (bG.mono (aL.trans ay)) bX rfl rfl rfl rfl rfl underlying95 (Ag type104) ?_;rintro cy cz _ ⟨_,_,rfl,rfl,⟨_,_,rfl,⟨bZ,b0,rfl,b1⟩,rfl⟩⟩ b2;refine JL.Bj b2 (Al underlying104) (Ag type104) rfl rfl ?_;refine JS.alloc rfl rfl rfl a6 (AO type104) fun cA b3=>?_;refine JS.st (v:= .agg #[iV az.1,.slice bZ (az.2.1).length b0,.int .u16 ((az.2.2:Nat):Int)]) (off:=0) 3 b3 (Ag type104) rfl rfl rfl rfl fun b4=>?_;refine JS.Ba 3 b4 rfl fun cB aA b5 b6=>?_;refine zg 2 rfl ?_;refine JL.Bj b5 (Al underlying104) (Ag type104) rfl rfl ?_;refine JL.fd underlying133 (Ag type97) rfl rfl rfl ?_;refine JL.fd underlying97 (Ag type3) rfl rfl rfl ?_;refine JL.ld 1 (a5.mono (ay.trans aA)) (Al underlying3) rfl rfl rfl ?_;obtain⟨a8,b7,b8⟩:=bs bY;refine JS.merge 1 2 rfl rfl b6 fun b9=>?_;refine JS.BL 1 (SM (age:=0) (a7.mono aA) (tr:=az) (b1.mono aA) b7) rfl rfl (Aw func122 rfl) b9 rfl ?_;rintro _ ca _ cb ⟨cc,cd,ce,rfl,rfl,cf⟩ cg;refine JS.part 1 rfl cg fun ci=>?_;obtain⟨ck,cm,cn⟩:=bs b8;refine zg 3 rfl ?_;refine JL.Y rfl (fun ρ h=>Yl.A0 (h _ _ rfl) (h _ _ rfl) cm) ?_;refine zg 2 rfl ?_;obtain rfl:=oi cn;exact JL.kw (bV _ _ (a8.1,a8.2,ck) ⟨ca,cc,cd,ce,rfl,rfl,((ay.trans aA).trans cb),ci,cf⟩ aM) rfl
    ·have co:=im aN aO;refine JL.exit rfl ?_;obtain rfl:=oi co;obtain rfl:=bU _ aM;exact JL.kw (bT _ _ ⟨ar,au,av,aw,rfl,rfl,ay,a6,a7⟩) rfl
  ·have cp:=im aG aH;refine JL.exit rfl ?_;obtain rfl:=oi cp;obtain rfl:=bB _ aF;exact JL.kw (bA _ _ ⟨am,ai,aj,ak,rfl,rfl,aE,a2,a3⟩) rfl
end Pal
namespace Pal
open Go Go.Conc Go.Proofs
open Go.Proofs.Tryz
variable {J:Judge Tryz.prog}{E:LH}
def Jk(fuel:Nat)(p0:AW):Option ((AW)):=
 (C7 ([]:AW) p0).bind fun A=>
 some A
theorem RJ{ad:Addr}{c2:Nat}{p0:AW}(U:Ao Bv E (some ad) c2 p0){fuel:Nat}{r:(AW)}(A:Jk fuel p0=some r):Aq J 123 [.slice (some ad) (p0).length c2] E [] (fun w E' B'=>∃(K:Ar) (O:Nat) (g0:Seg),w= .slice K (r).length O∧B'=g0∧OL 27 Bv E' K O g0 (r)):=by
 refine Aq.en func123 rfl rfl fun Q am cs H Z aa=>?_;unfold Jk at A;refine zg 8 rfl ?_;refine JL.Y (v:= .bool false) rfl (fun ρ h=>Yl.I2 (a:=(some ad)) underlying25 (h _ _ rfl) (h _ _ rfl)) ?_;refine zg 5 rfl ?_;refine JS.G8 (pp:=Bv) rfl rfl rfl underlying25 (Ag type27) Z fun an ao ab ac=>?_;obtain⟨ap,ae,ag⟩:=bs A;refine zg 1 rfl ?_;refine JS.KV (pp:=Bv) 1 ae rfl rfl rfl rfl rfl rfl rfl underlying25 underlying25 (Ag type27) (Cs type27) (AO type27) rfl (by decide) (by decide) ab U ac rfl fun ah ai aj ak al=>?_;refine zg 2 rfl ?_;obtain rfl:=oi ag;refine JL.rt func123 rfl rfl ?_;exact aa _ _ _ _ (Le.refl _) rfl ⟨ah,ai,aj,rfl,(by first | rfl | simp | (simp [Value.cells])),ak⟩ al
def Oy(fuel:Nat)(p0:AW):Option ((AW)):=
 some ([])
theorem RH{c2:Nat}{p0:AW}(aa:Ao Bv E none c2 p0){fuel:Nat}{r:(AW)}(A:Oy fuel p0=some r):Aq J 123 [.slice none (p0).length c2] E [] (fun w E' B'=>∃(K:Ar) (O:Nat) (g0:Seg),w= .slice K (r).length O∧B'=g0∧OL 27 Bv E' K O g0 (r)):=by
 refine Aq.en func123 rfl rfl fun Q ab cs H U Z=>?_;unfold Oy at A;refine zg 8 rfl ?_;refine JL.Y (v:= .bool true) rfl (fun ρ h=>Yl.I2 (a:=none) underlying25 (h _ _ rfl) (h _ _ rfl)) ?_;refine zg 6 rfl ?_;obtain rfl:=oi A;refine JL.rt func123 rfl rfl ?_;exact Z _ _ _ _ (Le.refl _) rfl ⟨none,0,[],rfl,rfl,OL.nil⟩ U
def f123(fuel:Nat)(p0:AW):Option (AW):=Jk fuel p0
theorem SR{K:Ar}{c2:Nat}{p0:AW}(O:Ao Bv E K c2 p0){fuel:Nat}{r:AW}(A:f123 fuel p0=some r):Aq J 123 [.slice K p0.length c2] E [] (fun w E' B'=>∃(U:Ar) (Z:Nat) (g0:Seg),w= .slice U r.length Z∧B'=g0∧OL 27 Bv E' U Z g0 r):=by
 cases K with
 | some ad=>exact RJ O A
 | none=>
  have aa:p0= []:=by
   rcases O.2 with h | ⟨_,_,h,_⟩
   ·exact h.1
   ·cases h
  subst aa;have ab:r= []:=by
   have ac:Jk fuel []=some []:=rfl;unfold f123 at A;rw [ac] at A;exact(Option.some.inj A).symm
  subst ab;exact RH (fuel:=fuel) O rfl
end Pal
