/- DebtCoins: a part (5 of 9) of the proof of its row. -/
import Derived.Test.YtgpbjmfcllmohaaGreatDoorCoa
import Derived.Test.YtgpbjmfcllmohaaGreatDoorCob
import Derived.Test.YtgpbjmfcllmohaaGreatDoorCoc
import Derived.Test.YtgpbjmfcllmohaaGreatDoorCod
import Derived.Conc.ClockLaws
import Derived.Conc.WgGenN3
import Derived.Handed
import Derived.LaidLaws
import Derived.LaidHandle
import Derived.Test.YtgpbjmfcllmohaaGreatDoorRows
import Derived.Test.YtgpbjmfcllmohaaGreatDoorChecked
import Derived.Conc.LeavingOf
import Derived.Conc.HoldsTime
import Derived.Carry
import Derived.ChangeSame
import Derived.ChangeVars
import Derived.ChangeSlices
import Derived.JoinedOf
import Derived.RowKit
import Derived.Deep.Strs
import Derived.Stop.Joined
set_option linter.all false
set_option maxRecDepth 100000
namespace Pal
open Go Go.Conc Go.Proofs
open Go.Proofs.Tryz
variable {J:Judge Tryz.prog}
variable {E:LH}
def PC(fu_:Nat)(p2:Nat)(sl:AE)(rec:(List AU)->Nat->AE->(List ((Nat×Bv)×Bool))->Option (Bool×List ((Nat×Bv)×Bool)))(Y:(List ((Nat×Bv)×Bool))×Bool×Int)(O:(List (List AU)))(K:(List ((Nat×Bv)×Bool))×Bool×Int):Option (Bt ((List ((Nat×Bv)×Bool))×Bool×Int) (Bool×(List ((Nat×Bv)×Bool)))):=if K.2.2<(O.length:Int) then((ix O K.2.2).bind λZ=>Option.bind (if K.2.1=true then(some (true,K.1)) else((Jb Y.2.2).bind λac=>(L4 p2 ac).bind λag=>(rec Z ag sl K.1).bind λai=>some ai)) λU=>(Av (K.2.2+1)).bind λal=>some (.more (U.2,U.1,al))) else(some (.done (K.2.1,K.1)))
def Pw(fu_:Nat)(p1:List AU)(p2:Nat)(sl:AE)(rec:(List AU)->Nat->AE->(List ((Nat×Bv)×Bool))->Option (Bool×List ((Nat×Bv)×Bool)))(K:(List ((Nat×Bv)×Bool))×Bool×Int):Option (Bt ((List ((Nat×Bv)×Bool))×Bool×Int) (Bool×(List ((Nat×Bv)×Bool)))):=if K.2.2<(sl.length:Int) then(Option.bind ((ix sl K.2.2).bind λU=>(MG p2 K.2.2).bind λY=>(MJ Y 1).bind λZ=>Option.bind (if(((Z):Nat):Int)=(((1):Nat):Int) then(some true) else(some K.2.1)) λac=>if ac=true then(some (K.2.1,K.1)) else((f186 fu_ p1 U).bind λag=>Option.bind (iter (PC fu_ p2 sl rec K ag) fu_ (K.1,K.2.1,0)) λai=>some ai)) λO=>(Av (K.2.2+1)).bind λal=>some (.more (O.2,O.1,al))) else(some (.done (K.2.1,K.1)))
def PK(rec:(List AU)->Nat->AE->(List ((Nat×Bv)×Bool))->Option (Bool×List ((Nat×Bv)×Bool)))(fu_:Nat)(p1:List AU)(p2:Nat)(sl:AE)(sm:List ((Nat×Bv)×Bool)):Option (Bool×List ((Nat×Bv)×Bool)):=(Jb (sl.length:Int)).bind λU=>if(((p2):Nat):Int)=(((((U+(256 - 1))%256)):Nat):Int) then(some (true,sm)) else((f187 fu_ p1).bind λK=>if(Bh sm (p2,K)).isSome=true then(some (((Bh sm (p2,K)).getD false),sm)) else(Option.bind (iter (Pw fu_ p1 p2 sl rec) fu_ (sm,((Bh sm (p2,K)).getD false),0)) λO=>some (O.1,(Ck O.2 (p2,K) O.1))))
variable{a1:Aq}{K ai c2 fu_ kf os p2:Nat}{p1:List (AU)}{sl:AE}{sm:List ((Nat×Bv)×Bool)}{r:Bool×List ((Nat×Bv)×Bool)}
theorem aY{J:Judge Tryz.prog}{rec:(List AU)->Nat->AE->(List ((Nat×Bv)×Bool))->Option (Bool×List ((Nat×Bv)×Bool))}(el:∀{E:LH}{a1:Aq}{c2 kf os:Nat}{ag:Aq}{ai K:Nat}{al:Obj}{p1:List (AU)}{p2:Nat}{sl:AE}{sm:List ((Nat×Bv)×Bool)}(b4:Ao (rM rI false rI false) E a1 c2 p1) (a0:At E kf os [sV ag sl ai,.map (some K)]) (b5:Ao Ay E ag ai sl) (a4:BQ (rP (rN .u8) (rA 5 (rA 10 rI))) true rB false E al sm) {r:Bool×List ((Nat×Bv)×Bool)}(b6:rec p1 p2 sl sm=some r),AW J 117 [Al kf os,sV a1 p1 c2,.int .u8 ((p2:Nat):Int)] E [(K,al)] (λw E' B'=>∃(a5:Obj),w=.bool r.1/\B'=[(K,a5)]/\BQ (rP (rN .u8) (rA 5 (rA 10 rI))) true rB false E' a5 r.2)){E:LH}{ag:Aq}{al:Obj}(b4:Ao (rM rI false rI false) E a1 c2 p1)(a0:At E kf os [sV ag sl ai,.map (some K)])(b5:Ao Ay E ag ai sl)(a4:BQ (rP (rN .u8) (rA 5 (rA 10 rI))) true rB false E al sm)(b6:PK rec fu_ p1 p2 sl sm=some r):AW J 117 [Al kf os,sV a1 p1 c2,.int .u8 ((p2:Nat):Int)] E [(K,al)] (λw E' B'=>∃(a5:Obj),w=.bool r.1/\B'=[(K,a5)]/\BQ (rP (rN .u8) (rA 5 (rA 10 rI))) true rB false E' a5 r.2):=by
 refine Bs func117 λQ ih cs H c5 ca=>?_;unfold PK at b6;refine C 10 V (Cg 0 a0 underlying113 A0 BH ?_);refine JL.ln underlying69 V V V ?_;let⟨c6,em,eo⟩:=bs b6;refine An (v:=.int .u8 ((c6:Nat):Int)) V (λρ h=>Nn (h _ _ V) (h _ _ V) em) (An (v:=.int .u8 ((((c6+(256 - 1))%256):Nat):Int)) V (λρ h=>aK (h _ _ V) (h _ _ V) (by decide)) ?_);refine C 2 V (A5 eo (λep er=>?_) (λep eu=>?_));refine C 4 V (BS (S':=[[(K,al)]]) V c5 λew=>?_);cases er;exact A4 func117 V V (ca AR V ⟨al,V,(by first | rfl | simp),a4⟩ ew)
 .let⟨be,ex,ey⟩:=bs eu;refine C 5 V (B4 (Wg b4 ex) V V (A8 func119 V) c5 ?_);rintro _ c7 _ Z ⟨av,rfl,rfl,am⟩ eA;refine An (v:=.agg (([.int .u8 ((p2:Nat):Int)]:Lv_)++av).toArray) V (λρ h=>bS h (DJ type225) V underlying225 ⟨V,A2 type5,V,A2 type208,trivial⟩ V V V (B9 (kk:=5) (pp:=(rA 10 rI)) am)) (B3 eA (DJ type225) λaw eC=>?_);refine Hr (v:=.agg (([.int .u8 ((p2:Nat):Int)]:Lv_)++av).toArray) (l:=[]) (ws:=(([.int .u8 ((0:Nat):Int)]:Lv_)++((List.replicate 5 (List.replicate 10 (iV 0):Lv_)).flatten:Lv_))) (us:=(([.int .u8 ((p2:Nat):Int)]:Lv_)++av)) (o:=0) 2 V V V eC V V V (by rw[pJ,B9 (kk:=5) (pp:=(rA 10 rI)) am];exact A2 type225) (λu hu=>(gM.1 hu).elim (λhu=>by simp at hu;first | (subst hu;rfl) | (rcases hu with rfl | rfl<;>rfl)) ((rA 5 (rA 10 rI)).one am u)) V (by rw[pJ,pJ,B9 (kk:=5) (pp:=(rA 10 rI)) am,B9 (kk:=5) (pp:=(rA 10 rI)) (O9 (E:=c7) (Gw (pp:=rI) rfl))];simp) λc8=>?_
  rw[Jt (by rw[pJ,pJ,B9 (kk:=5) (pp:=(rA 10 rI)) am,B9 (kk:=5) (pp:=(rA 10 rI)) (O9 (E:=c7) (Gw (pp:=rI) rfl))];rfl)] at c8 ⊢;refine Dl 2 c8 V λcc O c9 ce=>C 2 V (Sl 10 λac=>?_);refine Bb ac V [0,1] V (JG.fd 2 ac underlying113 (A2 type111) V V V V ?_);refine AS (v:=.map (some K)) 3 ac V V (λρ h s' ap=>Yl.load (CL underlying111) (h _ _ V) (NM ap (At.Kn (j:=1) (a0.Ah (Z.Ad O)) V))) (AS 4 ac V V (λρ h s' ap=>IV (vs:=(([.int .u8 ((p2:Nat):Int)]:Lv_)++av)) (CL underlying225) (by rw[pJ,B9 (kk:=5) (pp:=(rA 10 rI)) (Rp.Ah _ O am)];exact A2 type225) (h _ _ V) (V5 ap (At.Sc c9))) ?_);refine AS (v:=.tuple #[.bool (((Bh sm (p2,be)).getD false)),.bool ((Bh sm (p2,be)).isSome)]) 5 ac V V (λρ h s' ap=>Yl.lookup (ok:=true) (xs:=sm) (x0:=(p2,be)) (z0:=false) WT underlying111 M3 ⟨_,V,V⟩ (a4.Ah (Z.Ad O)) ⟨_,⟨[.int .u8 ((p2:Nat):Int)],av,V,V,(Rp.Ah _ O am)⟩,V⟩ (by rintro _ ⟨_,rfl,rfl⟩;rfl) (h _ _ V) (h _ _ V) (SN ap (Dz (j:=0) (i:=0) ce V V))) (Bb ac V [6,7,8,9] V ?_);refine Dc [10] (C 7 V ?_);refine CH ey (λeN e0=>?_) (λeN e1=>?_);refine C 5 V ?_;cases e0;exact A4 func117 V V (ca (Z.Ad O) V ⟨al,V,(by first | rfl | simp),(a4.Ah (Z.Ad O))⟩ ce);refine C 6 V (Cg 0 (a0.Ah (Z.Ad O)) underlying113 A0 BH ?_);refine JL.ln underlying69 V V V ?_;let⟨bi,e3,e4⟩:=bs e1;refine C 2 V (BF (λL s=>∃(ci:LH) (co:Obj),Jn cc H ci [[(K,co)]] [(0,Al kf os),(7,Al aw 0),(8,.bool bi.1)] L s (BQ (rP (rN .u8) (rA 5 (rA 10 rI))) true rB false ci co bi.2)) ?_ ?_);rintro _ _ ⟨ci,co,rfl,rfl,a6,e5,e6⟩;refine JL.seq (Sl 6 λac=>?_);refine Bb ac V [0,1] V (JG.fd 2 ac underlying113 (A2 type111) V V V V ?_);refine AS (v:=.map (some K)) 3 ac V V (λρ h s' ap=>Yl.load (CL underlying111) (h _ _ V) (NM ap (At.Kn (j:=1) (a0.Ah ((Z.Ad O).Ad a6)) V))) (AS 4 ac V V (λρ h s' ap=>IV (vs:=(([.int .u8 ((p2:Nat):Int)]:Lv_)++av)) (CL underlying225) (by rw[pJ,B9 (kk:=5) (pp:=(rA 10 rI)) (Rp.Ah _ (O.Ad a6) am)];exact A2 type225) (h _ _ V) (V5 ap (At.Sc (c9.Ah a6)))) ?_);refine Dr 5 ac V V (Dc [6] ?_);refine JS.mapUpdate (xs:=bi.2) (x0:=(p2,be)) (v0:=bi.1) 0 WT underlying111 e6 ⟨_,⟨[.int .u8 ((p2:Nat):Int)],av,V,V,(Rp.Ah _ (O.Ad a6) am)⟩,V⟩ ⟨_,V,V⟩ e5 V V V V V V V λe7 e8 ff=>C 6 V ?_;cases e4;exact A4 func117 V V (ca ((Z.Ad O).Ad a6) V ⟨e7,V,(by first | rfl | simp),e8⟩ ff);intro fk;refine JL.block (Cr e3 (λL s U=>∃(a7:LH) (ay:Obj),Jn cc H a7 [[(K,ay)]] [(0,Al kf os),(1,sV a1 p1 c2),(2,.int .u8 ((p2:Nat):Int)),(7,Al aw 0),(8,.bool U.2.1),(41,sV ag sl ai),(42,iV (sl.length:Int)),(43,iV U.2.2)] L s (BQ (rP (rN .u8) (rA 5 (rA 10 rI))) true rB false a7 ay U.1)) ⟨cc,al,V,V,AR,ce,(a4.Ah (Z.Ad O))⟩ ?_);rintro _ _ U ⟨a7,ay,rfl,rfl,a2,dd,cp⟩ fl ⟨ii,ct⟩ fm;have dj:=ct;unfold Pw at dj;refine C 5 V (A5 dj (λfo fs=>?_) (λfo fv=>?_));let⟨bn,fw,fN⟩:=bs fs;refine C 2 V (BF (λL s=>∃(bo:LH) (bv:Obj),Jn a7 H bo [[(K,bv)]] [(0,Al kf os),(1,sV a1 p1 c2),(2,.int .u8 ((p2:Nat):Int)),(7,Al aw 0),(8,.bool bn.1),(41,sV ag sl ai),(42,iV (sl.length:Int)),(43,iV U.2.2)] L s (BQ (rP (rN .u8) (rA 5 (rA 10 rI))) true rB false bo bv bn.2)) ?_ ?_);rintro _ _ ⟨bo,bv,rfl,rfl,gc,ge,gg⟩;let⟨gh,gt,gE⟩:=bs fN;refine JL.region (BE gt V V V ?_);refine C 2 V ?_;cases gE;exact AH (fm _ _ (bn.2,bn.1,gh) ⟨bo,bv,V,V,(a2.Ad gc),ge,gg⟩ ct) V;intro ea;let⟨io,gO,g3⟩:=bs fw;refine C 4 V (JS.ix (b5.Ah ((Z.Ad O).Ad a2)) gO underlying69 Bx ?_);rintro i0 i1 _ ⟨_,_,rfl,rfl,⟨_,_,rfl,rfl,rfl⟩⟩ g4;refine Cf g4 Eh Bx V V (B3 dd BT λg5 g6=>?_);refine C 1 V (JS.sx 1 g6 Bx λg7=>?_);refine Dl 1 g7 V λcw az g8 eb=>?_;let⟨ha,hb,hc⟩:=bs g3;refine C 6 V (An (v:=.int .u8 ((ha:Nat):Int)) V (λρ h=>UL (h _ _ V) (h _ _ V) hb) ?_);let⟨he,hf,hg⟩:=bs hc;refine An (v:=.int .u8 ((he:Nat):Int)) V (λρ h=>UC (h _ _ V) (h _ _ V) hf) ?_;let⟨hj,hk,hl⟩:=bs hg;refine C 2 V (Ju [] (λL s=>∃(cy:LH),Jm cw H cy [[(K,ay)]] [(0,Al kf os),(1,sV a1 p1 c2),(2,.int .u8 ((p2:Nat):Int)),(7,Al aw 0),(8,.bool U.2.1),(10,iV U.2.2),(11,Al g5 0),(41,sV ag sl ai),(42,iV (sl.length:Int)),(43,iV U.2.2),(55,.bool hj)] L s) ?_ ?_);rintro _ _ ⟨cy,rfl,rfl,aq,ec⟩;refine JL.done (CH hl (λhm hn=>?_) (λhm ho=>?_));refine JL.exit V ?_;cases hn;exact AH (ea _ _ ⟨cy,ay,V,V,(az.Ad aq),ec,(cp.Ah (az.Ad aq))⟩) V;refine C 4 V (Cf (g8.Ah aq) Eh Bx V V ?_);let⟨bw,hp,hq⟩:=bs ho;refine B4 (WE (b4.Ah ((((Z.Ad O).Ad a2).Ad az).Ad aq)) hp) V V (A8 func118 V) ec ?_;rintro _ c0 _ bx ⟨ed,ee,rfl,rfl,hr⟩ hs;refine JL.ln underlying118 V V V ?_;let⟨ef,ht,hv⟩:=bs hq;refine C 2 V (BF (λL s=>∃(bz:LH) (b0:Obj),Jn c0 H bz [[(K,b0)]] [(0,Al kf os),(1,sV a1 p1 c2),(2,.int .u8 ((p2:Nat):Int)),(7,Al aw 0),(8,.bool ef.1),(41,sV ag sl ai),(42,iV (sl.length:Int)),(43,iV U.2.2)] L s (BQ (rP (rN .u8) (rA 5 (rA 10 rI))) true rB false bz b0 ef.2)) ?_ ?_);rintro _ _ ⟨bz,b0,rfl,rfl,hw,hx,hy⟩;refine Ow ?_;cases hv;exact AH (ea _ _ ⟨bz,b0,V,V,(((az.Ad aq).Ad bx).Ad hw),hx,hy⟩) V;intro hz;refine JL.block (Cr ht (λL s a8=>∃(a3:LH) (a9:Obj),Jn c0 H a3 [[(K,a9)]] [(0,Al kf os),(1,sV a1 p1 c2),(2,.int .u8 ((p2:Nat):Int)),(7,Al aw 0),(8,.bool a8.2.1),(10,iV U.2.2),(41,sV ag sl ai),(42,iV (sl.length:Int)),(43,iV U.2.2),(58,sV ed bw ee),(59,iV (bw.length:Int)),(60,iV a8.2.2)] L s (BQ (rP (rN .u8) (rA 5 (rA 10 rI))) true rB false a3 a9 a8.1)) ⟨c0,ay,V,V,AR,hs,(cp.Ah ((az.Ad aq).Ad bx))⟩ ?_);rintro _ _ a8 ⟨a3,a9,rfl,rfl,bb,c1,c3⟩ hA ⟨i3,c4⟩ hB;have eg:=c4;unfold PC at eg;refine C 5 V (A5 eg (λhC hD=>?_) (λhC hE=>?_));let⟨i4,hF,hG⟩:=bs hD;refine C 5 V (JS.ix (hr.Ah bb) hF underlying118 KF ?_);rintro i5 i6 _ ⟨i7,i8,rfl,hH⟩ hI;refine Dw 0 hI Ob V V V ?_;let⟨b1,hJ,hK⟩:=bs hG;refine C 5 V (Ju [10] (λL s=>∃(b2:LH) (b3:Obj),Jn a3 H b2 [[(K,b3)]] [(0,Al kf os),(1,sV a1 p1 c2),(2,.int .u8 ((p2:Nat):Int)),(7,Al aw 0),(10,iV U.2.2),(41,sV ag sl ai),(42,iV (sl.length:Int)),(43,iV U.2.2),(58,sV ed bw ee),(59,iV (bw.length:Int)),(60,iV a8.2.2),(73,.bool b1.1)] L s (BQ (rP (rN .u8) (rA 5 (rA 10 rI))) true rB false b2 b3 b1.2)) ?_ ?_);rintro _ _ ⟨b2,b3,rfl,rfl,hL,hM,hN⟩;let⟨hO,hP,hQ⟩:=bs hK;refine C 4 V (BE hP V V V ?_);refine C 2 V ?_;cases hQ;exact AH (hB _ _ (b1.2,b1.1,hO) ⟨b2,b3,V,V,(bb.Ad hL),hM,hN⟩ c4) V;intro ej;refine FB 65 hJ (λhR hS=>?_) (λhR hT=>?_);refine C 8 V ?_;cases hS;exact AH (ej _ _ ⟨a3,a9,V,V,AR,c1,c3⟩) V;obtain⟨hU,hV,hW⟩:=bs hT;refine C 4 V (An (v:=.int .u8 ((hU:Nat):Int)) V (λρ h=>Nn (h _ _ V) (h _ _ V) hV) ?_);let⟨hX,hY,h0⟩:=bs hW;refine An (v:=.int .u8 ((hX:Nat):Int)) V (λρ h=>OU (h _ _ V) (h _ _ V) hY) ?_;let⟨i9,h1,h2⟩:=bs h0;refine Cc 0 (el hH (a0.Ah ((((((Z.Ad O).Ad a2).Ad az).Ad aq).Ad bx).Ad bb)) (b5.Ah ((((((Z.Ad O).Ad a2).Ad az).Ad aq).Ad bx).Ad bb)) c3 h1) V V (A8 func117 V) c1 V ?_;rintro _ h3 _ h4 ⟨h5,rfl,rfl,h6⟩ h7;refine C 1 V ?_;cases h2;exact AH (ej _ _ ⟨h3,h5,V,V,h4,h7,h6⟩) V;refine JL.exit V ?_;cases hE;obtain rfl:=hA _ c4;exact AH (hz _ _ ⟨a3,a9,V,V,bb,c1,c3⟩) V;intro ek;refine Iz 53 hk (λh8 h9=>?_) (λh8 ia=>?_);refine C 2 V ?_;cases h9;exact AH (ek _ _ ⟨cw,V,V,AR,eb⟩) V;refine C 2 V ?_;cases ia;exact AH (ek _ _ ⟨cw,V,V,AR,eb⟩) V;refine JL.exit V ?_;cases fv;obtain rfl:=fl _ ct;exact AH (fk _ _ ⟨a7,ay,V,V,a2,dd,cp⟩) V
def NB:Nat->Nat->(List AU)->Nat->AE->(List ((Nat×Bv)×Bool))->Option (Bool×List ((Nat×Bv)×Bool))
 | 0,_=>λ_ _ _ _=>none
 | n+1,fu_=>λp1 p2 sl sm=>PK (NB n fu_) fu_ p1 p2 sl sm
theorem ar{J:Judge Tryz.prog}{n:Nat}:∀{E:LH}{a1:Aq}{c2 U os:Nat}{Y:Aq}{Z K:Nat}{ac:Obj}{p1:List (AU)}{p2:Nat}{sl:AE}{sm:List ((Nat×Bv)×Bool)}(ag:Ao (rM rI false rI false) E a1 c2 p1) (ai:At E U os [sV Y sl Z,.map (some K)]) (al:Ao Ay E Y Z sl) (am:BQ (rP (rN .u8) (rA 5 (rA 10 rI))) true rB false E ac sm) {r:Bool×List ((Nat×Bv)×Bool)}(O:NB n fu_ p1 p2 sl sm=some r),AW J 117 [Al U os,sV a1 p1 c2,.int .u8 ((p2:Nat):Int)] E [(K,ac)] (λw E' B'=>∃(ap:Obj),w=.bool r.1/\B'=[(K,ap)]/\BQ (rP (rN .u8) (rA 5 (rA 10 rI))) true rB false E' ap r.2):=by
 induction n with
 | zero=>intros;rename_i O;cases O
 | succ n aq=>intro E a1 c2 U os Y Z K ac p1 p2 sl sm ag ai al am r O;exact aY aq ag ai al am O
def f185(fu_:Nat)(p1:List AU)(p2:Nat)(sl:AE)(sm:List ((Nat×Bv)×Bool)):Option (Bool×List ((Nat×Bv)×Bool)):=NB fu_ fu_ p1 p2 sl sm
variable{a7:Aq}{a8:Nat}
theorem gW{Z:Obj}(ag:Ao (rM rI false rI false) E a1 c2 p1)(ai:At E kf os [sV a7 sl a8,.map (some K)])(al:Ao Ay E a7 a8 sl)(am:BQ (rP (rN .u8) (rA 5 (rA 10 rI))) true rB false E Z sm)(ap:f185 fu_ p1 p2 sl sm=some r):AW J 117 [Al kf os,sV a1 p1 c2,.int .u8 ((p2:Nat):Int)] E [(K,Z)] (λw E' B'=>∃(ac:Obj),w=.bool r.1/\B'=[(K,ac)]/\BQ (rP (rN .u8) (rA 5 (rA 10 rI))) true rB false E' ac r.2):=ar ag ai al am ap
def Pg(fu_:Nat)(p1:List (List AU))(p2:Nat)(sl:AE)(K:(List ((Nat×Bv)×Bool))×(List (List AU))×Int):Option (Bt ((List ((Nat×Bv)×Bool))×(List (List AU))×Int) ((List (List AU))×(List ((Nat×Bv)×Bool)))):=if K.2.2<(p1.length:Int) then((ix p1 K.2.2).bind λO=>(f185 fu_ O p2 sl K.1).bind λU=>Option.bind (if U.1=true then((room K.2.1 O).bind λY=>some Y) else(some K.2.1)) λZ=>(Av (K.2.2+1)).bind λac=>some (.more (U.2,Z,ac))) else(some (.done (K.2.1,K.1)))
def f160(fu_:Nat)(p1:List (List AU))(p2:Nat)(sl:AE)(sm:List ((Nat×Bv)×Bool)):Option ((List (List AU))×List ((Nat×Bv)×Bool)):=Option.bind (iter (Pg fu_ p1 p2 sl) fu_ (sm,[],0)) λK=>some K
theorem V1{bb:Aq}{be:Nat}{a3:Obj}{p1:List (List AU)}(b6:Ao (rL (rM rI false rI false)) E a1 c2 p1)(ca:At E ai os [sV bb sl be,.map (some kf)])(cc:Ao Ay E bb be sl)(ce:BQ (rP (rN .u8) (rA 5 (rA 10 rI))) true rB false E a3 sm){r:(List (List AU))×List ((Nat×Bv)×Bool)}(bi:f160 fu_ p1 p2 sl sm=some r):AW J 86 [Al ai os,sV a1 p1 c2,.int .u8 ((p2:Nat):Int)] E [(kf,a3)] (λw E' B'=>∃(bn:Aq) (bo:Nat) (bv:Obj),w= sV bn r.1 bo/\B'=[(kf,bv)]/\Ao (rL (rM rI false rI false)) E' bn bo r.1/\BQ (rP (rN .u8) (rA 5 (rA 10 rI))) true rB false E' bv r.2):=by
 refine Bs func86 λQ e6 cs H ci co=>?_;unfold f160 at bi;refine C 12 V (JL.ln underlying118 V V V ?_);let⟨a4,cp,ct⟩:=bs bi;refine C 2 V (BF (λL s=>∃(al:LH) (am:Aq) (ap:Nat) (a5:Seg) (aq:Obj),Jn E H al [[(kf,aq)],a5] [(7,sV am a4.1 ap)] L s (OL 116 (rL (rM rI false rI false)) al am ap a5 a4.1/\BQ (rP (rN .u8) (rA 5 (rA 10 rI))) true rB false al aq a4.2)) ?_ ?_);rintro _ _ ⟨al,am,ap,a5,aq,rfl,rfl,cw,cy,c0,c1⟩;refine C 5 V (Cp 1 c0 cy V λe7 bw c3 c4=>?_);cases ct;exact A4 func86 V V (co (cw.Ad bw) V ⟨am,ap,aq,V,(by first | rfl | simp),c3,(c1.Ah bw)⟩ c4);intro c5;refine JL.block (Cr cp (λL s O=>∃(Z:LH) (av:Obj) (U:Aq) (Y:Nat) (ac:Seg),Jn E H Z [[(kf,av)],ac] [(0,Al ai os),(2,.int .u8 ((p2:Nat):Int)),(7,sV U O.2.1 Y),(10,sV a1 p1 c2),(11,iV (p1.length:Int)),(12,iV O.2.2)] L s (BQ (rP (rN .u8) (rA 5 (rA 10 rI))) true rB false Z av O.1/\OL 116 (rL (rM rI false rI false)) Z U Y ac O.2.1)) ⟨E,a3,none,0,[],V,V,AR,ci,ce,OL.nil⟩ ?_);rintro _ _ O ⟨Z,av,U,Y,ac,rfl,rfl,ag,bx,bz,a6⟩ c6 ⟨e8,a7⟩ c7;have b0:=a7;unfold Pg at b0;refine C 5 V (A5 b0 (λc8 c9=>?_) (λc8 dd=>?_));let⟨dj,ea,eb⟩:=bs c9;refine C 5 V (JS.ix (b6.Ah ag) ea underlying118 KF ?_);rintro ff fk _ ⟨ec,ed,rfl,b1⟩ ee;refine Dw 0 ee Ob V V V ?_;let⟨ef,eg,ej⟩:=bs eb;refine C 7 V (Cc 0 (gW b1 (ca.Ah ag) (cc.Ah ag) bz eg) V V (A8 func117 V) bx V ?_);rintro _ a8 _ aw ⟨b2,rfl,rfl,ek⟩ b3;let⟨a9,el,em⟩:=bs ej;refine JL.done (BF (λL s=>∃(ay:LH) (az:Aq) (a0:Nat) (a2:Seg),Jn a8 H ay [[(kf,b2)],a2] [(0,Al ai os),(2,.int .u8 ((p2:Nat):Int)),(7,sV az a9 a0),(10,sV a1 p1 c2),(11,iV (p1.length:Int)),(12,iV O.2.2)] L s (OL 116 (rL (rM rI false rI false)) ay az a0 a2 a9)) ?_ ?_);rintro _ _ ⟨ay,az,a0,a2,rfl,rfl,b4,eo,ep⟩;let⟨er,eu,ew⟩:=bs em;refine C 2 V (BE eu V V V ?_);refine C 2 V ?_;cases ew;exact AH (c7 _ _ (ef.2,a9,er) ⟨ay,b2,az,a0,a2,V,V,((ag.Ad aw).Ad b4),eo,(ek.Ah b4),ep⟩ a7) V;intro b5;refine CH el (λex ey=>?_) (λex eA=>?_);let⟨fl,eC,eN⟩:=bs ey;refine C 3 V (JS.app (pp:=(rL (rM rI false rI false))) (v:=sV ec dj ed) (a:=U) (c:=Y) 1 eC V V V V (λ_=>V) V (λ_=>V) V V V underlying118 underlying118 underlying118 KF (Dv type116) Ol V (by decide) (by decide) (by decide) (by decide) (a6.Ah aw) ⟨_,_,V,(b1.Ah aw)⟩ b3 V λfm e0 e1 e3 e4 e5=>?_);refine C 2 V ?_;cases eN;exact AH (b5 _ _ ⟨a8,e0,e1,e3,V,V,AR,e5,e4⟩) V;refine JL.skip ?_;cases eA;exact AH (b5 _ _ ⟨a8,U,Y,ac,V,V,AR,b3,(a6.Ah aw)⟩) V;refine JL.exit V ?_;cases dd;obtain rfl:=c6 _ a7;exact AH (c5 _ _ ⟨Z,U,Y,ac,av,V,V,ag,bx,a6,bz⟩) V
variable {E:LH}
theorem bf{α:Type}{xs ys K:List α}{y:α}(h:Ds xs (y::ys)=some K):K≠ []:=by
 unfold Ds at h;split at h;cases h;simp;cases h
def OT(fu_:Nat)(sl:AE)(Z:(List ((Nat×Bv)×Bool))×(List (List AU))×SU)(ac:(List (List AU))×List ((Nat×Bv)×Bool))(U:Nat)(K:(List ((Nat×Bv)×Bool))×Int):Option (Bt ((List ((Nat×Bv)×Bool))×Int) (Int×(List ((Nat×Bv)×Bool)))):=if K.2<(sl.length:Int) then((ix sl K.2).bind λag=>(MG U K.2).bind λai=>(MJ ai 1).bind λal=>Option.bind (if(((al):Nat):Int)=(((0):Nat):Int) then((Jb K.2).bind λam=>(L4 U am).bind λap=>(f161 fu_ ac.1 ag).bind λaq=>(f160 fu_ aq ap sl K.1).bind λY=>some (decide (0<(Y.1.length:Int)),Y.2)) else(some (false,K.1))) λO=>if O.1=true then(some (.done (K.2,O.2))) else((Av (K.2+1)).bind λav=>some (.more (O.2,av)))) else(some (.done (Z.2.2.1,K.1)))
def Ns(fu_:Nat)(sl:AE)(K:(List ((Nat×Bv)×Bool))×(List (List AU))×SU):Option (Bt ((List ((Nat×Bv)×Bool))×(List (List AU))×SU) (((List Int)×List ((Nat×Bv)×Bool))⊕(Unit))):=(ix sl K.2.2.1).bind λac=>(Jb K.2.2.1).bind λag=>(L4 K.2.2.2.2 ag).bind λai=>(f161 fu_ K.2.1 ac).bind λal=>(f160 fu_ al ai sl K.1).bind λO=>if(O.1.length:Int)=0 then(some (.done (Sum.inl ([],O.2)))) else((Jb K.2.2.1).bind λam=>(L4 K.2.2.2.2 am).bind λY=>(Ds K.2.2.2.1 ([K.2.2.1]:List Int)).bind λU=>if(U.length:Int)=(sl.length:Int) then(some (.done (Sum.inl (U,O.2)))) else(Option.bind (iter (OT fu_ sl K O Y) fu_ (O.2,0)) λZ=>some (.more (Z.2,O.1,Z.1,U,Y))))
def f119(fu_:Nat)(p1:List (List AU))(p2:Int)(sl:AE)(sm:List ((Nat×Bv)×Bool)):Option ((List Int)×List ((Nat×Bv)×Bool)):=Option.bind (iter (Ns fu_ sl) fu_ (sm,p1,p2,[],0)) λK=>Sum.elim (λr=>some r) (λO=>none) K
theorem gH{ag:Nat}{b2:Obj}{p1:List (List AU)}{p2:Int}(ew:Ao (rL (rM rI false rI false)) E a1 c2 p1)(ap:At E ag os [sV a7 sl a8,.map (some ai)])(a9:Ao Ay E a7 a8 sl)(ex:BQ (rP (rN .u8) (rA 5 (rA 10 rI))) true rB false E b2 sm){r:(List Int)×List ((Nat×Bv)×Bool)}(c1:f119 fu_ p1 p2 sl sm=some r):AW J 52 [Al ag os,sV a1 p1 c2,iV p2] E [(ai,b2)] (λw E' B'=>∃(b3:Aq) (c3:Nat) (c4:Obj),w= sV b3 r.1 c3/\B'=[(ai,c4)]/\Ao rI E' b3 c3 r.1/\(r.1=[]->b3=none)/\BQ (rP (rN .u8) (rA 5 (rA 10 rI))) true rB false E' c4 r.2):=by
 refine Bs func52 λQ ii cs H ey c5=>?_;unfold f119 at c1;let⟨io,eA,c6⟩:=bs c1;refine C 12 V (BF (λL s=>False) ?_ ?_);intro _ _ eC;exact eC.elim;intro i0;refine JL.block (Cr eA (λL s O=>∃(aq:LH) (b4:Obj) (bb:Aq) (be:Nat) (b5:Aq) (b6:Nat) (ca:Seg),Jn E H aq [[(ai,b4)],ca] [(0,Al ag os),(1,sV bb O.2.1 be),(2,iV O.2.2.1),(7,sV b5 O.2.2.2.1 b6),(8,.int .u8 ((O.2.2.2.2:Nat):Int))] L s (BQ (rP (rN .u8) (rA 5 (rA 10 rI))) true rB false aq b4 O.1/\Ao (rL (rM rI false rI false)) aq bb be O.2.1/\OL 3 rI aq b5 b6 ca O.2.2.2.1)) ⟨E,b2,a1,c2,none,0,[],V,V,AR,ey,ex,ew,OL.nil⟩ ?_);rintro _ _ O ⟨aq,b4,bb,be,b5,b6,ca,rfl,rfl,U,eN,e0,e1,e3⟩ c7 ⟨i1,bi⟩ e4;have c8:=bi;unfold Ns at c8;refine C 2 V (FH 14 λK=>?_);refine Bb K V [0,1,2,3] V (JG.fd 4 K underlying113 A0 V V V V ?_);refine EI 5 K 0 (ap.Ah U) BH V V V V (Dr 6 K V V ?_);let⟨cc,e5,e6⟩:=bs c8;refine FQ 7 (a9.Ah U) e5 K underlying69 Bx ?_;rintro i3 i4 _ ⟨_,_,rfl,rfl,⟨_,_,rfl,rfl,rfl⟩⟩ e7;refine KU 8 K e7 Eh Bx V V V (Bb K V [10,11] V ?_);let⟨e8,ff,fk⟩:=bs e6;refine AS (v:=.int .u8 ((e8:Nat):Int)) 12 K V V (λρ h s' ac=>Nn (h _ _ V) (h _ _ V) ff) ?_;let⟨fl,fm,fo⟩:=bs fk;refine AS (v:=.int .u8 ((fl:Nat):Int)) 13 K V V (λρ h s' ac=>OU (h _ _ V) (h _ _ V) fm) ?_;let⟨i5,fs,fv⟩:=bs fo;refine JG.call (i:=9) (vs:=[sV bb O.2.1 be,.agg #[iV cc.1,iV cc.2.1,iV cc.2.2]]) (Wt e1 fs) (by decide+kernel) V V V (A8 func87 V) V eN ?_;rintro _ i6 _ Y ⟨i7,i8,rfl,rfl,fw⟩ fN;refine Dc [14,15] ?_;let⟨av,gc,ge⟩:=bs fv;refine Cc 0 (V1 fw (ap.Ah (U.Ad Y)) (a9.Ah (U.Ad Y)) (e0.Ah Y) gc) V V (A8 func86 V) fN V ?_;rintro _ ce _ Z ⟨aw,ay,ci,rfl,rfl,c9,co⟩ dd;refine C 6 V (JL.ln underlying118 V V V ?_);refine C 2 V (A5 ge (λgg gh=>?_) (λgg gt=>?_));refine C 4 V (JS.drop 1 dd V λgE=>?_);cases gh;obtain rfl:=c7 _ bi;have gO:=elim_inl c6;cases gO;exact A4 func52 V V (c5 ((U.Ad Y).Ad Z) V ⟨none,0,ci,V,(by first | rfl | simp),Ao.nil,(λ_=>V),co⟩ gE);refine C 2 V (FH 9 λK=>?_);refine Bb K V [0,1,4,5] V ?_;let⟨g3,g4,g5⟩:=bs gt;refine AS (v:=.int .u8 ((g3:Nat):Int)) 6 K V V (λρ h s' ac=>Nn (h _ _ V) (h _ _ V) g4) ?_;let⟨az,g6,g7⟩:=bs g5;refine AS (v:=.int .u8 ((az:Nat):Int)) 7 K V V (λρ h s' ac=>OU (h _ _ V) (h _ _ V) g6) ?_;let⟨bn,g8,ha⟩:=bs g7;refine JG.one (i:=2) V (by decide+kernel) (Take.FK (pp:=rI) [iV O.2.2.1] ([O.2.2.1]:List Int) dd V V V underlying22 AO CJ (by decide) V V V ⟨V,trivial⟩ λi9 jj hb hc=>?_);refine JG.one (i:=3) V (by decide+kernel) (Take.app0 (pp:=rI) 1 3 hc g8 V V V V V V V underlying22 underlying22 AO (Dv type3) CJ V (by decide) (by decide) (e3.Ah (Y.Ad Z)) hb V V λa0 a2 jt bo dj he=>?_);refine Dr 8 K V V (Dc [9] ?_);refine GN 1 V he λhf=>JS.drop 1 hf V λea=>C 6 V (JL.ln underlying22 V V V ?_);refine C 2 V (Cg 0 (ap.Ah ((U.Ad Y).Ad Z)) underlying113 A0 BH ?_);refine JL.ln underlying69 V V V (C 2 V ?_);refine A5 ha (λhg hj=>?_) (λhg hk=>?_);refine C 5 V (Cp 4 dj ea V λjy eb hl hm=>?_);refine JS.drop 3 hm V λhn=>?_;cases hj;obtain rfl:=c7 _ bi;have ho:=elim_inl c6;cases ho;exact A4 func52 V V (c5 (((U.Ad Y).Ad Z).Ad eb) V ⟨a0,a2,ci,V,(by first | rfl | simp),hl,(λe=>absurd e (bf (by assumption))),(co.Ah eb)⟩ hn);refine C 5 V (Cg 0 (ap.Ah ((U.Ad Y).Ad Z)) underlying113 A0 BH ?_);refine JL.ln underlying69 V V V ?_;let⟨bv,hp,hq⟩:=bs hk;refine C 2 V (BF (λL s=>∃(bw:LH) (bx:Obj),Jn ce H bw [[(ai,bx)],bo] [(0,Al ag os),(1,sV aw av.1 ay),(2,iV bv.1),(7,sV a0 bn a2),(8,.int .u8 ((az:Nat):Int))] L s (BQ (rP (rN .u8) (rA 5 (rA 10 rI))) true rB false bw bx bv.2)) ?_ ?_);rintro _ _ ⟨bw,bx,rfl,rfl,cp,hr,hs⟩;refine Ow ?_;cases hq;exact AH (e4 _ _ (bv.2,av.1,bv.1,bn,az) ⟨bw,bx,aw,ay,a0,a2,bo,V,V,(((U.Ad Y).Ad Z).Ad cp),hr,hs,(c9.Ah cp),(dj.Ah cp)⟩ bi) V;intro ec;refine JL.block (JS.drop 3 ea V λht=>?_);refine Cr hp (λL s a3=>∃(bz:LH) (a4:Obj),Jn ce H bz [[(ai,a4)],bo] [(0,Al ag os),(1,sV aw av.1 ay),(2,iV O.2.2.1),(7,sV a0 bn a2),(8,.int .u8 ((az:Nat):Int)),(49,sV a7 sl a8),(50,iV (sl.length:Int)),(51,iV a3.2)] L s (BQ (rP (rN .u8) (rA 5 (rA 10 rI))) true rB false bz a4 a3.1)) ⟨ce,ci,V,V,AR,ht,co⟩ ?_;rintro _ _ a3 ⟨bz,a4,rfl,rfl,al,ed,ct⟩ ee ⟨j0,b0⟩ hu;have ef:=b0;unfold OT at ef;refine C 5 V (A5 ef (λhv hw=>?_) (λhv hx=>?_));let⟨cw,hy,hz⟩:=bs hw;refine C 6 V (JS.ix (a9.Ah (((U.Ad Y).Ad Z).Ad al)) hy underlying69 Bx ?_);rintro j1 kb _ ⟨_,_,rfl,rfl,⟨_,_,rfl,rfl,rfl⟩⟩ hA;refine Cf hA Eh Bx V V (B3 ed BT λkc hB=>?_);refine C 1 V (JS.sx 2 hB Bx λhC=>?_);refine Dl 2 hC V λeg am hD ej=>C 2 V (FH 18 λK=>?_);refine Bb K V [0,1] V ?_;let⟨hE,hF,hG⟩:=bs hz;refine AS (v:=.int .u8 ((hE:Nat):Int)) 2 K V V (λρ h s' ac=>UL (h _ _ V) (h _ _ V) hF) ?_;let⟨ek,hH,hI⟩:=bs hG;refine AS (v:=.int .u8 ((ek:Nat):Int)) 3 K V V (λρ h s' ac=>UC (h _ _ V) (h _ _ V) hH) (Bb K V [4,5] V ?_);let⟨cy,el,hJ⟩:=bs hI;refine Gg 0 (tR_ 18 0) (λL s=>∃(a5:LH) (a6:Obj),Jn eg H a5 [[(ai,a6)],bo] [(0,Al ag os),(1,sV aw av.1 ay),(2,iV O.2.2.1),(7,sV a0 bn a2),(8,.int .u8 ((az:Nat):Int)),(9,iV a3.2),(49,sV a7 sl a8),(50,iV (sl.length:Int)),(51,iV a3.2),(73,.bool cy.1)] L s (BQ (rP (rN .u8) (rA 5 (rA 10 rI))) true rB false a5 a6 cy.2)) ?_ ?_;rintro _ _ ⟨a5,a6,rfl,rfl,em,eo,ep⟩;refine AZ.fin (by decide+kernel) (CH hJ (λhK hL=>?_) (λhK hM=>?_));refine C 6 V ?_;cases hL;obtain rfl:=ee _ b0;exact AH (ec _ _ ⟨a5,a6,V,V,((al.Ad am).Ad em),eo,ep⟩) V;let⟨hN,hO,hP⟩:=bs hM;refine C 3 V (BE hO V V V ?_);refine C 2 V ?_;cases hP;exact AH (hu _ _ (cy.2,hN) ⟨a5,a6,V,V,((al.Ad am).Ad em),eo,ep⟩ b0) V;intro er;refine GL (q:=(((ek):Nat):Int)=(((0):Nat):Int)) (i:=61) V (λc0=>?_) (λc0=>?_);have hQ:=ip el c0;refine Bb K V [6,7] V ?_;refine KU 8 K hD Eh Bx V V V ?_;refine Bb K V [10,11] V ?_;let⟨hR,hS,hT⟩:=bs hQ;refine AS (v:=.int .u8 ((hR:Nat):Int)) 12 K V V (λρ h s' ac=>Nn (h _ _ V) (h _ _ V) hS) ?_;obtain⟨eu,hU,hV⟩:=bs hT;refine AS (v:=.int .u8 ((eu:Nat):Int)) 13 K V V (λρ h s' ac=>OU (h _ _ V) (h _ _ V) hU) ?_;let⟨hW,hX,hY⟩:=bs hV;refine JG.call (i:=9) (vs:=[sV aw av.1 ay,.agg #[iV cw.1,iV cw.2.1,iV cw.2.2]]) (Wt (c9.Ah (al.Ad am)) hX) (by decide+kernel) V V V (A8 func87 V) V ej ?_;rintro _ ke _ b1 ⟨h0,h1,rfl,rfl,h2⟩ h3;let⟨kf,h4,h5⟩:=bs hY;refine OC (i:=14) (vs:=[Al ag os,sV h0 hW h1,.int .u8 ((eu:Nat):Int)]) 0 (λ_ h=>by cases h) (V1 h2 (ap.Ah (((((U.Ad Y).Ad Z).Ad al).Ad am).Ad b1)) (a9.Ah (((((U.Ad Y).Ad Z).Ad al).Ad am).Ad b1)) (ct.Ah (am.Ad b1)) h4) (by decide+kernel) V V V (A8 func86 V) V h3 V ?_;rintro _ h6 _ h7 ⟨ki,kn,h8,rfl,rfl,ko,h9⟩ ia;refine AS 15 K V V (λρ h s' ac=>Yl.len V underlying118 (h _ _ V)) ?_;refine Bb K V [16,17] V ?_;cases h5;refine DU ?_ (er _ _ ⟨h6,h8,V,V,(b1.Ad h7),ia,h9⟩);exact⟨V,V,V,V,V,V,V,V,V,V,trivial⟩;have ih:=im el c0;refine Bb K V [6,7,8,9,10,11,12,13,14,15,16,17] V ?_;cases ih;refine DU ?_ (er _ _ ⟨eg,a4,V,V,AR,ej,(ct.Ah am)⟩);exact⟨V,V,V,V,V,V,V,V,V,V,trivial⟩;refine JL.exit V ?_;cases hx;obtain rfl:=ee _ b0;exact AH (ec _ _ ⟨bz,a4,V,V,al,ed,ct⟩) V
end Pal
namespace Pal
open Go Go.Conc
variable{m':M4}{w:World}{q:Nat}{R X Y:Ph->GP}
section
variable {P:Program}{F:Fam}
theorem M4.dt{m:M4}(h:m.num=m'.num):m=m':=by
  obtain⟨l,k,s,w⟩:=m;obtain⟨l',k',s',w'⟩:=m';simp only[M4.num] at h;cases l<;>cases k<;>cases s<;>cases l'<;>cases k'<;>cases s'<;>simp only[qv,pB] at h<;>first
    | (have e:w=w':=by omega
       subst e;rfl)
    | (exfalso;omega)
theorem LB{m:M4}(h:F.MU w m q):w.cell? F.uA=some (.int .i32 m.num)/\w.cell? F.qA=some (.int .u32 q)/\w.frozen? F.uA=false/\w.frozen? F.qA=false:=by
 unfold Fam.MU Fam.IH at h;refine⟨?_,?_,?_,?_⟩;simp[World.cell?,Fam.uA,h];simp[World.cell?,Fam.qA,h];simp[World.frozen?,Fam.uA,h];simp[World.frozen?,Fam.qA,h]
theorem TG{m:M4}(h:F.MU w m q):w.setCell F.uA (.int .i32 m'.num)=F.Gl w m' q:=by
 unfold Fam.Gl World.setCell;congr 1;apply q8;intro i;unfold Fam.MU Fam.IH at h;rw[ry];have O:F.mu<w.heap.size:=by
  rcases gD F.mu w.heap.size with K | K;exact K;simp[qg K] at h
 by_cases e:F.mu=i;subst e;rw[pn O,h];simp[Fam.uA,Fam.IH];rw[mt e];simp[Fam.uA,e]
theorem Uc{m:M4}{q':Nat}(h:F.MU w m q):w.setCell F.qA (.int .u32 q')=F.Gl w m q':=by
 unfold Fam.Gl World.setCell;congr 1;apply q8;intro i;unfold Fam.MU Fam.IH at h;rw[ry];have O:F.mu<w.heap.size:=by
  rcases gD F.mu w.heap.size with K | K;exact K;simp[qg K] at h
 by_cases e:F.mu=i;subst e;rw[pn O,h];simp[Fam.qA,Fam.IH];rw[mt e];simp[Fam.qA,e]
theorem T7{m:M4}(h:F.MU w m q):F.Gl w m q=w:=by
 unfold Fam.Gl;have:w.heap.setIfInBounds F.mu (F.IH m.num q)=w.heap:=by
  apply q8;intro i;by_cases e:F.mu=i
  .subst e;unfold Fam.MU at h;have O:F.mu<w.heap.size:=by
    rcases gD F.mu w.heap.size with K | K;exact K;simp[qg K] at h
   rw[pn O,h]
  .rw [mt e]
 rw[this]
theorem Hf.put{m:M4}:Hf w (F.Gl w m q) (F.Gl w m q):=⟨V,V,.refl _,V⟩
theorem Hf.self{m:M4}(h:F.MU w m q):Hf w (F.Gl w m q) w:=by rw[T7 h];exact⟨rfl,rfl,.refl _,rfl⟩
def NO(P:Program)(F:Fam)(X Y:Ph->GP):Prop:=∀p g s,HB P F X p g s->Y p g s
abbrev Dp(P:Program)(F:Fam)(X:Ph->GP):Prop:=NO P F X X
theorem Dp.stop:Dp P F (Stop P F):=λ_ _ _ h=>h.stop
def JH(P:Program)(F:Fam)(R:Ph->GP)(p:Ph)(g:Goroutine)(s:St):Prop:=∃X:Ph->GP,(∀p g s,X p g s->HB P F (λp g s=>X p g s∨R p g s) p g s)/\X p g s
def Xn(P:Program)(F:Fam)(R:Ph->GP)(p:Ph)(g:Goroutine)(s:St):Prop:=JH P F R p g s∨R p g s
theorem JH.of{p:Ph}{g:Goroutine}{s:St}(h:Stop P F p g s):JH P F R p g s:=
 let ⟨X,K,O⟩:=h
 ⟨X,λp g s U=>(K p g s U).Ah P F λ_ _ _ h=>.inl h,O⟩
theorem JH.to:NO P F (Xn P F R) (JH P F R):=λp g s h=>by
 refine⟨λK g' s'=>JH P F R K g' s'∨(K=p/\g'=g/\s'=s),λK g' s' U=>?_,.inr ⟨rfl,rfl,rfl⟩⟩
 rcases U with⟨X,O,Y⟩ | ⟨rfl,rfl,rfl⟩
 .refine(O K g' s' Y).Ah P F λp g s h=>?_
  rcases h with h | h;exact .inl (.inl ⟨X,O,h⟩);exact .inr h
 .refine h.Ah P F λp g s h=>?_;rcases h with h | h;exact .inl (.inl h);exact .inr h
theorem Dp.Xw:Dp P F (Xn P F R):=λp g s h=>.inl (JH.to p g s h)
theorem jH(h:∀p g s,R p g s->JH P F R p g s){p:Ph}{g:Goroutine}{s:St}(O:R p g s):Stop P F p g s:=by
 refine⟨JH P F R,λp g s O=>?_,h p g s O⟩;obtain⟨X,U,Y⟩:=O;refine(U p g s Y).Ah P F λp g s K=>?_;rcases K with K | K;exact⟨X,U,K⟩;exact h p g s K
theorem Kg(O:NO P F X Y){k:Nat}{p:LP}{g:Goroutine}{s:St}(U:g.status=.running)(K:g.offers=none)(Z:s.q=false)(ac:p≠ .Ga)(ag:∀sv,p=.CN sv->∀w m,F.MU w m 0->stepG P false g w=.go {g with status:=.blocked} w #[])(ai:∀b,p=.FJ b->mayWake P g=true)
  (h:∀w m q,F.MU w m q->Em p m q->∃m' q' es x g' w',(m',q',es,x)∈F.Cd p m q/\stepG P false g w=.go g' w' es/\Hf w (F.Gl w m' q') w'/\g'.status=.running/\Way P false (X (Fam.DF k x)) g' s):Y (.lk k p) g s:=
 O _ _ _ {
  run:=U,offers:=K,quiet:=(by simp[Fam.Da]),live:=λ_=>Z,act:=(by simp[Fam.act]),JK:=λe=>by
   rcases e with e | ⟨k',b,e⟩;cases e;cases e;exact ai b rfl
  FM:=(by simp),go:=(by simp),lk:=λk' l e al w m q hm K=>by cases e;exact h w m q hm K
  CN:=λk' sv e w m hm=>by cases e;exact ag sv rfl w m hm
  store:=λk' e=>by cases e;exact absurd rfl ac
  fin:=(by simp)}
end
variable {ops:Ao_}{i:Nat}{rest:List Nat}{d:Option Tmp}{f:FuncId}{y z:Operand}{args:Array Operand}{vs:Lv_}{ats:Array TypeId}{ty t u tw:TypeId}{pp:String}{af:Ae_}{g:On_}{p:LP}{kk:Nat}
variable{o:Option LP}{nw old:M4}
section
variable {P:Program}{F:Fam}{n:Nat}{L L':Env}{ds:Ld_}{k:Li_}{cs:Lf_}{s s':St}{b:Frame}
variable {x:Operand}
def I0:LP->Bool
 | .Ga | .CN _ | .FJ _=>false
 | _=>true
theorem Lt(h:I0 p=true):p≠ .Ga:=λe=>by subst e;cases h
theorem Lp(h:I0 p=true){X:Bool->Prop}:∀sv,p=.CN sv->X sv:=λsv e=>by subst e;cases h
theorem Lr(h:I0 p=true){X:Bool->Prop}:∀sv,p=.FJ sv->X sv:=λsv e=>by subst e;cases h
theorem Mv(Z:Dp P F X){mk:Mark}(ac:s.q=false)(K:I0 p=true)(ag:∀m q,F.Cd p m q=[(m,q,#[Fam.CY mk],o)])
  (ai:ops[i]?=some ⟨d,.call ⟨.value (.func f),args,ats⟩,ty,pp,af,g⟩) (U:b.roundOf=none) (hw:AY L ops ⟨d,.call ⟨.value (.func f),args,ats⟩,ty,pp,af,g⟩=some true) (O:((b.kind != .early)&&Bu n d)=true)
  (hm:∀x,mk≠ .extern x) (he:BU P f (λ_=>do mark mk;pure Extern.Race.none_))
  (h:JL (A7 P false) (X (Fam.DF kk o)) b n (AB L d (.tuple #[])) ds (.inRegion ops rest::k) cs s):
  JL (A7 P false) (X (.lk kk p)) b n L ds (.inRegion ops (i::rest)::k) cs s:=λT Y=>by
 simp only[f5] at O
 obtain⟨fn,al,am,hb,ap,he⟩:=he.h
 refine(A7 P _).stop (Kg Z rfl rfl ac (Lt K) (Lp K) (Lr K) λw m q aq av=>?_)
 refine⟨m,q,_,o,_,w,by rw[ag];exact aj.2 rfl,?_,Hf.self aq,rfl,h _ (Y.put O.2 _)⟩
 rw[BY U,BY U,stepG_mark0 (a:=⟨T,ds⟩) mk hm ai (Cl Y hw) (by simpa using O.1) rfl al am hb ap he,EG]
 rfl
theorem Ru(Z:Dp P F X){mk:Addr->Mark}{ad:Addr}(ac:s.q=false)(K:I0 p=true)(ag:∀m q,F.Cd p m q=[(m,q,#[Fam.CY (mk ad)],o)])
  (ai:ops[i]?=some ⟨d,.call ⟨.value (.func f),args,ats⟩,ty,pp,af,g⟩) (Y:b.roundOf=none) (hw:AY L ops ⟨d,.call ⟨.value (.func f),args,ats⟩,ty,pp,af,g⟩=some true) (O:((b.kind != .early)&&Bu n d)=true)
  (hm:∀ad x,mk ad≠ .extern x) (he:BU P f (Extern.Race.marked mk)) (al:evs L args.toList=some vs) (am:vs[0]?=some (.pointer (some ad)))
  (h:JL (A7 P false) (X (Fam.DF kk o)) b n (AB L d (.tuple #[])) ds (.inRegion ops rest::k) cs s):
  JL (A7 P false) (X (.lk kk p)) b n L ds (.inRegion ops (i::rest)::k) cs s:=λT U=>by
 simp only[f5] at O
 obtain⟨fn,ap,aq,hb,av,he⟩:=he.h
 refine(A7 P _).stop (Kg Z rfl rfl ac (Lt K) (Lp K) (Lr K) λw m q aw ay=>?_)
 refine⟨m,q,_,o,_,w,by rw[ag];exact aj.2 rfl,?_,Hf.self aw,rfl,h _ (U.put O.2 _)⟩
 rw[BY Y,BY Y,stepG_markAt (a:=⟨T,ds⟩) mk hm ai (Cl U hw) (by simpa using O.1) rfl ap aq hb av he (ad:=ad) (by rw[K2 U al];simpa using am),EG]
 rfl
theorem Q8(ap:Dp P F X)(aq:s.q=false)(K:I0 p=true)(av:∀m q,F.Cd p m q=[(m,q,#[],o)])
  (aw:ops[i]?=some ⟨d,.convert t u x,ty,pp,af,g⟩) (Y:b.roundOf=none) (hw:AY L ops ⟨d,.convert t u x,ty,pp,af,g⟩=some true) (O:((b.kind != .early)&&Bu n d)=true)
  (Z:P.underlying t=some (.pointer tw)) (hu:P.underlying u=some .unsafePointer) (ac:(P.info? tw).map (λi=>decide (i.size=0))=some false) (ay:ev L x=some (.pointer (some F.uA)))
  (h:JL (A7 P false) (X (Fam.DF kk o)) b n (AB L d (.pointer (some F.uA))) ds (.inRegion ops rest::k) cs s):
  JL (A7 P false) (X (.lk kk p)) b n L ds (.inRegion ops (i::rest)::k) cs s:=λT U=>by
 simp only[f5] at O
 refine(A7 P _).stop (Kg ap rfl rfl aq (Lt K) (Lp K) (Lr K) λw m q ag a0=>?_)
 refine⟨m,q,_,o,_,w,by rw[av];exact aj.2 rfl,?_,Hf.self ag,rfl,h _ (U.put O.2 _)⟩
 have ai:=(LB ag).1
 have al:=run_convert_to_unsafe (P:=P) (w:=w) Z hu ac ai
 have az:=events_convert_to_unsafe (P:=P) (w:=w) Z hu ac ai
 have am:execOp (⟨T,ds⟩:Act).eval ⟨d,.convert t u x,ty,pp,af,g⟩=(do pure (Next.value (← Go.convert t u (.pointer (some F.uA))))):=by
  rw[Mj];simp only[execOp,U.ev ay]
 rw[BY Y,BY Y,stepG_value (a:=⟨T,ds⟩) (v:=.pointer (some F.uA)) (w':=w) aw (Cl U hw) (by simpa using O.1) (by rw[am];simp[al,Result.andThen]),EG];have e2:listed P b.fn ⟨T,ds⟩ ⟨d,.convert t u x,ty,pp,af,g⟩ w=#[]:=by
  unfold listed;rw[am];simp[al,az,Result.evThen,seen_none]
 rw[e2]
theorem Rj(a0:NO P F X Y)(a1:s.q=false)(Z:I0 p=true)
  (al:ops[i]?=some ⟨d,.call ⟨.value (.func f),#[x,y,z],ats⟩,ty,pp,af,g⟩) (U:b.roundOf=none) (hw:AY L ops ⟨d,.call ⟨.value (.func f),#[x,y,z],ats⟩,ty,pp,af,g⟩=some true) (O:((b.kind != .early)&&Bu n d)=true)
  (he:BU P f (Extern.Atomic.casT (.int .i32))) (am:ev L x=some (.pointer (some F.uA))) (ap:ev L y=some (.int .i32 old.num)) (aq:ev L z=some (.int .i32 nw.num))
  (a2:∀q,Em p old q->∃o,(nw,q,#[Fam.Cs F.uA,Fam.ES F.uA],o)∈F.Cd p old q/\JL (A7 P false) (X (Fam.DF kk o)) b n (AB L d (.bool true)) ds (.inRegion ops rest::k) cs s)
  (a3:∀m q,m≠old->Em p m q->∃o,(m,q,#[Fam.Cs F.uA],o)∈F.Cd p m q/\JL (A7 P false) (X (Fam.DF kk o)) b n (AB L d (.bool false)) ds (.inRegion ops rest::k) cs s):
  ∀T,Has n L T->Y (.lk kk p) (G (fr b T ds (.inRegion ops (i::rest)::k)) cs) s:=λT K=>by
 simp only[f5] at O
 obtain⟨fn,av,aw,hb,ay,he⟩:=he.h
 refine(Kg a0 rfl rfl a1 (Lt Z) (Lp Z) (Lr Z) λw m q ac az=>?_)
 let⟨c1,_,c3,_⟩:=LB ac
 by_cases e:m=old
 .subst e
  let⟨o,ag,ai⟩:=a2 q az;refine⟨_,_,_,o,_,_,ag,?_,Hf.put,rfl,ai _ (K.put O.2 _)⟩;rw[BY U,BY U,stepG_cas_hit (a:=⟨T,ds⟩) al (Cl K hw) (by simpa using O.1) rfl av aw hb ay .i32 he (by rw[Fl];exact K.ev am) (by rw[Fl];exact K.ev ap) (by rw[Fl];exact K.ev aq) c1 c3,TG ac,EG]
  rfl
 .let⟨o,ag,ai⟩:=a3 m q e az;refine⟨_,_,_,o,_,w,ag,?_,Hf.self ac,rfl,ai _ (K.put O.2 _)⟩;rw[BY U,BY U,stepG_cas_miss (a:=⟨T,ds⟩) al (Cl K hw) (by simpa using O.1) rfl av aw hb ay .i32 he (by rw[Fl];exact K.ev am) (by rw[Fl];exact K.ev ap) (by rw[Fl];exact K.ev aq) c1 c3 (λq=>e (M4.dt q)),EG]
  rfl
theorem U7(K:Dp P F X)(O:s.q=false)(U:I0 p=true)
  (Y:ops[i]?=some ⟨d,.call ⟨.value (.func f),#[x,y,z],ats⟩,ty,pp,af,g⟩) (Z:b.roundOf=none) (hw:AY L ops ⟨d,.call ⟨.value (.func f),#[x,y,z],ats⟩,ty,pp,af,g⟩=some true) (ac:((b.kind != .early)&&Bu n d)=true)
  (he:BU P f (Extern.Atomic.casT (.int .i32))) (ag:ev L x=some (.pointer (some F.uA))) (ai:ev L y=some (.int .i32 old.num)) (al:ev L z=some (.int .i32 nw.num))
  (am:∀q,Em p old q->∃o,(nw,q,#[Fam.Cs F.uA,Fam.ES F.uA],o)∈F.Cd p old q/\JL (A7 P false) (X (Fam.DF kk o)) b n (AB L d (.bool true)) ds (.inRegion ops rest::k) cs s)
  (ap:∀m q,m≠old->Em p m q->∃o,(m,q,#[Fam.Cs F.uA],o)∈F.Cd p m q/\JL (A7 P false) (X (Fam.DF kk o)) b n (AB L d (.bool false)) ds (.inRegion ops rest::k) cs s):
  JL (A7 P false) (X (.lk kk p)) b n L ds (.inRegion ops (i::rest)::k) cs s:=λT aq=>(A7 P _).stop (Rj K O U Y Z hw ac he ag ai al am ap T aq)
theorem HK(ac:Dp P F X){dl:Int}(ag:s.q=false)(O:I0 p=true)
  (ai:ops[i]?=some ⟨d,.call ⟨.value (.func f),#[x,y],ats⟩,ty,pp,af,g⟩) (Y:b.roundOf=none) (hw:AY L ops ⟨d,.call ⟨.value (.func f),#[x,y],ats⟩,ty,pp,af,g⟩=some true) (U:((b.kind != .early)&&Bu n d)=true)
  (he:BU P f (Extern.Atomic.update (Op.intArith .add) .i32 true)) (al:ev L x=some (.pointer (some F.uA))) (am:ev L y=some (.int .i32 dl))
  (h:∀m q,Em p m q->∃m' o,IntKind.i32.wrap (m.num+dl)=m'.num/\(m',q,#[Fam.Cs F.uA,Fam.ES F.uA],o)∈F.Cd p m q/\JL (A7 P false) (X (Fam.DF kk o)) b n (AB L d (.int .i32 m'.num)) ds (.inRegion ops rest::k) cs s):
  JL (A7 P false) (X (.lk kk p)) b n L ds (.inRegion ops (i::rest)::k) cs s:=λT K=>by
 simp only[f5] at U
 obtain⟨fn,ap,aq,hb,av,he⟩:=he.h
 refine(A7 P _).stop (Kg ac rfl rfl ag (Lt O) (Lp O) (Lr O) λw m q Z aw=>?_)
 let⟨c1,_,c3,_⟩:=LB Z
 let⟨m',o,ay,az,a0⟩:=h m q aw
 refine⟨_,_,_,o,_,_,az,?_,Hf.put,rfl,a0 _ (K.put U.2 _)⟩
 rw[BY Y,BY Y,stepG_add_atomic (a:=⟨T,ds⟩) ai (Cl K hw) (by simpa using U.1) rfl ap aq hb av .i32 he (by rw[Fl];exact K.ev al) (by rw[Fl];exact K.ev am) c1 c3,ay,TG Z,EG]
 rfl
theorem Ue(am:Dp P F X){sv:Bool}(ap:s.q=false)(Z:ops[i]?=some ⟨d,.call ⟨.value (.func f),args,ats⟩,ty,pp,af,g⟩)(U:b.roundOf=none)(hw:AY L ops ⟨d,.call ⟨.value (.func f),args,ats⟩,ty,pp,af,g⟩=some true)(Y:((b.kind != .early)&&Bu n d)=true)
  (he:BU P f Extern.Sync.semacquire) (aq:evs L args.toList=some vs) (av:vs[0]?=some (.pointer (some F.qA)))
  (h:JL (A7 P false) (X (.lk kk (if sv then .Fb true else .GA))) b n (AB L d (.tuple #[])) ds (.inRegion ops rest::k) cs s):
  JL (A7 P false) (X (.lk kk (.CN sv))) b n L ds (.inRegion ops (i::rest)::k) cs s:=λT K=>by
 simp only[f5] at Y
 obtain⟨fn,ac,ag,hb,ai,he⟩:=he.h
 have al:(args.map (⟨T,ds⟩:Act).eval)[0]?=some (.pointer (some F.qA)):=by rw[K2 K aq];simpa using av
 refine(A7 P _).stop (Kg am rfl rfl ap (by simp) (λaz e w m O=>?_) (by simp) λw m q O aw=>?_);let⟨_,c2,_,c4⟩:=LB O;rw[BY U];exact stepG_semacquire_wait (a:=⟨T,ds⟩) Z (Cl K hw) rfl ac ag hb ai he (ad:=F.qA) al c2
 .let⟨_,c2,_,c4⟩:=LB O;have a0:q≠0:=aw;refine⟨m,q - 1,_,some (if sv then .Fb true else .GA),_,_,aj.2 rfl,?_,Hf.put,rfl,h _ (K.put Y.2 _)⟩
  have ay:((q:Int) - 1)=((q - 1:Nat):Int):=by omega
  rw[BY U,BY U,stepG_semacquire (a:=⟨T,ds⟩) Z (Cl K hw) (by simpa using Y.1) rfl ac ag hb ai he (ad:=F.qA) al c2 (by omega) c4,EG,ay,Uc O]
theorem TT(ac:Dp P F X){st:Bool}(ag:s.q=false)(U:ops[i]?=some ⟨d,.call ⟨.value (.func f),args,ats⟩,ty,pp,af,g⟩)(Y:b.roundOf=none)(hw:AY L ops ⟨d,.call ⟨.value (.func f),args,ats⟩,ty,pp,af,g⟩=some true)(K:((b.kind != .early)&&Bu n d)=true)
  (he:BU P f Extern.Sync.semrelease) (ai:evs L args.toList=some vs) (al:vs[0]?=some (.pointer (some F.qA)))
  (h:JL (A7 P false) (X (.lk kk .FN)) b n (AB L d (.tuple #[])) ds (.inRegion ops rest::k) cs s):
  JL (A7 P false) (X (.lk kk (.FJ st))) b n L ds (.inRegion ops (i::rest)::k) cs s:=λT O=>by
 simp only[f5] at K
 have am:=UX (P:=P) (b:=b) (ds:=ds) (k:=k) (cs:=cs) (rest:=rest) (T:=T) U he
 obtain⟨fn,ap,aq,hb,av,he⟩:=he.h
 have aw:(args.map (⟨T,ds⟩:Act).eval)[0]?=some (.pointer (some F.qA)):=by rw[K2 O ai];simpa using al
 refine(A7 P _).stop (Kg ac rfl rfl ag (by simp) (by simp) (λ_ _=>am) λw m q Z ay=>?_);let⟨_,c2,_,c4⟩:=LB Z;have a0:q<=1:=ay.1;refine⟨m,q+1,_,some .FN,_,_,aj.2 rfl,?_,Hf.put,rfl,h _ (O.put K.2 _)⟩;have az:IntKind.u32.wrap ((q:Int)+1)=((q+1:Nat):Int):=by
  have:q=0∨q=1:=by omega
  rcases this with rfl | rfl<;>decide
 rw[BY Y,BY Y,stepG_semrelease (a:=⟨T,ds⟩) U (Cl O hw) (by simpa using K.1) rfl ap aq hb av he (ad:=F.qA) aw c2 c4,EG,az,Uc Z]
theorem YK(K:DY P t=some false)(w:World):(isAgg t).run P w=.ok false w:=by
 unfold DY at K;simp only[isAgg,underlying,bind,Sem.bind,program,Sem.run];cases hu:P.underlying t with
 | none=>rw[hu] at K;cases K
 | some u=>
  rw[hu] at K;cases u<;>simp at K<;>rfl
theorem HM(al:Dp P F X)(am:s.q=false)(K:I0 p=true)
  (ap:ops[i]?=some ⟨d,.load t x,ty,pp,af,g⟩) (Y:b.roundOf=none) (hw:AY L ops ⟨d,.load t x,ty,pp,af,g⟩=some true) (O:((b.kind != .early)&&Bu n d)=true)
  (aq:DY P t=some false) (av:(P.funcs[b.fn]?).any (·.norace)=true) (aw:ev L x=some (.pointer (some F.uA)))
  (h:∀m q,Em p m q->∃o,(m,q,#[],o)∈F.Cd p m q/\JL (A7 P false) (X (Fam.DF kk o)) b n (AB L d (.int .i32 m.num)) ds (.inRegion ops rest::k) cs s):
  JL (A7 P false) (X (.lk kk p)) b n L ds (.inRegion ops (i::rest)::k) cs s:=λT U=>by
 simp only[f5] at O
 refine(A7 P _).stop (Kg al rfl rfl am (Lt K) (Lp K) (Lr K) λw m q Z ay=>?_)
 let⟨o,az,a0⟩:=h m q ay
 refine⟨m,q,_,o,_,w,az,?_,Hf.self Z,rfl,a0 _ (U.put O.2 _)⟩
 have ac:=(LB Z).1
 have ag:execOp (⟨T,ds⟩:Act).eval ⟨d,.load t x,ty,pp,af,g⟩=(do pure (Next.value (← Instr.loadAt t (.pointer (some F.uA))))):=by
  rw[Mj];simp only[execOp,U.ev aw]
 have ai:=YK (P:=P) aq w;rw[BY Y,BY Y,stepG_value (a:=⟨T,ds⟩) (v:=.int .i32 m.num) (w':=w) ap (Cl U hw) (by simpa using O.1) (by rw[ag];simp[Instr.loadAt,Instr.sureAddr,loadVar,ai,ac,Result.andThen]),EG];have e2:listed P b.fn ⟨T,ds⟩ ⟨d,.load t x,ty,pp,af,g⟩ w=#[]:=by
  unfold listed;rw[ag];have a1:(do pure (Next.value (← Instr.loadAt t (.pointer (some F.uA)))):Sem Next).events P w #[]=#[⟨.cell F.uA,false,false⟩]:=by
   simp[Instr.loadAt,Instr.sureAddr,loadVar,ai,ac,Result.evThen]
  rw[a1,seen_def];simp[seenStep,av]
 rw[e2]
theorem Q2(ag:Dp P F X)(ai:s.q=false)(K:I0 p=true)
  (al:ops[i]?=some ⟨d,.call ⟨.value (.func f),args,ats⟩,ty,pp,af,g⟩) (U:b.roundOf=none) (hw:AY L ops ⟨d,.call ⟨.value (.func f),args,ats⟩,ty,pp,af,g⟩=some true) (O:((b.kind != .early)&&Bu n d)=true)
  (he:BU P f Extern.OsHooks.nano) (Y:(P.funcs[f]?).any (·.norace)=true)
  (h:∀(m:M4) (q:Nat) (v:Int),Em p m q->∃o,(m,q,#[],o)∈F.Cd p m q/\JL (A7 P false) (X (Fam.DF kk o)) b n (AB L d (.int .i64 v)) ds (.inRegion ops rest::k) cs s):
  JL (A7 P false) (X (.lk kk p)) b n L ds (.inRegion ops (i::rest)::k) cs s:=λT Z=>by
 simp only[f5] at O
 obtain⟨fn,ac,am,hb,ap,he⟩:=he.h
 have aq:fn.norace=true:=by rw[ac] at Y;simpa using Y
 refine(A7 P _).stop (Kg ag rfl rfl ai (Lt K) (Lp K) (Lr K) λw m q av aw=>?_);let⟨o,ay,az⟩:=h m q ((w.os.mono+w.tick:Nat):Int) aw;refine⟨m,q,_,o,_,w.later,ay,?_,?_,rfl,az _ (Z.put O.2 _)⟩;rw[BY U,BY U,stepG_nanotime (a:=⟨T,ds⟩) al (Cl Z hw) (by simpa using O.1) rfl ac am hb ap he aq,EG];rw[T7 av];exact⟨rfl,rfl,⟨w.tick,rfl⟩,rfl⟩
end
variable {P:Program}{J:Judge P}{Q:GP}{L L':Env}{ds:Ld_}{cs:Lf_}{s s':St}{b:Frame}
section
variable {n:Nat}{k:Li_}
variable {x:Operand}
theorem JL.canSpin{it:Int}(aq:s.q=false)(Z:ops[i]?=some ⟨d,.call ⟨.value (.func f),args,ats⟩,ty,pp,af,g⟩)(U:b.roundOf=none)(hw:AY L ops ⟨d,.call ⟨.value (.func f),args,ats⟩,ty,pp,af,g⟩=some true)(K:((b.kind != .early)&&Bu n d)=true)
  (he:BU P f Extern.Sync.canSpin) (av:evs L args.toList=some [.int .i64 it])
  (aw:it<4->JL J Q b n (AB L d (.bool true)) ds (.inRegion ops rest::k) cs s) (ac:JL J Q b n (AB L d (.bool false)) ds (.inRegion ops rest::k) cs s):
  JL J Q b n L ds (.inRegion ops (i::rest)::k) cs s:=λT O=>by
 simp only[f5] at K
 obtain⟨fn,ag,ai,hb,al,he⟩:=he.h
 have am:args.map (⟨T,ds⟩:Act).eval=#[.int .i64 it]:=by rw[K2 O av]
 by_cases ay:4<=it;refine Judge.DO rfl (λw=>?_) (ac _ (O.put K.2 _));rw[BY U,BY U];have:=stepG_canSpin_no (rest:=rest) (main:=J.main) (kk:=k) (cs:=cs) (w:=w) (a:=⟨T,ds⟩) (P:=P) (b:=b) Z (Cl O hw) (by simpa using K.1) rfl ag ai hb al he am ay;rw[this,EG]
 .have ap:it<4:=by omega
  refine J.step ⟨rfl,λw Y=>⟨G (fr b (C6 T d (.bool w.spins)) ds (.inRegion ops rest::k)) cs,s,w.asked,#[],?_,?_,⟨Y.e,Y.h,Y.d⟩,⟨oU _,λ_ _ _=>rfl,λ_ h=>.inl h,λ_ _ h=>h,λ_ h=>.inl h,rfl,rfl,rfl⟩,by simp⟩,λe=>by subst e;cases aq⟩;rw[BY U,BY U];have:=stepG_canSpin_ask (rest:=rest) (main:=J.main) (kk:=k) (cs:=cs) (w:=w) (a:=⟨T,ds⟩) (P:=P) (b:=b) Z (Cl O hw) (by simpa using K.1) rfl ag ai hb al he am ap;rw[this,EG]
  .cases az:w.spins with
   | true=>exact aw ap _ (O.put K.2 _)
   | false=>exact ac _ (O.put K.2 _)
end
section
variable {P:Program}{F:Fam}
def Si{HA:Type}(P:Program)(F:Fam)(s:St)(kk:Nat)(ph:HA->LP)(head:(Ph->GP)->HA->Prop)(ok:HA->Prop)(a:HA)(g:Goroutine):Prop:=
 ∀X Y:Ph->GP,NO P F X Y->Dp P F X->(∀p g s,Stop P F p g s->X p g s)->(∀K,ok K->head X K)->Y (.lk kk (ph a)) g s
theorem WN{HA:Type}{s:St}{kk:Nat}{ph:HA->LP}{head:(Ph->GP)->HA->Prop}{ok:HA->Prop}
  (h:∀Y:Ph->GP,Dp P F Y->(∀p g s,Stop P F p g s->Y p g s)->(∀a g,ok a->Si P F s kk ph head ok a g->Y (.lk kk (ph a)) g s)->∀a,ok a->head Y a):∀a,ok a->head (Stop P F) a:=by
 have key:∀p g s',(s'=s/\∃a,ok a/\p=.lk kk (ph a)/\Si P F s kk ph head ok a g)->Stop P F p g s':=λp g s' U=>by
  refine jH (R:=λp g s'=>s'=s/\∃a,ok a/\p=.lk kk (ph a)/\Si P F s kk ph head ok a g) (λp g s' U=>?_) U;obtain⟨rfl,a,O,rfl,K⟩:=U;exact K _ _ JH.to Dp.Xw (λ_ _ _ h=>.inl (.of h)) (h _ Dp.Xw (λ_ _ _ h=>.inl (.of h)) λa g O K=>.inr ⟨V,a,O,V,K⟩)
 exact h _ Dp.stop (λ_ _ _ h=>h) λa g O K=>key _ _ _ ⟨V,a,O,V,K⟩
theorem OM{n:Nat}{L:Env}{ds:Ld_}{k:Li_}{cs:Lf_}{s:St}{b:Frame}{Q K:GP}(O:∀g s,Q g s->K g s)(h:JL (A7 P false) Q b n L ds k cs s):JL (A7 P false) K b n L ds k cs s:=λT U=>Way.Ah O (h T U)
end
def BO(m:M4):Nat:=m.l.toNat+2*m.k.toNat+4*m.s.toNat
def M4.nat(m:M4):Nat:=m.l.toNat+2*m.k.toNat+4*m.s.toNat+8*m.w
theorem Pu(m:M4):BO m<8:=by
 have K:=sK m.l;have O:=sK m.k;have U:=sK m.s;unfold BO;omega
theorem M4.nat_eq(m:M4):m.nat=8*m.w+BO m:=by unfold M4.nat BO;omega
theorem M4.Rw(m:M4):m.nat/8=m.w:=by have:=Pu m;rw[M4.nat_eq];omega
theorem M4.Rs(m:M4):m.nat%8=BO m:=by have:=Pu m;rw[M4.nat_eq];omega
def CB(m:M4):Prop:=m.w<200000000
theorem CB.lt{m:M4}(h:CB m):m.nat<2147483648:=by have:=Pu m;unfold CB at h;rw[M4.nat_eq];omega
theorem Dy.CB{m:M4}(h:Dy m):CB m:=by unfold Dy at h;unfold Pal.CB;omega
variable{a:Nat}
theorem eR{b:Nat}(hb:b<8):a&&& b=(a%8)&&& b:=by
 apply s0;intro i;rw[s7,s7];by_cases h:i<3;rw[show(8:Nat)=2^3 from rfl,Nat.testBit_mod_two_pow];simp[h];have:b.testBit i=false:=sc (q6 hb (by rw[show(8:Nat)=2^3 from rfl];exact q0 (by omega) (by omega)));rw[this];simp
theorem Wd{b:Nat}(hb:b<8):a|||b=8*(a/8)+((a%8)|||b):=by
 have K:a=(a/8)<<<3|||(a%8):=by
  rw[← tE (by omega),Nat.shiftLeft_eq];omega
 have O:(a%8)|||b<2^3:=sS (by omega) (by omega)
 calc a|||b=((a/8)<<<3|||(a%8))|||b:=by rw[← K]
  _=(a/8)<<<3|||((a%8)|||b):=Nat.or_assoc _ _ _
  _=(a/8)<<<3+((a%8)|||b):=(tE O _).symm
  _=8*(a/8)+((a%8)|||b):=by rw[Nat.shiftLeft_eq];omega
theorem F4(h:a<2147483648):IntKind.i32.wrap (a:Int)=a:=by
 simp only[IntKind.wrap,IntKind.bits,IntKind.signed];simp;omega
theorem N3(h:a<2147483648):(BitVec.ofInt IntKind.i32.bits (a:Int)).toNat=a:=by
 simp[IntKind.bits,tO];omega
theorem M4.KR(m:M4):m.num=(m.nat:Int):=rfl
variable {ρ:Operand->Value}{e:TypeId}
variable{c:Nat}
section
variable {x:Operand}{p:String}{m:M4}
abbrev De(n:Nat):Value:=.int .i32 (n:Int)
theorem EV(hm:CB m)(O:ρ x=.int .i32 m.num)(U:ρ y=.int .i32 (c:Int))(Y:c<8):Yl P ⟨d,.binOp .and t x y u,ty,p,af,g⟩ ρ s (De (BO m&&& c)):=by
 have h:=Yl.and (P:=P) (s:=s) (d:=d) (t:=t) (u:=u) (ty:=ty) (p:=p) (af:=af) (g:=g) O U;have K:=hm.lt;rw[M4.KR,sZ,N3 K,N3 (by omega),F4 (rW ud K),eR Y,M4.Rs] at h;exact h
theorem e9{m:M4}(hm:CB m)(O:c<8)(U:BO m|||c=BO m')(K:m'.w=m.w):IntKind.i32.wrap ((BitVec.ofInt IntKind.i32.bits m.num|||BitVec.ofInt IntKind.i32.bits (c:Int)).toNat:Int)=m'.num:=by
 have Y:=hm.lt;have Z:m.nat|||c=m'.nat:=by rw[Wd O,M4.Rw,M4.Rs,U,M4.nat_eq m',K]
 have ac:m'.nat<2147483648:=by
  have:=Pu m';unfold CB at hm;rw[M4.nat_eq,K];omega
 rw[M4.KR,uc,N3 Y,N3 (by omega),Z,F4 ac,M4.KR]
theorem PG(hm:CB m)(K:c<8)(O:BO m|||c=BO m')(U:m'.w=m.w)(Y:ρ x=.int .i32 m.num)(Z:ρ y=.int .i32 (c:Int)):Yl P ⟨d,.binOp .or t x y u,ty,p,af,g⟩ ρ s (.int .i32 m'.num):=by
 have h:=Yl.or (P:=P) (s:=s) (d:=d) (t:=t) (u:=u) (ty:=ty) (p:=p) (af:=af) (g:=g) Y Z;rw[e9 hm K O U] at h;exact h
theorem kz(m:M4):BO m|||1=BO {m with l:=true}:=by obtain⟨l,k,s,w⟩:=m;cases l<;>cases k<;>cases s<;>simp[BO]
theorem SV(m:M4):BO m|||2=BO {m with k:=true}:=by obtain⟨l,k,s,w⟩:=m;cases l<;>cases k<;>cases s<;>simp[BO]
theorem kF(m:M4):BO m|||4=BO {m with s:=true}:=by obtain⟨l,k,s,w⟩:=m;cases l<;>cases k<;>cases s<;>simp[BO]
theorem Yl.andNot{kd:IntKind}{a b:Int}(K:ρ x=.int kd a)(O:ρ y=.int kd b):Yl P ⟨d,.binOp .andNot t x y u,ty,p,af,g⟩ ρ s (.int kd (kd.wrap (BitVec.ofInt kd.bits a&&& ~~~ BitVec.ofInt kd.bits b).toNat)):=by
 simp[Yl,execOp,lp,pure,bind,Sem.bind,K,O,eqGuard,Go.binOp,Op.intBits]
theorem kC(i:Nat):(2:Nat).testBit i=decide (i=1):=by
 by_cases h:i<2;exact(by decide:∀j:Fin 2,(2:Nat).testBit j.1=decide (j.1=1)) ⟨i,h⟩;rw[sc (q6 (show 2<2^2 by decide) (q0 (by omega) (by omega)))];simp;omega
theorem kB(i:Nat):(4294967293:Nat).testBit i=(decide (i<32)&& !decide (i=1)):=by
 by_cases h:i<32;exact(by decide:∀j:Fin 32,(4294967293:Nat).testBit j.1=(decide (j.1<32)&& !decide (j.1=1))) ⟨i,h⟩;rw[sc (q6 (show 4294967293<2^32 by decide) (q0 (by omega) (by omega)))];simp[h]
theorem Rx{m:M4}(hm:CB m)(K:m.k=true):m.nat&&& 4294967293=({m with k:=false}:M4).nat:=by
 have U:m.nat=({m with k:=false}:M4).nat|||2:=by
  rw[Wd (by omega),M4.Rw,M4.Rs,M4.nat_eq m,SV];obtain⟨l,k,s,w⟩:=m;simp only at K;subst K;rfl
 have Y:({m with k:=false}:M4).nat<2147483648:=(show CB {m with k:=false} from hm).lt;have Z:({m with k:=false}:M4).nat.testBit 1=false:=by
  rw[Nat.testBit_succ,Nat.testBit_zero];have:({m with k:=false}:M4).nat/2%2=0:=by
   have:=sK m.l;simp only[M4.nat,pB];omega
  simp[this]
 rw[U];apply s0;intro i;rw[s7,uk,kC,kB];by_cases h:i=1;subst h;rw[Z];rfl;by_cases O:i<32;simp[h,O];rw[sc (q6 Y (by rw[show(2147483648:Nat)=2^31 from rfl];exact q0 (by omega) (by omega)))];simp[O]
theorem Yl.Rx(hm:CB m)(K:m.k=true)(O:ρ x=.int .i32 m.num)(U:ρ y=.int .i32 2):Yl P ⟨d,.binOp .andNot t x y u,ty,p,af,g⟩ ρ s (.int .i32 ({m with k:=false}:M4).num):=by
 have h:=Yl.andNot (P:=P) (s:=s) (d:=d) (t:=t) (u:=u) (ty:=ty) (p:=p) (af:=af) (g:=g) O U;have Y:({m with k:=false}:M4).nat<2147483648:=(show CB {m with k:=false} from hm).lt;rw[M4.KR,sZ,N3 hm.lt,show(~~~ BitVec.ofInt IntKind.i32.bits 2).toNat=4294967293 from rfl,Pal.Rx hm K,F4 Y] at h;exact h
theorem Jw(hm:CB m)(K:ρ x=.int .i32 m.num)(O:ρ y=.int .u64 3):Yl P ⟨d,.binOp .shr t x y u,ty,p,af,g⟩ ρ s (De m.w):=by
 have h:=Yl.shr (P:=P) (s:=s) (d:=d) (t:=t) (u:=u) (ty:=ty) (p:=p) (af:=af) (g:=g) K O (by decide);have e:m.num.fdiv (2^(min (3:Int).toNat IntKind.i32.bits))=(m.w:Int):=by
  rw[show(2:Int)^(min (3:Int).toNat IntKind.i32.bits)=8 from rfl,M4.KR,so _ (by decide)];have:=M4.Rw m;omega
 rw[e] at h;exact h
theorem cz(hm:Dy m)(K:ρ x=.int .i32 m.num)(O:ρ y=.int .i32 8):Yl P ⟨d,.binOp .add t x y u,ty,p,af,g⟩ ρ s (.int .i32 ({m with w:=m.w+1}:M4).num):=by
 have h:=Yl.add (P:=P) (s:=s) (d:=d) (t:=t) (u:=u) (ty:=ty) (p:=p) (af:=af) (g:=g) K O;have e:m.num+8=((({m with w:=m.w+1}:M4).nat:Nat):Int):=by simp only[M4.KR,M4.nat];omega
 rw[e,F4 (show CB {m with w:=m.w+1} by unfold Dy at hm;unfold CB;simp only;omega).lt] at h;exact h
theorem cT(hm:CB m)(hw:m.w≠0)(K:ρ x=.int .i32 m.num)(O:ρ y=.int .i32 8):Yl P ⟨d,.binOp .sub t x y u,ty,p,af,g⟩ ρ s (.int .i32 ({m with w:=m.w - 1}:M4).num):=by
 have h:=Yl.sub (P:=P) (s:=s) (d:=d) (t:=t) (u:=u) (ty:=ty) (p:=p) (af:=af) (g:=g) K O;have e:m.num - 8=((({m with w:=m.w - 1}:M4).nat:Nat):Int):=by simp only[M4.KR,M4.nat];omega
 rw[e,F4 (show CB {m with w:=m.w - 1} by unfold CB at*;simp only;omega).lt] at h;exact h
theorem cP(hm:CB m)(K:m.l=false)(O:ρ x=.int .i32 m.num)(U:ρ y=.int .i32 1):Yl P ⟨d,.binOp .add t x y u,ty,p,af,g⟩ ρ s (.int .i32 ({m with l:=true}:M4).num):=by
 have h:=Yl.add (P:=P) (s:=s) (d:=d) (t:=t) (u:=u) (ty:=ty) (p:=p) (af:=af) (g:=g) O U;have e:m.num+1=((({m with l:=true}:M4).nat:Nat):Int):=by simp only[M4.KR,M4.nat,K,qv,pB];omega
 rw[e,F4 (show CB {m with l:=true} from hm).lt] at h;exact h
end
theorem kq(m:M4):((BO m&&& 5:Nat):Int)=1↔m.l=true/\m.s=false:=by obtain⟨l,k,s,w⟩:=m;cases l<;>cases k<;>cases s<;>simp[BO]
theorem NP(m:M4):((BO m&&& 5:Nat):Int)=0↔m.l=false/\m.s=false:=by obtain⟨l,k,s,w⟩:=m;cases l<;>cases k<;>cases s<;>simp[BO]
theorem Iy(m:M4):((BO m&&& 4:Nat):Int)=0↔m.s=false:=by obtain⟨l,k,s,w⟩:=m;cases l<;>cases k<;>cases s<;>simp[BO]
theorem Sz(m:M4):((BO m&&& 2:Nat):Int)=0↔m.k=false:=by obtain⟨l,k,s,w⟩:=m;cases l<;>cases k<;>cases s<;>simp[BO]
theorem SA(m:M4):((BO m&&& 1:Nat):Int)=0↔m.l=false:=by obtain⟨l,k,s,w⟩:=m;cases l<;>cases k<;>cases s<;>simp[BO]
theorem Qg(m:M4):((BO m&&& 3:Nat):Int)=0↔m.l=false/\m.k=false:=by obtain⟨l,k,s,w⟩:=m;cases l<;>cases k<;>cases s<;>simp[BO]
theorem Xf(m:M4):((BO m&&& 7:Nat):Int)=0↔m.l=false/\m.k=false/\m.s=false:=by obtain⟨l,k,s,w⟩:=m;cases l<;>cases k<;>cases s<;>simp[BO]
end Pal
namespace Go.Proofs
abbrev Tryz.link:Go.Conc.Lib.WgLink:={add:=49,done:=51,wait:=56,relMerge:=73,disable:=74,enable:=75,inBubble:=76,associate:=77,fatal:=78,uOr:=79,uAdd:=80,raceRead:=81,uLoad:=82,uStore:=83,disassociate:=84,semrelease:=85,acquire:=90,isAssociated:=91,uCas:=92,raceWrite:=93,semacquire:=94,orU64:=113,addU64:=114,loadU64:=115,storeU64:=116,casU64:=124,tWgP:=147,tUP:=135,tAssoc:=149,tWg:=108,tAU:=106,tU64:=41,tUint:=83,tU32:=66,tPU32:=153,tPAU:=198,tPU64:=200,tNoCopy:=98,tANoCopy:=103,tAlign64:=104}
theorem Tryz.LQ:Go.Conc.Lib.WgLib Tryz.prog Tryz.link:=
 ⟨Tryz.func49,Tryz.func51,Tryz.func56,Tryz.func73,Tryz.func74,Tryz.func75,Tryz.func76,Tryz.func77,Tryz.func78,Tryz.func79,Tryz.func80,Tryz.func81,Tryz.func82,Tryz.func83,Tryz.func84,Tryz.func85,Tryz.func90,Tryz.func91,Tryz.func92,Tryz.func93,Tryz.func94,Tryz.func113,Tryz.func114,Tryz.func115,Tryz.func116,Tryz.func124,Tryz.underlying147,Tryz.runUnderlying147,Tryz.sizeOf147,Tryz.isAgg147,Tryz.zeroValue147,Tryz.underlying135,Tryz.runUnderlying135,Tryz.sizeOf135,Tryz.isAgg135,Tryz.zeroValue135,Tryz.underlying149,Tryz.runUnderlying149,Tryz.sizeOf149,Tryz.isAgg149,Tryz.zeroValue149,Tryz.underlying108,Tryz.runUnderlying108,Tryz.sizeOf108,Tryz.isAgg108,Tryz.zeroValue108,Tryz.underlying106,Tryz.runUnderlying106,Tryz.sizeOf106,Tryz.isAgg106,Tryz.zeroValue106,Tryz.underlying41,Tryz.runUnderlying41,Tryz.sizeOf41,Tryz.isAgg41,Tryz.zeroValue41,Tryz.underlying83,Tryz.runUnderlying83,Tryz.sizeOf83,Tryz.isAgg83,Tryz.zeroValue83,Tryz.underlying66,Tryz.runUnderlying66,Tryz.sizeOf66,Tryz.isAgg66,Tryz.zeroValue66,Tryz.underlying153,Tryz.runUnderlying153,Tryz.sizeOf153,Tryz.isAgg153,Tryz.zeroValue153,Tryz.underlying198,Tryz.runUnderlying198,Tryz.sizeOf198,Tryz.isAgg198,Tryz.zeroValue198,Tryz.underlying200,Tryz.runUnderlying200,Tryz.sizeOf200,Tryz.isAgg200,Tryz.zeroValue200,Tryz.underlying0,Tryz.runUnderlying0,Tryz.sizeOf0,Tryz.isAgg0,Tryz.zeroValue0,Tryz.underlying3,Tryz.runUnderlying3,Tryz.sizeOf3,Tryz.isAgg3,Tryz.zeroValue3,Tryz.underlying4,Tryz.runUnderlying4,Tryz.sizeOf4,Tryz.isAgg4,Tryz.zeroValue4,Tryz.underlying9,Tryz.runUnderlying9,Tryz.sizeOf9,Tryz.isAgg9,Tryz.zeroValue9,Tryz.underlying20,Tryz.runUnderlying20,Tryz.sizeOf20,Tryz.isAgg20,Tryz.zeroValue20,Tryz.underlying21,Tryz.runUnderlying21,Tryz.sizeOf21,Tryz.isAgg21,Tryz.zeroValue21,(by decide+kernel),(by decide+kernel)⟩
end Go.Proofs
namespace Pal
open Go Go.Conc Go.Conc.Lib Go.Proofs Go.ConcR.Gen
theorem Xc:BU Tryz.prog 74 (λ_=>do mark .disable;pure Extern.Race.none_):=Ox Tryz.LQ
theorem Qp:BU Tryz.prog 75 (λ_=>do mark .enable;pure Extern.Race.none_):=J7 Tryz.LQ
theorem W1:BU Tryz.prog 90 (Extern.Race.marked .acquire):=QO Tryz.LQ
theorem kr:BU Tryz.prog 73 (Extern.Race.marked .releaseMerge):=To Tryz.LQ
theorem P6:BU Tryz.prog 120 (Extern.Atomic.casT (.int .i32)):=⟨⟨_,Tryz.func120,by decide+kernel,V,by kernel_rfl,by kernel_rfl⟩⟩
theorem HU:BU Tryz.prog 122 (Extern.Atomic.update (Op.intArith .add) .i32 true):=⟨⟨_,Tryz.func122,by decide+kernel,V,by kernel_rfl,by kernel_rfl⟩⟩
theorem gS:BU Tryz.prog 134 Extern.Sync.canSpin:=⟨⟨_,Tryz.func134,by decide+kernel,V,by kernel_rfl,by kernel_rfl⟩⟩
theorem Nl:BU Tryz.prog 135 (λ_=>pure Extern.Sync.none_):=⟨⟨_,Tryz.func135,by decide+kernel,V,by kernel_rfl,by kernel_rfl⟩⟩
theorem RX:BU Tryz.prog 137 Extern.OsHooks.nano:=⟨⟨_,Tryz.func137,by decide+kernel,V,by kernel_rfl,by kernel_rfl⟩⟩
theorem Wo:BU Tryz.prog 138 Extern.Sync.semacquire:=⟨⟨_,Tryz.func138,by decide+kernel,V,by kernel_rfl,by kernel_rfl⟩⟩
theorem V2:BU Tryz.prog 140 Extern.Sync.semrelease:=⟨⟨_,Tryz.func140,by decide+kernel,V,by kernel_rfl,by kernel_rfl⟩⟩
def mN(sv aw:Bool)(m:M4):M4:=⟨m.l || !m.s,!aw&&m.k,m.s || (sv&&m.l),if m.l=true∨m.s=true then m.w+1 else m.w⟩
variable{F:Fam}{Q:GP}{b:Frame}{i n:Nat}{L:Env}{ds:Ld_}{k:Li_}{cs:Lf_}{s:St}{ops:Ao_}{rest:List Nat}{d:Option Tmp}{x:Operand}{ty:TypeId}{af:Ae_}{g:On_}
theorem JL.uA{J:Judge Tryz.prog}{p:String}(K:Fu b n L ops i=some ⟨d,.fieldAddr 100 x 0,ty,p,af,g⟩)(O:ev L x=some (.pointer (some F.uA)))(h:JL J Q b n (AB L d (.pointer (some F.uA))) ds (.inRegion ops rest::k) cs s):JL J Q b n L ds (.inRegion ops (i::rest)::k) cs s:=An K (λρ h=>Hc (a:=F.uA) 0 0 Tryz.underlying100 (A2 Tryz.type21) V V V (h _ _ O)) h
variable{P:Program}
theorem fF{J:Judge P}{c:Code}(h:∀K,K=k->JL J Q b n L ds (.code c::K) cs s):JL J Q b n L ds (.code c::k) cs s:=h _ V
theorem WZ{J:Judge P}(h:∀K,K=k->JL J Q b n L ds K cs s):JL J Q b n L ds k cs s:=h _ V
theorem I4:(Tryz.prog.funcs[121]?).any (·.norace)=true:=by rw[Tryz.func121];rfl
theorem jU:(Tryz.prog.funcs[89]?).any (·.norace)=true:=by rw[Tryz.func89];rfl
theorem jA:(Tryz.prog.funcs[123]?).any (·.norace)=true:=by rw[Tryz.func123];rfl
theorem Sx:(Tryz.prog.funcs[137]?).any (·.norace)=true:=by rw[Tryz.func137];rfl
theorem Rz:(Tryz.prog.info? 100).map (λi=>decide (i.size=0))=some false:=(qm (Option.map (λi=>decide (i.size=0))) Tryz.type100).trans V
abbrev HA:=Bool×Bool×Nat×M4×Int
def Xe(a:HA):Prop:=(a.2.1=true->a.2.2.2.1.k=true)/\a.2.2.1<=4/\Dy a.2.2.2.1
def Sn(a:HA):LP:=.Cz a.1 a.2.1 a.2.2.1 a.2.2.2.1
variable{aw sv:Bool}{it q:Nat}{old:M4}
theorem cK(h:old.l=false/\old.s=false):(mN sv aw old,q,#[Fam.Cs F.uA,Fam.ES F.uA],some LP.len)∈F.Cd (.Cz sv aw it old) old q:=by
 obtain⟨l,k,s,w⟩:=old;obtain⟨K,O⟩:=h;simp only at K O;subst K O;simp[Fam.Cd,Fam.F7,mN]
theorem UM(h:¬(old.l=false/\old.s=false))(x:LP)(K:x=.I6 sv∨x=.CN sv):(mN sv aw old,q,#[Fam.Cs F.uA,Fam.ES F.uA],some x)∈F.Cd (.Cz sv aw it old) old q:=by
 obtain⟨l,k,s,w⟩:=old;show _∈F.F7 _ _ _ _ _ _;unfold Fam.F7;rw[gM];right;rw[d7 rfl,d9 h];cases l<;>cases s<;>simp[mN] at h ⊢<;>rcases K with rfl | rfl<;>simp
variable{m:M4}
theorem bJ(h:m≠old):(m,q,#[Fam.Cs F.uA],some (LP.EM sv aw it))∈F.Cd (.Cz sv aw it old) m q:=by
 show _∈F.F7 _ _ _ _ _ _;unfold Fam.F7;rw[gM];right;rw[d9 h];exact aj.2 V
theorem dJ(K:old.l=true/\old.s=false)(O:it<4)(U:old.k=false)(Y:old.w≠0):(({old with k:=true}:M4),q,#[Fam.Cs F.uA,Fam.ES F.uA],some (LP.EM sv true (it+1)))∈F.Cd (.Cz sv false it old) old q:=by
 show _∈F.F7 _ _ _ _ _ _;unfold Fam.F7;rw[gM];left;rw[d7 ⟨K.1,K.2,O⟩,d7 ⟨rfl,U,Y⟩,d7 rfl];exact aj.2 V
theorem dv(K:old.l=true/\old.s=false)(O:it<4)(U:old.k=false)(Y:old.w≠0)(hm:m≠old):(m,q,#[Fam.Cs F.uA],some (LP.EM sv false (it+1)))∈F.Cd (.Cz sv false it old) m q:=by
 show _∈F.F7 _ _ _ _ _ _;unfold Fam.F7;rw[gM];left;rw[d7 ⟨K.1,K.2,O⟩,d7 ⟨rfl,U,Y⟩,d9 hm];exact aj.2 V
theorem RQ(K:old.l=true/\old.s=false)(O:it<4)(U:¬(aw=false/\old.k=false/\old.w≠0)):(m,q,#[],some (LP.Cz sv aw (it+1) m))∈F.Cd (.Cz sv aw it old) m q:=by
 show _∈F.F7 _ _ _ _ _ _;unfold Fam.F7;rw[gM];left;rw[d7 ⟨K.1,K.2,O⟩,d9 U];exact aj.2 V
theorem HE(m:M4)(h:m.s=true):m={m with l:=m.l || !m.s}:=by
 obtain⟨l,k,s,w⟩:=m;simp only at h;subst h;simp
variable{ats:Array TypeId}{pp:String}{kk:Nat}
set_option maxHeartbeats 4000000 in
theorem Z4(Z:s.q=false)(c5:ops[i]?=some ⟨d,.call ⟨.value (.func 121),#[x],ats⟩,ty,pp,af,g⟩)(hw:AY L ops ⟨d,.call ⟨.value (.func 121),#[x],ats⟩,ty,pp,af,g⟩=some true)(c6:((b.kind != .early)&&Bu n d)=true)(c7:ev L x=some (.pointer (some F.uA)))
  (h:JL (A7 Tryz.prog false) (Stop Tryz.prog F (.lk kk .Ga)) b n (AB L d (.tuple #[])) ds (.inRegion ops rest::k) cs s):
  JL (A7 Tryz.prog false) (Stop Tryz.prog F (.lk kk (.EM false false 0))) b n L ds (.inRegion ops (i::rest)::k) cs s:=by
 refine HP (vs:=[.pointer (some F.uA)]) c5 hw c6 Tryz.func121 (by decide+kernel) V (by simp[evs,c7]) (pY V) λb4 back=>C 20 V (JL.uA V V ?_);refine HM (kk:=kk) (p:=.EM false false 0) Dp.stop Z V V V V V HJ I4 V λb5 ej bz=>⟨some (.Cz false false 0 b5),aj.2 V,?_⟩;refine C 3 V (fF λc8 c9=>?_);have az:∀X:Ph->GP,Dp Tryz.prog F X->(∀p g s,Stop Tryz.prog F p g s->X p g s)->∀L',look L' 0=some (.pointer (some F.uA))->JL (A7 Tryz.prog false) (X (.lk kk .len)) (base 121) Tryz.f121.ntmps L' [] c8 (b4::cs) s:=by
  intro X O aq L' dd;rw[c9];refine EF (L':=[(0,.pointer (some F.uA))]) ⟨dd,trivial⟩ (C 3 V ?_);refine Mv (kk:=kk) (p:=.len) O Z V (λ_ _=>V) V V V V (by simp) Qp (C 3 V ?_);refine Q8 (kk:=kk) (p:=.Mb) O Z V (λ_ _=>V) V V V V Tryz.underlying210 Tryz.underlying135 Rz V (Ru (kk:=kk) (p:=.K3) (ad:=F.uA) O Z V (λ_ _=>V) V V V V (by simp) W1 V V ?_);refine JL.done (JL.fin V V (BL.none Tryz.func121 V) (back _ _ _ _ ?_));exact OM (λg s=>aq _ g s) h
 refine JL.block (IT ?_);refine EZ [(0,.pointer (some F.uA)),(2,iV 0),(3,.bool false),(4,.bool false),(5,iV ((0:Nat):Int)),(6,.int .i32 (b5:M4).num)] V (WZ λb6 a4=>?_);refine WN (P:=Tryz.prog) (F:=F) (s:=s) (kk:=kk) (ph:=Sn) (ok:=Xe) (head:=λ(X:Ph->GP) (a:HA)=>JL (A7 Tryz.prog false) (X (.lk kk (Sn a))) (base 121) Tryz.f121.ntmps ([(0,.pointer (some F.uA)),(2,iV a.2.2.2.2),(3,.bool a.1),(4,.bool a.2.1),(5,iV (a.2.2.1:Int)),(6,.int .i32 (a.2.2.2.1:M4).num)]) [] b6 (b4::cs) s) ?_ (false,false,0,b5,0) ⟨(λe=>by cases e),qV _,bz.2.2.1⟩;intro Y b0 ek hC;have key:∀N (a:HA),4 - a.2.2.1<N->Xe a->(λ(X:Ph->GP) (a:HA)=>JL (A7 Tryz.prog false) (X (.lk kk (Sn a))) (base 121) Tryz.f121.ntmps ([(0,.pointer (some F.uA)),(2,iV a.2.2.2.2),(3,.bool a.1),(4,.bool a.2.1),(5,iV (a.2.2.1:Int)),(6,.int .i32 (a.2.2.2.1:M4).num)]) [] b6 (b4::cs) s) Y a:=by
  intro N
  induction N with
  | zero=>intro a ce;omega
  | succ N b1=>
   rintro⟨sv,aw,it,old,wt⟩ dj bz;simp only at dj;have ea:aw=true->old.k=true:=bz.1;have ca:Dy old:=bz.2.2;have a0:CB old:=ca.CB;show JL (A7 Tryz.prog false) (Y (.lk kk (.Cz sv aw it old))) (base 121) Tryz.f121.ntmps [(0,.pointer (some F.uA)),(2,iV wt),(3,.bool sv),(4,.bool aw),(5,iV (it:Int)),(6,.int .i32 (old:M4).num)] [] b6 (b4::cs) s;rw[a4];refine C 2 V (BF (λL s'=>s=s'/\L=[(0,.pointer (some F.uA)),(2,iV wt),(3,.bool sv),(4,.bool aw),(5,iV (it:Int)),(6,.int .i32 (old:M4).num)]) ?_ ?_)
   rotate_left
   .intro av;refine C 3 V (An (v:=De (BO old&&& 5)) V (λρ h=>EV (c:=5) a0 (h _ _ V) (h _ _ V) (by decide)) ?_);refine C 2 V (Nh (q:=((BO old&&& 5:Nat):Int)=1) (i:=17) V (λci=>?_) (λci=>?_))
    .refine An (v:=iV (it:Int)) V (λρ h=>Yl.move (h _ _ V)) (JL.canSpin (it:=(it:Int)) Z V V V V gS V (λG1=>?_) ?_)
     .refine An (v:=.bool true) V (λρ h=>Nj (h _ _ V) (h _ _ V)) ?_;have a1:=(kq old).1 ci;refine C 5 V ?_;have b2:it<4:=by omega
      refine C 1 V (An (v:=.bool (!aw)) V (λρ h=>Yl.not (h _ _ V)) ?_);refine C 1 V (Ls (c:= !aw) (i:=23) V (λc1=>?_) (λc1=>?_))
      .refine An (v:=.int .i32 (old:M4).num) V (λρ h=>Yl.move (h _ _ V)) (An (v:=De (BO old&&& 2)) V (λρ h=>EV (c:=2) a0 (h _ _ V) (h _ _ V) (by decide)) ?_);refine C 3 V (Nh (q:=((BO old&&& 2:Nat):Int)=0) (i:=28) V (λc2=>?_) (λc2=>?_))
       .refine An (v:=.int .i32 (old:M4).num) V (λρ h=>Yl.move (h _ _ V)) (An (v:=De old.w) V (λρ h=>Jw a0 (h _ _ V) (h _ _ V)) ?_);refine C 3 V (Nh (q:=(old.w:Int)≠0) (i:=33) V (λc3=>?_) (λc3=>?_))
        .have eb:aw=false:=by simpa using c1
         subst eb;have co:=(Sz old).1 c2;have cp:old.w≠0:=by omega
         refine C 2 V (JL.uA V V ?_);refine C 2 V (An (v:=.int .i32 ({old with k:=true}:M4).num) V (λρ h=>PG (c:=2) a0 (by decide) (SV old) V (h _ _ V) (h _ _ V)) ?_);refine U7 (kk:=kk) (p:=.Cz sv false it old) (old:=old) (nw:={old with k:=true}) b0 Z V V V V V P6 V V V (λq a2=>⟨some (.EM sv true (it+1)),dJ a1 b2 co cp,?_⟩) (λm q hm a2=>⟨some (.EM sv false (it+1)),dv a1 b2 co cp hm,?_⟩);refine An (v:=.bool true) V (λρ h=>Nj (h _ _ V) (h _ _ V)) (C 7 V ?_);refine JL.ext (v:=.tuple #[]) V V V Nl V V (C 4 V ?_);refine An (v:=iV ((it+1:Nat):Int)) V (λρ h=>DW (h _ _ V) (h _ _ V) (by unfold Av;rw[d7 (by omega)];congr 1)) (C 6 V ?_);refine JL.uA V V (HM (kk:=kk) (p:=.EM sv true (it+1)) b0 Z V V V V V HJ I4 V λa5 ct bn=>⟨some (.Cz sv true (it+1) a5),aj.2 V,?_⟩);refine C 3 V (JL.again ?_);rw[← a4];exact EZ [(0,.pointer (some F.uA)),(2,iV wt),(3,.bool sv),(4,.bool true),(5,iV ((it+1:Nat):Int)),(6,.int .i32 (a5:M4).num)] V (b1 (sv,true,it+1,a5,wt) (by show 4 - (it+1)<N;omega) ⟨bn.2.2.2,(by show it+1<=4;omega),bn.2.2.1⟩);refine An (v:=.bool false) V (λρ h=>Nj (h _ _ V) (h _ _ V)) (C 5 V ?_);refine JL.ext (v:=.tuple #[]) V V V Nl V V (C 4 V ?_);refine An (v:=iV ((it+1:Nat):Int)) V (λρ h=>DW (h _ _ V) (h _ _ V) (by unfold Av;rw[d7 (by omega)];congr 1)) (C 6 V ?_);refine JL.uA V V (HM (kk:=kk) (p:=.EM sv false (it+1)) b0 Z V V V V V HJ I4 V λa5 ct bn=>⟨some (.Cz sv false (it+1) a5),aj.2 V,?_⟩);refine C 3 V (JL.again ?_);rw[← a4];exact EZ [(0,.pointer (some F.uA)),(2,iV wt),(3,.bool sv),(4,.bool false),(5,iV ((it+1:Nat):Int)),(6,.int .i32 (a5:M4).num)] V (b1 (sv,false,it+1,a5,wt) (by show 4 - (it+1)<N;omega) ⟨bn.2.2.2,(by show it+1<=4;omega),bn.2.2.1⟩)
        .refine I2 V V V (C 12 V ?_);refine JL.ext (v:=.tuple #[]) V V V Nl V V (C 4 V ?_);refine An (v:=iV ((it+1:Nat):Int)) V (λρ h=>DW (h _ _ V) (h _ _ V) (by unfold Av;rw[d7 (by omega)];congr 1)) (C 6 V ?_);refine JL.uA V V (HM (kk:=kk) (p:=.Cz sv aw it old) b0 Z V V V V V HJ I4 V λm q a2=>⟨some (.Cz sv aw (it+1) m),RQ a1 b2 (λe=>c3 (by omega)),?_⟩);refine C 3 V (JL.again ?_);rw[← a4];exact EZ [(0,.pointer (some F.uA)),(2,iV wt),(3,.bool sv),(4,.bool aw),(5,iV ((it+1:Nat):Int)),(6,.int .i32 (m:M4).num)] V (b1 (sv,aw,it+1,m,wt) (by show 4 - (it+1)<N;omega) ⟨a2.2.2.2.2.2,(by show it+1<=4;omega),a2.2.2.2.2.1⟩)
       .refine I2 V V V (C 17 V ?_);refine JL.ext (v:=.tuple #[]) V V V Nl V V (C 4 V ?_);refine An (v:=iV ((it+1:Nat):Int)) V (λρ h=>DW (h _ _ V) (h _ _ V) (by unfold Av;rw[d7 (by omega)];congr 1)) (C 6 V ?_);refine JL.uA V V (HM (kk:=kk) (p:=.Cz sv aw it old) b0 Z V V V V V HJ I4 V λm q a2=>⟨some (.Cz sv aw (it+1) m),RQ a1 b2 (λe=>c2 ((Sz old).2 e.2.1)),?_⟩);refine C 3 V (JL.again ?_);rw[← a4];exact EZ [(0,.pointer (some F.uA)),(2,iV wt),(3,.bool sv),(4,.bool aw),(5,iV ((it+1:Nat):Int)),(6,.int .i32 (m:M4).num)] V (b1 (sv,aw,it+1,m,wt) (by show 4 - (it+1)<N;omega) ⟨a2.2.2.2.2.2,(by show it+1<=4;omega),a2.2.2.2.2.1⟩)
      .refine I2 V V V (C 22 V ?_);refine JL.ext (v:=.tuple #[]) V V V Nl V V (C 4 V ?_);refine An (v:=iV ((it+1:Nat):Int)) V (λρ h=>DW (h _ _ V) (h _ _ V) (by unfold Av;rw[d7 (by omega)];congr 1)) (C 6 V ?_);refine JL.uA V V (HM (kk:=kk) (p:=.Cz sv aw it old) b0 Z V V V V V HJ I4 V λm q a2=>⟨some (.Cz sv aw (it+1) m),RQ a1 b2 (λe=>by rw[e.1] at c1;cases c1),?_⟩);refine C 3 V (JL.again ?_);rw[← a4];exact EZ [(0,.pointer (some F.uA)),(2,iV wt),(3,.bool sv),(4,.bool aw),(5,iV ((it+1:Nat):Int)),(6,.int .i32 (m:M4).num)] V (b1 (sv,aw,it+1,m,wt) (by show 4 - (it+1)<N;omega) ⟨a2.2.2.2.2.2,(by show it+1<=4;omega),a2.2.2.2.2.1⟩)
     .refine An (v:=.bool false) V (λρ h=>Nj (h _ _ V) (h _ _ V)) (C 3 V ?_);exact AH (av _ _ ⟨V,V⟩) V
    .refine I2 V V V (C 5 V ?_);exact AH (av _ _ ⟨V,V⟩) V
   rintro _ _ ⟨rfl,rfl⟩;refine C 6 V (BF (λL s'=>s=s'/\L=[(0,.pointer (some F.uA)),(2,iV wt),(3,.bool sv),(4,.bool aw),(5,iV (it:Int)),(6,.int .i32 (old:M4).num),(7,.int .i32 ({old with l:=old.l || !old.s}:M4).num)]) ?_ ?_)
   rotate_left
   .intro av;refine C 3 V (An (v:=De (BO old&&& 4)) V (λρ h=>EV (c:=4) a0 (h _ _ V) (h _ _ V) (by decide)) ?_);refine C 2 V (GO (p:=((BO old&&& 4:Nat):Int)=0) V (λc=>?_) (λc=>?_));refine JL.region (C 1 V ?_);refine An (v:=.int .i32 ({old with l:=true}:M4).num) V (λρ h=>PG (c:=1) a0 (by decide) (kz old) V (h _ _ V) (h _ _ V)) (C 2 V ?_);refine EF ?_ (av _ _ ⟨V,V⟩);exact⟨V,V,V,V,V,V,qm (λm:M4=>some (Value.int .i32 m.num)) (by rw[(Iy old).1 c];simp),trivial⟩;refine JL.skip (EF ?_ (av _ _ ⟨V,V⟩));exact⟨V,V,V,V,V,V,qm (λm:M4=>some (Value.int .i32 m.num)) ((tj old.s).elim (HE old) (λhh=>absurd ((Iy old).2 hh) c)),trivial⟩
   rintro _ _ ⟨rfl,rfl⟩;have el:CB {old with l:=old.l || !old.s}:=a0;refine JL.seq (BF (λL s'=>s=s'/\L=[(0,.pointer (some F.uA)),(2,iV wt),(3,.bool sv),(4,.bool aw),(5,iV (it:Int)),(6,.int .i32 (old:M4).num),(7,.int .i32 ({old with l:=old.l || !old.s,w:=if old.l=true∨old.s=true then old.w+1 else old.w}:M4).num)]) ?_ ?_)
   rotate_left
   .intro av;refine C 3 V (An (v:=De (BO old&&& 5)) V (λρ h=>EV (c:=5) a0 (h _ _ V) (h _ _ V) (by decide)) ?_);refine C 2 V (GO (p:=((BO old&&& 5:Nat):Int)≠0) V (λc=>?_) (λc=>?_));refine JL.region (C 1 V ?_);refine An (v:=.int .i32 ({old with l:=old.l || !old.s,w:=old.w+1}:M4).num) V (λρ h=>cz (m:={old with l:=old.l || !old.s}) ca (h _ _ V) (h _ _ V)) (C 2 V ?_);refine EF ?_ (av _ _ ⟨V,V⟩);exact⟨V,V,V,V,V,V,qm (λm:M4=>some (Value.int .i32 m.num)) (by rw[d7 (by have:=λe=>c ((NP old).2 e);cases em:old.l<;>cases eo:old.s<;>simp_all)]),trivial⟩;refine JL.skip (EF ?_ (av _ _ ⟨V,V⟩));exact⟨V,V,V,V,V,V,qm (λm:M4=>some (Value.int .i32 m.num)) (by rw[d9 (by have:=(NP old).1 (rG.1 c);rw[this.1,this.2];simp)]),trivial⟩
   rintro _ _ ⟨rfl,rfl⟩;have cw:CB ({old with l:=old.l || !old.s,w:=if old.l=true∨old.s=true then old.w+1 else old.w}:M4):=by unfold Dy at ca;unfold CB;simp only;split<;>omega
   refine JL.seq (BF (λL s'=>s=s'/\L=[(0,.pointer (some F.uA)),(2,iV wt),(3,.bool sv),(4,.bool aw),(5,iV (it:Int)),(6,.int .i32 (old:M4).num),(7,.int .i32 ({old with l:=old.l || !old.s,s:=old.s || (sv&&old.l),w:=if old.l=true∨old.s=true then old.w+1 else old.w}:M4).num)]) ?_ ?_)
   rotate_left
   .intro av;refine C 4 V (Ls (c:=sv) (i:=61) V (λc1=>?_) (λc1=>?_))
    .refine An (v:=.int .i32 (old:M4).num) V (λρ h=>Yl.move (h _ _ V)) (An (v:=De (BO old&&& 1)) V (λρ h=>EV (c:=1) a0 (h _ _ V) (h _ _ V) (by decide)) ?_);refine C 3 V (GO (p:=((BO old&&& 1:Nat):Int)≠0) V (λc=>?_) (λc=>?_))
     .refine JL.region (C 1 V ?_);refine An (v:=.int .i32 ({old with s:=true,l:=old.l || !old.s,w:=if old.l=true∨old.s=true then old.w+1 else old.w}:M4).num) V (λρ h=>PG (c:=4) (m:={old with l:=old.l || !old.s,w:=if old.l=true∨old.s=true then old.w+1 else old.w}) cw (by decide) (kF _) V (h _ _ V) (h _ _ V)) ?_
      refine C 2 V (EF ?_ (av _ _ ⟨V,V⟩));exact⟨V,V,V,V,V,V,qm (λm:M4=>some (Value.int .i32 m.num)) (by rcases tj old.l with hh | hh<;>first | exact absurd ((SA old).2 hh) c | (rw[c1,hh];simp)),trivial⟩
     .refine JL.skip (EF ?_ (av _ _ ⟨V,V⟩));exact⟨V,V,V,V,V,V,qm (λm:M4=>some (Value.int .i32 m.num)) (by have:=(SA old).1 (rG.1 c);rw[this];simp),trivial⟩
    .refine I2 V V V (C 6 V ?_);refine EF ?_ (av _ _ ⟨V,V⟩);exact⟨V,V,V,V,V,V,qm (λm:M4=>some (Value.int .i32 m.num)) (by rw[c1];simp),trivial⟩
   rintro _ _ ⟨rfl,rfl⟩;have cy:CB ({old with l:=old.l || !old.s,s:=old.s || (sv&&old.l),w:=if old.l=true∨old.s=true then old.w+1 else old.w}:M4):=cw
   refine JL.seq (BF (λL s'=>s=s'/\L=[(0,.pointer (some F.uA)),(2,iV wt),(3,.bool sv),(4,.bool aw),(5,iV (it:Int)),(6,.int .i32 (old:M4).num),(7,.int .i32 (mN sv aw old:M4).num)]) ?_ ?_)
   rotate_left
   .intro av;refine C 4 V (Rb (t:=aw) V (λc=>?_) (λc=>?_))
    .have c0:old.k=true:=ea c;refine C 4 V ?_;refine An (v:=De (BO ({old with l:=old.l || !old.s,s:=old.s || (sv&&old.l),w:=if old.l=true∨old.s=true then old.w+1 else old.w}:M4)&&& 2)) V (λρ h=>EV (c:=2) (m:={old with l:=old.l || !old.s,s:=old.s || (sv&&old.l),w:=if old.l=true∨old.s=true then old.w+1 else old.w}) cy (h _ _ V) (h _ _ V) (by decide)) ?_
     refine An (v:=.bool false) V (λρ h=>Yl.to (Yl.eql (h _ _ V) (h _ _ V)) (by rw[qQ (λe=>by have q:=(Sz _).1 e;simp only at q;rw[c0] at q;cases q)])) (C 5 V ?_);refine An (v:=.int .i32 ({old with k:=false,l:=old.l || !old.s,s:=old.s || (sv&&old.l),w:=if old.l=true∨old.s=true then old.w+1 else old.w}:M4).num) V (λρ h=>Yl.Rx (m:={old with l:=old.l || !old.s,s:=old.s || (sv&&old.l),w:=if old.l=true∨old.s=true then old.w+1 else old.w}) cy c0 (h _ _ V) (h _ _ V)) ?_
     refine C 2 V (EF ?_ (av _ _ ⟨V,V⟩));exact⟨V,V,V,V,V,V,qm (λm:M4=>some (Value.int .i32 m.num)) (by simp[mN,c]),trivial⟩
    .refine JL.skip (EF ?_ (av _ _ ⟨V,V⟩));exact⟨V,V,V,V,V,V,qm (λm:M4=>some (Value.int .i32 m.num)) (by simp[mN,c]),trivial⟩
   rintro _ _ ⟨rfl,rfl⟩;refine C 4 V (JL.uA V V ?_);refine C 2 V (λT ec=>(A7 Tryz.prog false).stop (hC (sv,aw,it,old,wt) _ bz λX ep ed O aq b3=>?_));refine Rj (kk:=kk) (p:=.Cz sv aw it old) (old:=old) (nw:=mN sv aw old) ed Z V V V V V P6 V V V (λq a2=>?_) (λm q hm a2=>⟨some (.EM sv aw it),bJ hm,?_⟩) T ec
   .by_cases a1:old.l=false/\old.s=false;refine⟨some .len,cK a1,?_⟩;refine C 6 V (An (v:=De (BO old&&& 5)) V (λρ h=>EV (c:=5) a0 (h _ _ V) (h _ _ V) (by decide)) ?_);refine An (v:=.bool true) V (λρ h=>Yl.to (Yl.eql (h _ _ V) (h _ _ V)) (by rw[rg ((NP old).2 a1)])) (C 3 V ?_);exact az X O aq _ V
    .by_cases c4:wt=0
     .refine⟨some ((.I6 sv)),UM a1 _ (.inl V),?_⟩;refine C 6 V (An (v:=De (BO old&&& 5)) V (λρ h=>EV (c:=5) a0 (h _ _ V) (h _ _ V) (by decide)) ?_);refine An (v:=.bool false) V (λρ h=>Yl.to (Yl.eql (h _ _ V) (h _ _ V)) (by rw[qQ (λe=>a1 ((NP old).1 e))])) ?_;refine C 13 V (An (v:=.bool true) V (λρ h=>Yl.to (Yl.eql (h _ _ V) (h _ _ V)) (by rw[rg c4])) ?_);refine C 3 V (Q2 (kk:=kk) (p:=.I6 sv) O Z V V V V V RX Sx λm a3 v ag=>⟨some (.CN sv),aj.2 V,?_⟩);refine C 6 V (An (v:=.pointer (some F.qA)) V (λρ h=>Hc (a:=F.uA) 0 1 Tryz.underlying100 Ot V V V (h _ _ V)) ?_);refine C 1 V (Ue (kk:=kk) (sv:=sv) O Z V V V V Wo V V ?_);refine JL.done ?_;cases sv
      .rw [d9 (by decide)];refine C 4 V (Q2 (kk:=kk) (p:=.GA) O Z V V V V V RX Sx λee ef v2 eg=>⟨some (.Fb (decide (IntKind.i64.wrap (v2 - v)>1000000))),by (cases decide (IntKind.i64.wrap (v2 - v)>1000000)<;>simp[Fam.Cd]),?_⟩);refine C 1 V (An (v:=.int .i64 (IntKind.i64.wrap (v2 - v))) V (λρ h=>Yl.sub (h _ _ V) (h _ _ V)) ?_);refine C 4 V ?_;generalize decide (IntKind.i64.wrap (v2 - v)>1000000)=ap;refine C 4 V (JL.uA V V ?_);refine HM (kk:=kk) (p:=.Fb ap) O Z V V V V V HJ I4 V ?_;intro m cc ay;have a6:Dy m:=ay.2.2;have ai:CB m:=a6.CB;by_cases ac:m.s=true
       .refine⟨some (.EJ (!ap || m.w==1)),by simp[Fam.Cd,ac],?_⟩;refine C 2 V ?_;let⟨bo,bv,bw⟩:=ay.1 ac;refine C 4 V (An (v:=De (BO m&&& 4)) V (λρ h=>EV (c:=4) ai (h _ _ V) (h _ _ V) (by decide)) ?_);refine An (v:=.bool true) V (λρ h=>Yl.to (Iq (h _ _ V) (h _ _ V)) (by have bx:(((BO m&&& 4:Nat):Int)≠0):=(λe=>by rw[(Iy m).1 e] at ac;cases ac);rw[rg bx])) ?_;refine C 6 V (An (v:=De (BO m&&& 3)) V (λρ h=>EV (c:=3) ai (h _ _ V) (h _ _ V) (by decide)) ?_);refine An (v:=.bool false) V (λρ h=>Yl.to (Iq (h _ _ V) (h _ _ V)) (by rw[(Qg m).2 ⟨bo,bv⟩];rfl)) (C 2 V ?_);refine An (v:=De m.w) V (λρ h=>Jw ai (h _ _ V) (h _ _ V)) (An (v:=.bool false) V (λρ h=>Yl.to (Yl.eql (h _ _ V) (h _ _ V)) (by rw[qQ (λe=>bw (by omega))])) ?_);refine C 12 V (An (v:=.bool (!ap)) V (λρ h=>Yl.not (h _ _ V)) ?_);refine C 1 V (Ls (c:= !ap) (i:=119) V (λd1=>?_) (λd1=>?_))
        .refine I2 V V V (C 5 V ?_);have hex:(!ap || m.w==1)=true:=by rw[d1];simp
         rw[hex];refine C 2 V (An (v:=.int .i32 (-11)) V (λρ h=>Yl.to (Yl.sub (h _ _ V) (h _ _ V)) V) ?_);refine C 6 V (JL.uA V V ?_);refine C 1 V (HK (kk:=kk) (p:=.EJ true) (dl:= -11) O Z V V V V V HU V V λK a3 ag=>⟨⟨true,K.k,false,K.w - 1⟩,some .len,?_,aj.2 V,?_⟩)
         .obtain⟨a7,a8,a9,w3⟩:=K;obtain⟨g1,g2,U,al,bb,am⟩:=ag;simp only at g1 g2 U al;subst g1 g2 U;have be:w3<134217728:=am;have e:(⟨false,false,true,w3⟩:M4).num+(-11)=((8*(w3 - 1)+1:Nat):Int):=by simp only[M4.num,qv,pB];omega
          rw[e,F4 (by omega)];simp only[M4.num,qv,pB];omega
         exact C 2 V (az X O aq _ V)
        .refine An (v:=.int .i32 (m:M4).num) V (λρ h=>Yl.move (h _ _ V)) (An (v:=De m.w) V (λρ h=>Jw ai (h _ _ V) (h _ _ V)) ?_);refine C 3 V (GO (p:=(m.w:Int)=1) V (λd2=>?_) (λd2=>?_))
         .have hex:(!ap || m.w==1)=true:=by rw[d1];simp;omega
          rw[hex];refine C 2 V (An (v:=.int .i32 (-11)) V (λρ h=>Yl.to (Yl.sub (h _ _ V) (h _ _ V)) V) ?_);refine C 6 V (JL.uA V V ?_);refine C 1 V (HK (kk:=kk) (p:=.EJ true) (dl:= -11) O Z V V V V V HU V V λK a3 ag=>⟨⟨true,K.k,false,K.w - 1⟩,some .len,?_,aj.2 V,?_⟩)
          .obtain⟨a7,a8,a9,w3⟩:=K;obtain⟨g1,g2,U,al,bb,am⟩:=ag;simp only at g1 g2 U al;subst g1 g2 U;have be:w3<134217728:=am;have e:(⟨false,false,true,w3⟩:M4).num+(-11)=((8*(w3 - 1)+1:Nat):Int):=by simp only[M4.num,qv,pB];omega
           rw[e,F4 (by omega)];simp only[M4.num,qv,pB];omega
          exact C 2 V (az X O aq _ V)
         .have hex:(!ap || m.w==1)=false:=by rw[d1];simp;omega
          rw[hex];refine C 5 V (JL.uA V V ?_);refine C 1 V (HK (kk:=kk) (p:=.EJ false) (dl:= -7) O Z V V V V V HU V V λK a3 ag=>⟨⟨true,K.k,true,K.w - 1⟩,some .len,?_,aj.2 V,?_⟩)
          .obtain⟨a7,a8,a9,w3⟩:=K;obtain⟨g1,g2,U,al,bb,am⟩:=ag;simp only at g1 g2 U al;subst g1 g2 U;have be:w3<134217728:=am;have e:(⟨false,false,true,w3⟩:M4).num+(-7)=((8*(w3 - 1)+5:Nat):Int):=by simp only[M4.num,qv,pB];omega
           rw[e,F4 (by omega)];simp only[M4.num,qv,pB];omega
          exact C 2 V (az X O aq _ V)
       .refine⟨some (.Cz ap true 0 m),by simp[Fam.Cd,ac],?_⟩;refine C 2 V ?_;have bi:m.s=false:=by simpa using ac
        refine C 4 V (An (v:=De (BO m&&& 4)) V (λρ h=>EV (c:=4) ai (h _ _ V) (h _ _ V) (by decide)) ?_);refine An (v:=.bool false) V (λρ h=>Yl.to (Iq (h _ _ V) (h _ _ V)) (by rw[(Iy m).2 bi];rfl)) (C 11 V ?_);refine JL.again ?_;rw[← a4];exact EZ [(0,.pointer (some F.uA)),(2,iV v),(3,.bool ap),(4,.bool true),(5,iV ((0:Nat):Int)),(6,.int .i32 (m:M4).num)] V (b3 (ap,true,0,m,v) ⟨λ_=>ay.2.1 bi,qV _,a6⟩)
      .rw [d7 rfl];refine C 15 V (JL.uA V V ?_);refine HM (kk:=kk) (p:=.Fb true) O Z V V V V V HJ I4 V ?_;intro m cc ay;have a6:Dy m:=ay.2.2;have ai:CB m:=a6.CB;by_cases ac:m.s=true
       .refine⟨some (.EJ (!true || m.w==1)),by simp[Fam.Cd,ac],?_⟩;refine C 2 V ?_;let⟨bo,bv,bw⟩:=ay.1 ac;refine C 4 V (An (v:=De (BO m&&& 4)) V (λρ h=>EV (c:=4) ai (h _ _ V) (h _ _ V) (by decide)) ?_);refine An (v:=.bool true) V (λρ h=>Yl.to (Iq (h _ _ V) (h _ _ V)) (by have bx:(((BO m&&& 4:Nat):Int)≠0):=(λe=>by rw[(Iy m).1 e] at ac;cases ac);rw[rg bx])) ?_;refine C 6 V (An (v:=De (BO m&&& 3)) V (λρ h=>EV (c:=3) ai (h _ _ V) (h _ _ V) (by decide)) ?_);refine An (v:=.bool false) V (λρ h=>Yl.to (Iq (h _ _ V) (h _ _ V)) (by rw[(Qg m).2 ⟨bo,bv⟩];rfl)) (C 2 V ?_);refine An (v:=De m.w) V (λρ h=>Jw ai (h _ _ V) (h _ _ V)) (An (v:=.bool false) V (λρ h=>Yl.to (Yl.eql (h _ _ V) (h _ _ V)) (by rw[qQ (λe=>bw (by omega))])) ?_);refine C 12 V (An (v:=.bool (!true)) V (λρ h=>Yl.not (h _ _ V)) ?_);refine C 1 V (Ls (c:= !true) (i:=119) V (λd1=>?_) (λd1=>?_))
        .refine I2 V V V (C 5 V ?_);have hex:(!true || m.w==1)=true:=by rw[d1];simp
         rw[hex];refine C 2 V (An (v:=.int .i32 (-11)) V (λρ h=>Yl.to (Yl.sub (h _ _ V) (h _ _ V)) V) ?_);refine C 6 V (JL.uA V V ?_);refine C 1 V (HK (kk:=kk) (p:=.EJ true) (dl:= -11) O Z V V V V V HU V V λK a3 ag=>⟨⟨true,K.k,false,K.w - 1⟩,some .len,?_,aj.2 V,?_⟩)
         .obtain⟨a7,a8,a9,w3⟩:=K;obtain⟨g1,g2,U,al,bb,am⟩:=ag;simp only at g1 g2 U al;subst g1 g2 U;have be:w3<134217728:=am;have e:(⟨false,false,true,w3⟩:M4).num+(-11)=((8*(w3 - 1)+1:Nat):Int):=by simp only[M4.num,qv,pB];omega
          rw[e,F4 (by omega)];simp only[M4.num,qv,pB];omega
         exact C 2 V (az X O aq _ V)
        .refine An (v:=.int .i32 (m:M4).num) V (λρ h=>Yl.move (h _ _ V)) (An (v:=De m.w) V (λρ h=>Jw ai (h _ _ V) (h _ _ V)) ?_);refine C 3 V (GO (p:=(m.w:Int)=1) V (λd2=>?_) (λd2=>?_))
         .have hex:(!true || m.w==1)=true:=by rw[d1];simp;omega
          rw[hex];refine C 2 V (An (v:=.int .i32 (-11)) V (λρ h=>Yl.to (Yl.sub (h _ _ V) (h _ _ V)) V) ?_);refine C 6 V (JL.uA V V ?_);refine C 1 V (HK (kk:=kk) (p:=.EJ true) (dl:= -11) O Z V V V V V HU V V λK a3 ag=>⟨⟨true,K.k,false,K.w - 1⟩,some .len,?_,aj.2 V,?_⟩)
          .obtain⟨a7,a8,a9,w3⟩:=K;obtain⟨g1,g2,U,al,bb,am⟩:=ag;simp only at g1 g2 U al;subst g1 g2 U;have be:w3<134217728:=am;have e:(⟨false,false,true,w3⟩:M4).num+(-11)=((8*(w3 - 1)+1:Nat):Int):=by simp only[M4.num,qv,pB];omega
           rw[e,F4 (by omega)];simp only[M4.num,qv,pB];omega
          exact C 2 V (az X O aq _ V)
         .have hex:(!true || m.w==1)=false:=by rw[d1];simp;omega
          rw[hex];refine C 5 V (JL.uA V V ?_);refine C 1 V (HK (kk:=kk) (p:=.EJ false) (dl:= -7) O Z V V V V V HU V V λK a3 ag=>⟨⟨true,K.k,true,K.w - 1⟩,some .len,?_,aj.2 V,?_⟩)
          .obtain⟨a7,a8,a9,w3⟩:=K;obtain⟨g1,g2,U,al,bb,am⟩:=ag;simp only at g1 g2 U al;subst g1 g2 U;have be:w3<134217728:=am;have e:(⟨false,false,true,w3⟩:M4).num+(-7)=((8*(w3 - 1)+5:Nat):Int):=by simp only[M4.num,qv,pB];omega
           rw[e,F4 (by omega)];simp only[M4.num,qv,pB];omega
          exact C 2 V (az X O aq _ V)
       .refine⟨some (.Cz true true 0 m),by simp[Fam.Cd,ac],?_⟩;refine C 2 V ?_;have bi:m.s=false:=by simpa using ac
        refine C 4 V (An (v:=De (BO m&&& 4)) V (λρ h=>EV (c:=4) ai (h _ _ V) (h _ _ V) (by decide)) ?_);refine An (v:=.bool false) V (λρ h=>Yl.to (Iq (h _ _ V) (h _ _ V)) (by rw[(Iy m).2 bi];rfl)) (C 11 V ?_);refine JL.again ?_;rw[← a4];exact EZ [(0,.pointer (some F.uA)),(2,iV v),(3,.bool true),(4,.bool true),(5,iV ((0:Nat):Int)),(6,.int .i32 (m:M4).num)] V (b3 (true,true,0,m,v) ⟨λ_=>ay.2.1 bi,qV _,a6⟩)
     .refine⟨some ((.CN sv)),UM a1 _ (.inr V),?_⟩;refine C 6 V (An (v:=De (BO old&&& 5)) V (λρ h=>EV (c:=5) a0 (h _ _ V) (h _ _ V) (by decide)) ?_);refine An (v:=.bool false) V (λρ h=>Yl.to (Yl.eql (h _ _ V) (h _ _ V)) (by rw[qQ (λe=>a1 ((NP old).1 e))])) ?_;refine C 13 V (An (v:=.bool false) V (λρ h=>Yl.to (Yl.eql (h _ _ V) (h _ _ V)) (by rw[qQ c4])) ?_);refine C 7 V (An (v:=.pointer (some F.qA)) V (λρ h=>Hc (a:=F.uA) 0 1 Tryz.underlying100 Ot V V V (h _ _ V)) ?_);refine C 1 V (Ue (kk:=kk) (sv:=sv) O Z V V V V Wo V V ?_);refine JL.done ?_;cases sv
      .rw [d9 (by decide)];refine C 4 V (Q2 (kk:=kk) (p:=.GA) O Z V V V V V RX Sx λee ef v2 eg=>⟨some (.Fb (decide (IntKind.i64.wrap (v2 - wt)>1000000))),by (cases decide (IntKind.i64.wrap (v2 - wt)>1000000)<;>simp[Fam.Cd]),?_⟩);refine C 1 V (An (v:=.int .i64 (IntKind.i64.wrap (v2 - wt))) V (λρ h=>Yl.sub (h _ _ V) (h _ _ V)) ?_);refine C 4 V ?_;generalize decide (IntKind.i64.wrap (v2 - wt)>1000000)=ap;refine C 4 V (JL.uA V V ?_);refine HM (kk:=kk) (p:=.Fb ap) O Z V V V V V HJ I4 V ?_;intro m cc ay;have a6:Dy m:=ay.2.2;have ai:CB m:=a6.CB;by_cases ac:m.s=true
       .refine⟨some (.EJ (!ap || m.w==1)),by simp[Fam.Cd,ac],?_⟩;refine C 2 V ?_;let⟨bo,bv,bw⟩:=ay.1 ac;refine C 4 V (An (v:=De (BO m&&& 4)) V (λρ h=>EV (c:=4) ai (h _ _ V) (h _ _ V) (by decide)) ?_);refine An (v:=.bool true) V (λρ h=>Yl.to (Iq (h _ _ V) (h _ _ V)) (by have bx:(((BO m&&& 4:Nat):Int)≠0):=(λe=>by rw[(Iy m).1 e] at ac;cases ac);rw[rg bx])) ?_;refine C 6 V (An (v:=De (BO m&&& 3)) V (λρ h=>EV (c:=3) ai (h _ _ V) (h _ _ V) (by decide)) ?_);refine An (v:=.bool false) V (λρ h=>Yl.to (Iq (h _ _ V) (h _ _ V)) (by rw[(Qg m).2 ⟨bo,bv⟩];rfl)) (C 2 V ?_);refine An (v:=De m.w) V (λρ h=>Jw ai (h _ _ V) (h _ _ V)) (An (v:=.bool false) V (λρ h=>Yl.to (Yl.eql (h _ _ V) (h _ _ V)) (by rw[qQ (λe=>bw (by omega))])) ?_);refine C 12 V (An (v:=.bool (!ap)) V (λρ h=>Yl.not (h _ _ V)) ?_);refine C 1 V (Ls (c:= !ap) (i:=119) V (λd1=>?_) (λd1=>?_))
        .refine I2 V V V (C 5 V ?_);have hex:(!ap || m.w==1)=true:=by rw[d1];simp
         rw[hex];refine C 2 V (An (v:=.int .i32 (-11)) V (λρ h=>Yl.to (Yl.sub (h _ _ V) (h _ _ V)) V) ?_);refine C 6 V (JL.uA V V ?_);refine C 1 V (HK (kk:=kk) (p:=.EJ true) (dl:= -11) O Z V V V V V HU V V λK a3 ag=>⟨⟨true,K.k,false,K.w - 1⟩,some .len,?_,aj.2 V,?_⟩)
         .obtain⟨a7,a8,a9,w3⟩:=K;obtain⟨g1,g2,U,al,bb,am⟩:=ag;simp only at g1 g2 U al;subst g1 g2 U;have be:w3<134217728:=am;have e:(⟨false,false,true,w3⟩:M4).num+(-11)=((8*(w3 - 1)+1:Nat):Int):=by simp only[M4.num,qv,pB];omega
          rw[e,F4 (by omega)];simp only[M4.num,qv,pB];omega
         exact C 2 V (az X O aq _ V)
        .refine An (v:=.int .i32 (m:M4).num) V (λρ h=>Yl.move (h _ _ V)) (An (v:=De m.w) V (λρ h=>Jw ai (h _ _ V) (h _ _ V)) ?_);refine C 3 V (GO (p:=(m.w:Int)=1) V (λd2=>?_) (λd2=>?_))
         .have hex:(!ap || m.w==1)=true:=by rw[d1];simp;omega
          rw[hex];refine C 2 V (An (v:=.int .i32 (-11)) V (λρ h=>Yl.to (Yl.sub (h _ _ V) (h _ _ V)) V) ?_);refine C 6 V (JL.uA V V ?_);refine C 1 V (HK (kk:=kk) (p:=.EJ true) (dl:= -11) O Z V V V V V HU V V λK a3 ag=>⟨⟨true,K.k,false,K.w - 1⟩,some .len,?_,aj.2 V,?_⟩)
          .obtain⟨a7,a8,a9,w3⟩:=K;obtain⟨g1,g2,U,al,bb,am⟩:=ag;simp only at g1 g2 U al;subst g1 g2 U;have be:w3<134217728:=am;have e:(⟨false,false,true,w3⟩:M4).num+(-11)=((8*(w3 - 1)+1:Nat):Int):=by simp only[M4.num,qv,pB];omega
           rw[e,F4 (by omega)];simp only[M4.num,qv,pB];omega
          exact C 2 V (az X O aq _ V)
         .have hex:(!ap || m.w==1)=false:=by rw[d1];simp;omega
          rw[hex];refine C 5 V (JL.uA V V ?_);refine C 1 V (HK (kk:=kk) (p:=.EJ false) (dl:= -7) O Z V V V V V HU V V λK a3 ag=>⟨⟨true,K.k,true,K.w - 1⟩,some .len,?_,aj.2 V,?_⟩)
          .obtain⟨a7,a8,a9,w3⟩:=K;obtain⟨g1,g2,U,al,bb,am⟩:=ag;simp only at g1 g2 U al;subst g1 g2 U;have be:w3<134217728:=am;have e:(⟨false,false,true,w3⟩:M4).num+(-7)=((8*(w3 - 1)+5:Nat):Int):=by simp only[M4.num,qv,pB];omega
           rw[e,F4 (by omega)];simp only[M4.num,qv,pB];omega
          exact C 2 V (az X O aq _ V)
       .refine⟨some (.Cz ap true 0 m),by simp[Fam.Cd,ac],?_⟩;refine C 2 V ?_;have bi:m.s=false:=by simpa using ac
        refine C 4 V (An (v:=De (BO m&&& 4)) V (λρ h=>EV (c:=4) ai (h _ _ V) (h _ _ V) (by decide)) ?_);refine An (v:=.bool false) V (λρ h=>Yl.to (Iq (h _ _ V) (h _ _ V)) (by rw[(Iy m).2 bi];rfl)) (C 11 V ?_);refine JL.again ?_;rw[← a4];exact EZ [(0,.pointer (some F.uA)),(2,iV wt),(3,.bool ap),(4,.bool true),(5,iV ((0:Nat):Int)),(6,.int .i32 (m:M4).num)] V (b3 (ap,true,0,m,wt) ⟨λ_=>ay.2.1 bi,qV _,a6⟩)
      .rw [d7 rfl];refine C 15 V (JL.uA V V ?_);refine HM (kk:=kk) (p:=.Fb true) O Z V V V V V HJ I4 V ?_;intro m cc ay;have a6:Dy m:=ay.2.2;have ai:CB m:=a6.CB;by_cases ac:m.s=true
       .refine⟨some (.EJ (!true || m.w==1)),by simp[Fam.Cd,ac],?_⟩;refine C 2 V ?_;let⟨bo,bv,bw⟩:=ay.1 ac;refine C 4 V (An (v:=De (BO m&&& 4)) V (λρ h=>EV (c:=4) ai (h _ _ V) (h _ _ V) (by decide)) ?_);refine An (v:=.bool true) V (λρ h=>Yl.to (Iq (h _ _ V) (h _ _ V)) (by have bx:(((BO m&&& 4:Nat):Int)≠0):=(λe=>by rw[(Iy m).1 e] at ac;cases ac);rw[rg bx])) ?_;refine C 6 V (An (v:=De (BO m&&& 3)) V (λρ h=>EV (c:=3) ai (h _ _ V) (h _ _ V) (by decide)) ?_);refine An (v:=.bool false) V (λρ h=>Yl.to (Iq (h _ _ V) (h _ _ V)) (by rw[(Qg m).2 ⟨bo,bv⟩];rfl)) (C 2 V ?_);refine An (v:=De m.w) V (λρ h=>Jw ai (h _ _ V) (h _ _ V)) (An (v:=.bool false) V (λρ h=>Yl.to (Yl.eql (h _ _ V) (h _ _ V)) (by rw[qQ (λe=>bw (by omega))])) ?_);refine C 12 V (An (v:=.bool (!true)) V (λρ h=>Yl.not (h _ _ V)) ?_);refine C 1 V (Ls (c:= !true) (i:=119) V (λd1=>?_) (λd1=>?_))
        .refine I2 V V V (C 5 V ?_);have hex:(!true || m.w==1)=true:=by rw[d1];simp
         rw[hex];refine C 2 V (An (v:=.int .i32 (-11)) V (λρ h=>Yl.to (Yl.sub (h _ _ V) (h _ _ V)) V) ?_);refine C 6 V (JL.uA V V ?_);refine C 1 V (HK (kk:=kk) (p:=.EJ true) (dl:= -11) O Z V V V V V HU V V λK a3 ag=>⟨⟨true,K.k,false,K.w - 1⟩,some .len,?_,aj.2 V,?_⟩)
         .obtain⟨a7,a8,a9,w3⟩:=K;obtain⟨g1,g2,U,al,bb,am⟩:=ag;simp only at g1 g2 U al;subst g1 g2 U;have be:w3<134217728:=am;have e:(⟨false,false,true,w3⟩:M4).num+(-11)=((8*(w3 - 1)+1:Nat):Int):=by simp only[M4.num,qv,pB];omega
          rw[e,F4 (by omega)];simp only[M4.num,qv,pB];omega
         exact C 2 V (az X O aq _ V)
        .refine An (v:=.int .i32 (m:M4).num) V (λρ h=>Yl.move (h _ _ V)) (An (v:=De m.w) V (λρ h=>Jw ai (h _ _ V) (h _ _ V)) ?_);refine C 3 V (GO (p:=(m.w:Int)=1) V (λd2=>?_) (λd2=>?_))
         .have hex:(!true || m.w==1)=true:=by rw[d1];simp;omega
          rw[hex];refine C 2 V (An (v:=.int .i32 (-11)) V (λρ h=>Yl.to (Yl.sub (h _ _ V) (h _ _ V)) V) ?_);refine C 6 V (JL.uA V V ?_);refine C 1 V (HK (kk:=kk) (p:=.EJ true) (dl:= -11) O Z V V V V V HU V V λK a3 ag=>⟨⟨true,K.k,false,K.w - 1⟩,some .len,?_,aj.2 V,?_⟩)
          .obtain⟨a7,a8,a9,w3⟩:=K;obtain⟨g1,g2,U,al,bb,am⟩:=ag;simp only at g1 g2 U al;subst g1 g2 U;have be:w3<134217728:=am;have e:(⟨false,false,true,w3⟩:M4).num+(-11)=((8*(w3 - 1)+1:Nat):Int):=by simp only[M4.num,qv,pB];omega
           rw[e,F4 (by omega)];simp only[M4.num,qv,pB];omega
          exact C 2 V (az X O aq _ V)
         .have hex:(!true || m.w==1)=false:=by rw[d1];simp;omega
          rw[hex];refine C 5 V (JL.uA V V ?_);refine C 1 V (HK (kk:=kk) (p:=.EJ false) (dl:= -7) O Z V V V V V HU V V λK a3 ag=>⟨⟨true,K.k,true,K.w - 1⟩,some .len,?_,aj.2 V,?_⟩)
          .obtain⟨a7,a8,a9,w3⟩:=K;obtain⟨g1,g2,U,al,bb,am⟩:=ag;simp only at g1 g2 U al;subst g1 g2 U;have be:w3<134217728:=am;have e:(⟨false,false,true,w3⟩:M4).num+(-7)=((8*(w3 - 1)+5:Nat):Int):=by simp only[M4.num,qv,pB];omega
           rw[e,F4 (by omega)];simp only[M4.num,qv,pB];omega
          exact C 2 V (az X O aq _ V)
       .refine⟨some (.Cz true true 0 m),by simp[Fam.Cd,ac],?_⟩;refine C 2 V ?_;have bi:m.s=false:=by simpa using ac
        refine C 4 V (An (v:=De (BO m&&& 4)) V (λρ h=>EV (c:=4) ai (h _ _ V) (h _ _ V) (by decide)) ?_);refine An (v:=.bool false) V (λρ h=>Yl.to (Iq (h _ _ V) (h _ _ V)) (by rw[(Iy m).2 bi];rfl)) (C 11 V ?_);refine JL.again ?_;rw[← a4];exact EZ [(0,.pointer (some F.uA)),(2,iV wt),(3,.bool true),(4,.bool true),(5,iV ((0:Nat):Int)),(6,.int .i32 (m:M4).num)] V (b3 (true,true,0,m,wt) ⟨λ_=>ay.2.1 bi,qV _,a6⟩)
   .refine JL.done (C 4 V ?_);refine JL.uA V V (HM (kk:=kk) (p:=.EM sv aw it) O Z V V V V V HJ I4 V λa5 ct bn=>⟨some (.Cz sv aw it a5),aj.2 V,?_⟩);refine C 3 V (JL.again ?_);rw[← a4];exact EZ [(0,.pointer (some F.uA)),(2,iV wt),(3,.bool sv),(4,.bool aw),(5,iV (it:Int)),(6,.int .i32 (a5:M4).num)] V (b3 (sv,aw,it,a5,wt) ⟨bn.2.2.2,bz.2.1,bn.2.2.1⟩)
 exact λa ce=>key 5 a (by omega) ce
set_option maxHeartbeats 4000000 in
theorem Yt(K:s.q=false)(O:ops[i]?=some ⟨d,.call ⟨.value (.func 88),#[x],ats⟩,ty,pp,af,g⟩)(hw:AY L ops ⟨d,.call ⟨.value (.func 88),#[x],ats⟩,ty,pp,af,g⟩=some true)(U:((b.kind != .early)&&Bu n d)=true)(Y:ev L x=some (.pointer (some F.uA)))
  (h:JL (A7 Tryz.prog false) (Stop Tryz.prog F (.lk kk .Ga)) b n (AB L d (.tuple #[])) ds (.inRegion ops rest::k) cs s):
  JL (A7 Tryz.prog false) (Stop Tryz.prog F (.lk kk .GF)) b n L ds (.inRegion ops (i::rest)::k) cs s:=by
 refine HP (vs:=[.pointer (some F.uA)]) O hw U Tryz.func88 (by decide+kernel) V (by simp[evs,Y]) (pY V) λac back=>C 2 V (Mv (kk:=kk) (p:=.GF) Dp.stop K V (λ_ _=>V) V V V V (by simp) Xc ?_);refine C 6 V (JL.uA V V ?_);refine U7 (kk:=kk) (p:=.HW) (old:=M4.zero) (nw:=⟨true,false,false,0⟩) Dp.stop K V V V V V P6 V V V (λq Z=>⟨some .len,by simp[Fam.Cd],?_⟩) (λm q hm Z=>⟨some (.EM false false 0),by simp[Fam.Cd,hm],?_⟩);refine JL.done (C 5 V ?_);refine Mv (kk:=kk) (p:=.len) Dp.stop K V (λ_ _=>V) V V V V (by simp) Qp (C 3 V ?_);refine Q8 (kk:=kk) (p:=.Mb) Dp.stop K V (λ_ _=>V) V V V V Tryz.underlying210 Tryz.underlying135 Rz V (Ru (kk:=kk) (p:=.K3) (ad:=F.uA) Dp.stop K V (λ_ _=>V) V V V V (by simp) W1 V V ?_);exact JL.done (JL.ret V V (BL.none Tryz.func88 V) (back _ _ _ _ h));refine JL.done (C 4 V ?_);refine Z4 (kk:=kk) K V V V V (JL.done ?_);exact JL.fin V V (BL.none Tryz.func88 V) (back _ _ _ _ h)
set_option maxHeartbeats 4000000 in
theorem ZG(K:s.q=false)(O:ops[i]?=some ⟨d,.call ⟨.value (.func 54),#[x],ats⟩,ty,pp,af,g⟩)(hw:AY L ops ⟨d,.call ⟨.value (.func 54),#[x],ats⟩,ty,pp,af,g⟩=some true)(U:((b.kind != .early)&&Bu n d)=true)(Y:ev L x=some (.pointer (some F.uA)))
  (h:JL (A7 Tryz.prog false) (Stop Tryz.prog F (.lk kk .Ga)) b n (AB L d (.tuple #[])) ds (.inRegion ops rest::k) cs s):
  JL (A7 Tryz.prog false) (Stop Tryz.prog F (.lk kk .GF)) b n L ds (.inRegion ops (i::rest)::k) cs s:=by
 refine HP (vs:=[.pointer (some F.uA)]) O hw U Tryz.func54 (by decide+kernel) V (by simp[evs,Y]) (pY V) λZ back=>C 3 V (An (v:=.pointer (some F.uA)) V (λρ h=>Hc (a:=F.uA) 1 0 Tryz.underlying102 (A2 Tryz.type100) V V V (h _ _ V)) ?_);refine Yt (kk:=kk) K V V V V (JL.done ?_);exact JL.fin V V (BL.none Tryz.func54 V) (back _ _ _ _ h)
def Jh(m:M4):LP:=if m.l=false/\m.k=false/\m.s=false/\m.w≠0 then .Fq m else .FN
def SQ(m:M4):LP:=if m.s=true then .FJ true else if m.k=false/\m.w≠0 then .Fq {m with l:=false} else .FN
set_option maxHeartbeats 4000000 in
theorem YF{Z:Operand}{nw:M4}(U:s.q=false)(a2:ops[i]?=some ⟨d,.call ⟨.value (.func 123),#[x,Z],ats⟩,ty,pp,af,g⟩)(hw:AY L ops ⟨d,.call ⟨.value (.func 123),#[x,Z],ats⟩,ty,pp,af,g⟩=some true)(a3:((b.kind != .early)&&Bu n d)=true)(a4:ev L x=some (.pointer (some F.uA)))(a5:ev L Z=some (.int .i32 nw.num))(ai:nw.l=false)(a6:Dy nw)(ac:CB nw)
  (h:JL (A7 Tryz.prog false) (Stop Tryz.prog F (.lk kk .FN)) b n (AB L d (.tuple #[])) ds (.inRegion ops rest::k) cs s):
  JL (A7 Tryz.prog false) (Stop Tryz.prog F (.lk kk (if nw.s=true then .FJ true else if nw.k=false/\nw.w≠0 then .Fq nw else .FN))) b n L ds (.inRegion ops (i::rest)::k) cs s:=by
 refine HP (vs:=[.pointer (some F.uA),.int .i32 nw.num]) a2 hw a3 Tryz.func123 (by decide+kernel) V (by simp[evs,a4,a5]) (pY V) λal back=>C 4 V (An (v:=.int .i32 ({nw with l:=true}:M4).num) V (λρ h=>cP ac ai (h _ _ V) (h _ _ V)) ?_);refine An (v:=De (BO ({nw with l:=true}:M4)&&& 1)) V (λρ h=>EV (c:=1) (m:={nw with l:=true}) ac (h _ _ V) (h _ _ V) (by decide)) (An (v:=.bool false) V (λρ h=>Yl.to (Yl.eql (h _ _ V) (h _ _ V)) (by rw[qQ (λe=>by have q:=(SA _).1 e;cases q)])) ?_);refine C 6 V (An (v:=De (BO nw&&& 4)) V (λρ h=>EV (c:=4) ac (h _ _ V) (h _ _ V) (by decide)) ?_);refine C 2 V (GO (p:=((BO nw&&& 4:Nat):Int)=0) V (λc=>?_) (λc=>?_))
 .have am:=(Iy nw).1 c;rw[d9 (by rw[am];exact rU)];refine C 6 V ?_;refine IT ?_;refine EZ [(0,.pointer (some F.uA)),(4,.int .i32 nw.num)] V ?_;refine WZ λap aq=>?_;have a7:(if nw.k=false/\nw.w≠0 then LP.Fq nw else .FN)=Jh nw:=by unfold Jh;rw[ai,am];simp
  rw[a7];refine WN (P:=Tryz.prog) (F:=F) (s:=s) (kk:=kk) (ph:=λm=>LP.Fq m) (ok:=Dy) (head:=λ(X:Ph->GP) (a:M4)=>JL (A7 Tryz.prog false) (X (.lk kk (Jh a))) (base 123) Tryz.f123.ntmps ([(0,.pointer (some F.uA)),(4,.int .i32 (a:M4).num)]) [] ap (al::cs) s) ?_ nw a6;intro Y bw av hC old aw;have K:CB old:=aw.CB;show JL (A7 Tryz.prog false) (Y (.lk kk (Jh old))) (base 123) Tryz.f123.ntmps [(0,.pointer (some F.uA)),(4,.int .i32 old.num)] [] ap (al::cs) s;rw[aq];refine C 5 V (An (v:=De old.w) V (λρ h=>Jw K (h _ _ V) (h _ _ V)) ?_);refine C 2 V (Nh (q:=(old.w:Int)=0) (i:=17) V (λc2=>?_) (λc2=>?_))
  .have O:Jh old=.FN:=by unfold Jh;rw[d9 (λe=>e.2.2.2 (by omega))]
   refine C 6 V ?_;rw[O];exact JL.ret V V (BL.none Tryz.func123 V) (back _ _ _ _ (OM (λg s=>av _ g s) h))
  .refine An (v:=.int .i32 (old:M4).num) V (λρ h=>Yl.move (h _ _ V)) (An (v:=De (BO old&&& 7)) V (λρ h=>EV (c:=7) K (h _ _ V) (h _ _ V) (by decide)) ?_);refine C 3 V (GO (p:=((BO old&&& 7:Nat):Int)≠0) V (λc3=>?_) (λc3=>?_))
   .have O:Jh old=.FN:=by unfold Jh;rw[d9 (λe=>c3 ((Xf old).2 ⟨e.1,e.2.1,e.2.2.1⟩))]
    rw[O];exact JL.ret V V (BL.none Tryz.func123 V) (back _ _ _ _ (OM (λg s=>av _ g s) h))
   .have a8:=(Xf old).1 (rG.1 c3);obtain⟨l0,bx,bz,w0⟩:=old;obtain⟨z1,ay,az⟩:=a8;simp only at z1 ay az c2;subst z1 ay az;have a0:w0≠0:=by omega
    have O:Jh ⟨false,false,false,w0⟩=.Fq ⟨false,false,false,w0⟩:=by unfold Jh;rw[d7 ⟨rfl,rfl,rfl,a0⟩]
    rw[O];refine C 4 V (An (v:=.int .i32 (⟨false,false,false,w0 - 1⟩:M4).num) V (λρ h=>cT (m:=⟨false,false,false,w0⟩) K a0 (h _ _ V) (h _ _ V)) ?_);refine An (v:=.int .i32 (⟨false,true,false,w0 - 1⟩:M4).num) V (λρ h=>PG (c:=2) (m:=⟨false,false,false,w0 - 1⟩) (by unfold CB at K ⊢;simp only at K ⊢;omega) (by decide) (SV _) V (h _ _ V) (h _ _ V)) (C 7 V ?_);refine JL.uA V V (C 2 V ?_);refine λT a9=>(A7 Tryz.prog false).stop (hC ⟨false,false,false,w0⟩ _ aw λX b0 bb a1 be bi=>?_);refine Rj (kk:=kk) (p:=.Fq ⟨false,false,false,w0⟩) (old:=⟨false,false,false,w0⟩) (nw:=⟨false,true,false,w0 - 1⟩) bb U V V V V V P6 V V V (λq bn=>⟨some (.FJ false),by simp[Fam.Cd],?_⟩) (λm q hm bn=>⟨some .HZ,by simp[Fam.Cd,hm],?_⟩) T a9;refine JL.done (C 5 V ?_);refine An (v:=.pointer (some F.qA)) V (λρ h=>Hc (a:=F.uA) 0 1 Tryz.underlying100 Ot V V V (h _ _ V)) (TT (kk:=kk) (st:=false) a1 U V V V V V2 V V ?_);exact JL.done (JL.ret V V (BL.none Tryz.func123 V) (back _ _ _ _ (OM (λg s=>be _ g s) h)));refine JL.done (C 5 V ?_);refine JL.uA V V (HM (kk:=kk) (p:=.HZ) a1 U V V V V V HJ jA V λag b1 bo=>⟨some (Jh ag),aj.2 V,?_⟩);refine C 3 V (JL.again ?_);rw[← aq];exact EZ [(0,.pointer (some F.uA)),(4,.int .i32 ag.num)] V (bi ag bo)
 .have bv:nw.s=true:=by rcases tj nw.s with hh | hh;exact hh;exact absurd ((Iy nw).2 hh) c
  rw[d7 bv];refine C 3 V (An (v:=.pointer (some F.qA)) V (λρ h=>Hc (a:=F.uA) 0 1 Tryz.underlying100 Ot V V V (h _ _ V)) ?_);refine TT (kk:=kk) (st:=true) Dp.stop U V V V V V2 V V (JL.done ?_);exact JL.fin V V (BL.none Tryz.func123 V) (back _ _ _ _ h)
set_option maxHeartbeats 4000000 in
theorem XU(K:s.q=false)(ag:ops[i]?=some ⟨d,.call ⟨.value (.func 89),#[x],ats⟩,ty,pp,af,g⟩)(hw:AY L ops ⟨d,.call ⟨.value (.func 89),#[x],ats⟩,ty,pp,af,g⟩=some true)(ai:((b.kind != .early)&&Bu n d)=true)(al:ev L x=some (.pointer (some F.uA)))
  (h:JL (A7 Tryz.prog false) (Stop Tryz.prog F .IJ) b n (AB L d (.tuple #[])) ds (.inRegion ops rest::k) cs s):
  JL (A7 Tryz.prog false) (Stop Tryz.prog F (.lk kk .Hk)) b n L ds (.inRegion ops (i::rest)::k) cs s:=by
 refine HP (vs:=[.pointer (some F.uA)]) ag hw ai Tryz.func89 (by decide+kernel) V (by simp[evs,al]) (pY V) λay back=>C 6 V (JL.uA V V ?_);refine HM (kk:=kk) (p:=.Hk) Dp.stop K V V V V V HJ jU V λaz a0 a1=>⟨some .Lb,aj.2 V,?_⟩;refine C 4 V (Q8 (kk:=kk) (p:=.Lb) Dp.stop K V (λ_ _=>V) V V V V Tryz.underlying210 Tryz.underlying135 Rz V ?_);refine Ru (kk:=kk) (p:=.K7) (ad:=F.uA) Dp.stop K V (λ_ _=>V) V V V V (by simp) kr V V (C 2 V ?_);refine Mv (kk:=kk) (p:=.K0) Dp.stop K V (λ_ _=>V) V V V V (by simp) Xc (C 5 V ?_);refine JL.uA V V (HK (kk:=kk) (p:=.IB) (dl:= -1) Dp.stop K V V V V V HU V V λm q Y=>⟨{m with l:=false},some (SQ m),?_,aj.2 V,?_⟩)
 .obtain⟨am,O,U,w3⟩:=m;obtain⟨g1,ap⟩:=Y;simp only at g1;subst g1;have a2:w3<134217728:=ap;have a3:=sK O;have a4:=sK U;have e:(⟨true,O,U,w3⟩:M4).num+(-1)=((2*O.toNat+4*U.toNat+8*w3:Nat):Int):=by simp only[M4.num,qv];omega
  rw[e,F4 (by omega)];simp only[M4.num,pB];omega
 .have Z:Dy m:=Y.2;have aq:CB ({m with l:=false}:M4):=(show Dy ({m with l:=false}:M4) from Z).CB;refine C 8 V ?_;refine GO (p:=({m with l:=false}:M4).num≠0) V (λc=>?_) (λc=>?_);refine JL.region (C 2 V ?_);refine YF (kk:=kk) (nw:={m with l:=false}) K V V V V V V Z aq (C 2 V ?_);refine Mv (kk:=kk) (p:=.FN) Dp.stop K V (λ_ _=>V) V V V V (by simp) Qp (JL.done ?_);exact JL.fin V V (BL.none Tryz.func89 V) (back _ _ _ _ h)
  .have av:({m with l:=false}:M4).num=0:=rG.1 c;have ac:m.k=false/\m.s=false/\m.w=0:=by
    obtain⟨am,O,U,w3⟩:=m;cases O<;>cases U<;>simp[M4.num] at av ⊢<;>omega
   have aw:SQ m=.FN:=by unfold SQ;rw[d9 (by rw[ac.2.1];exact rU),d9 (λe=>e.2 ac.2.2)]
   rw[aw];refine C 2 V (Mv (kk:=kk) (p:=.FN) Dp.stop K V (λ_ _=>V) V V V V (by simp) Qp ?_);exact JL.done (JL.fin V V (BL.none Tryz.func89 V) (back _ _ _ _ h))
theorem JO.cr{M:Env}(K:b.roundOf=none)(O:s.q=false)(h:JO (A7 Tryz.prog false) (Stop Tryz.prog F .IJ) b n M ds cs s):
  JO (A7 Tryz.prog false) (Stop Tryz.prog F (.lk kk .Hk)) b n M (dcall 55 #[.pointer (some F.uA)]::ds) cs s:=by
 refine JO.enter (vs:=[.pointer (some F.uA)]) K Tryz.func55 (by decide+kernel) V (pY V) λT U todo=>C 3 V (An (v:=.pointer (some F.uA)) V (λρ h=>Hc (a:=F.uA) 1 0 Tryz.underlying102 (A2 Tryz.type100) V V V (h _ _ V)) ?_);refine XU (kk:=kk) O V V V V (JL.done ?_);exact JL.out V (JO.leaveD V Tryz.func55 V (.inl V) (h T U todo))
end Pal
namespace Pal
open Go Go.Conc
open Go.ConcN (upd)
variable {ops:Ao_}{i:Nat}{rest:List Nat}{d:Option Tmp}{f:FuncId}{y z:Operand}{ats:Array TypeId}{ty t u tw:TypeId}{pp:String}{af:Ae_}{g:On_}{kk:Nat}
variable{w:World}
section
variable {P:Program}{F:Fam}{n:Nat}{L L':Env}{ds:Ld_}{k:Li_}{cs:Lf_}{s s':St}{b:Frame}
variable {x:Operand}
theorem X2{m:Nat}(h:Bz P t=some m)(w:World):(Go.sizeOf t).run P w=.ok m w:=by
 unfold Bz at h;simp only[Go.sizeOf,typeInfo,bind,Sem.bind,program,Sem.run];cases hi:P.info? t with
 | none=>rw[hi] at h;cases h
 | some j=>rw[hi] at h;simp at h;subst h;rfl
theorem dw{K:Nat->Value}(h:F.FD w K)(O:kk<F.n):w.cell? ⟨F.fd,kk,none⟩=some (K kk)/\w.frozen? ⟨F.fd,kk,none⟩=false:=by
 unfold Fam.FD Fam.Jj at h;constructor;simp[World.cell?,h,O];simp[World.frozen?,h]
theorem Ys{O:Nat->Value}{v:Value}(h:F.FD w O)(ac:kk<F.n):w.setCell ⟨F.fd,kk,none⟩ v=F.H2 w (upd O kk v):=by
 unfold Fam.H2 World.setCell;congr 1;apply q8;intro i;unfold Fam.FD Fam.Jj at h;rw[ry];have U:F.fd<w.heap.size:=by
  rcases gD F.fd w.heap.size with K | K;exact K;simp[qg K] at h
 by_cases e:F.fd=i;subst e;rw[pn U,h];simp only[q1,ra,Fam.Jj,q2,Obj.cells.injEq,uz];apply Array.ext;simp;intro j ag Y;by_cases e2:kk=j;subst e2;simp[upd];have Z:¬j=kk:=λe=>e2 e.symm;simp[upd,Z];rw[Array.getElem_setIfInBounds (by simpa using Y),d9 e2];simp;rw[mt e,d9 e]
theorem YD{X:Ph->GP}(aq:Dp P F X){a:Option Addr}{l c:Nat}(av:s.q=false)(Y:kk<F.n)
  (aw:ops[i]?=some ⟨d,.store t x y,ty,pp,af,g⟩) (Z:b.roundOf=none) (hw:AY L ops ⟨d,.store t x y,ty,pp,af,g⟩=some true) (U:((b.kind != .early)&&Bu n d)=true)
  (ay:Bz P t=some 1) (az:(P.funcs[b.fn]?).any (·.norace)=false) (a0:ev L x=some (.pointer (some ⟨F.fd,kk,none⟩))) (a1:ev L y=some (.slice a l c)) (hm:F.msg kk (.slice a l c) s.E)
  (h:JL (A7 P false) (X (.lk kk .Hk)) b n (AB L d undef) ds (.inRegion ops rest::k) cs s):
  JL (A7 P false) (X (.lk kk .Ga)) b n L ds (.inRegion ops (i::rest)::k) cs s:=λT K=>by
 simp only[f5] at U
 refine(A7 P _).stop (aq _ _ _ {
  run:=rfl,offers:=rfl,quiet:=(by simp[Fam.Da]),live:=λ_=>av,act:=(by simp[Fam.act]),JK:=(by simp),FM:=(by simp),go:=(by simp),lk:=λk' l e a2=>by cases e;exact absurd rfl a2
  CN:=(by simp),store:=λk' e=>?_,fin:=(by simp)})
 cases e
 refine⟨_,hm,G (fr b (C6 T d undef) ds (.inRegion ops rest::k)) cs,rfl,λw a3 ac=>?_,h _ (K.put U.2 _)⟩
 let⟨c1,c2⟩:=dw ac Y
 have ag:execOp (⟨T,ds⟩:Act).eval ⟨d,.store t x y,ty,pp,af,g⟩=(do Instr.storeAt t (.pointer (some ⟨F.fd,kk,none⟩)) (.slice a l c);pure Next.skip):=by
  rw[Mj];simp only[execOp,K.ev a0,K.ev a1]
 have ai:(Value.slice a l c).cells=#[.slice a l c]:=rfl;have al:(Value.slice a l c).oneCell'=true:=rfl;have am:(Addr.add ⟨F.fd,kk,none⟩ 0)=⟨F.fd,kk,none⟩:=by rw[Et rfl];rfl
 have ap:=X2 (P:=P) ay w;have O:=run_store P w ⟨F.fd,kk,none⟩ (.slice a l c) .plain al;rw[c1] at O;simp only[c2,qe,qY] at O;rw[BY Z,BY Z,stepG_none (a:=⟨T,ds⟩) (w':=F.H2 w (upd a3 kk (.slice a l c))) aw (Cl K hw) (by simpa using U.1) (by
  rw[ag]
  simp[Instr.storeAt,Instr.sureAddr,storeVar,ai,ap,storeCells,am,O,Ys ac Y,Result.andThen]),EG]
 have e2:listed P b.fn ⟨T,ds⟩ ⟨d,.store t x y,ty,pp,af,g⟩ w=#[⟨.cell ⟨F.fd,kk,none⟩,true,false⟩]:=by
  unfold listed;rw[ag];have a4:=events_store (P:=P) (w:=w) (es:=#[]) ⟨F.fd,kk,none⟩ (.slice a l c) .plain al;have a5:(do Instr.storeAt t (.pointer (some ⟨F.fd,kk,none⟩)) (.slice a l c);pure Next.skip:Sem Next).events P w #[]=#[⟨.cell ⟨F.fd,kk,none⟩,true,false⟩]:=by
   simp[Instr.storeAt,Instr.sureAddr,storeVar,ai,ap,storeCells,am,O,c1,c2,a4,Result.evThen]
  rw[a5,seen_def];simp[seenStep,az]
 rw[e2]
end
end Pal
namespace Pal
open Go Go.Conc Go.Proofs
open Go.Proofs.Tryz
open Go.Conc.Lib Go.ConcR.Gen
theorem kg:(Tryz.prog.funcs[50]?).any (·.norace)=false:=by rw[func50];rfl
def JI(fu_:Nat)(K:Bi)(p:AE)(j:Nat):Option (List Int):=
 (f120 fu_ K).bind λO=>
 (f119 fu_ ([O]:List (List (AU))) ((j:Nat):Int) p ([]:List ((Nat×Bv)×Bool))).bind λU=>
 some U.1
variable{F:Fam}{Z ac ai al c2 fu_ j kf:Nat}{a1 ap:Aq}{p:AE}{O:Bi}
set_option maxHeartbeats 1000000 in
theorem iC{E:LH}{am:Aq}{aq op ag oi off:Nat}(a2:At E ac op [.slice ap p.length Z])(a3:Ao Ay E ap Z p)(a4:At E ag ai [sV a1 O.1 c2,sV am O.2 aq])(a5:Ao (rL rI) E a1 c2 O.1)(a6:Ao Ay E am aq O.2)(hi:At E al oi [iV ((j:Nat):Int)])(a7:At E kf off [.slice (some ⟨F.fd,0,none⟩) F.n F.n]){r:List Int}(ay:JI fu_ O p j=some r)(az:j<F.n)(a8:∀E' a c,Le E E'->Ao rI E' a c r->(r=[]->a=none)->F.msg j (.slice a r.length c) E'):
  Way Tryz.prog false (Stop Tryz.prog F (F.start j)) (born Tryz.prog ⟨.fn (.func 50) [.pointer (some F.sA),Al ac op,Al ag ai,Al al oi,.pointer (some F.uA),Al kf off].toArray,#[]⟩) ⟨E,λ_=>none,false⟩:=by
 refine bD (fn:=Tryz.f50) (vs:=[.pointer (some F.sA),Al ac op,Al ag ai,Al al oi,.pointer (some F.uA),Al kf off]) func50 (by decide+kernel) V (by simp) (pY V) ?_;obtain⟨H,a9⟩:∃H:LH,H=λ_=>none:=⟨_,V⟩;rw[← a9];have bb:Au E H []:=trivial;refine(?_:JL (A7 Tryz.prog false) (Stop Tryz.prog F (.lk j .GF)) (baseD 50) Tryz.f50.ntmps (GR 0 [.pointer (some F.sA),Al ac op,Al ag ai,Al al oi,.pointer (some F.uA),Al kf off]) [] [.code _] [MD Tryz.prog] (Ak E H []));unfold JI at ay;refine C 2 V (JL.defer (vs:=[.pointer (some F.sA)]) V V V V V ?_);refine C 3 V (Dw 0 a2 BH V V V ?_);refine JS.makeMap V V V bb λr1 be=>An (v:=.agg #[sV ap p Z,.map (some r1)]) V (λρ h=>C5 [(0,1),(1,1)] h (DJ type113) underlying113 ⟨V,A2 type69,V,A2 type111,trivial⟩ V V) (JS.box (v:=.agg #[sV ap p Z,.map (some r1)]) V V V be V λcp bi=>?_);refine C 3 V (Dl 1 bi V λct K bn bo=>?_);refine FH 5 λav=>Dr 0 av V V (KU 1 av (a4.Ah K) F0 Ef V V V ?_);refine EI 4 av 0 (hi.Ah K) Br V V V V ?_;let⟨a0,bv,bw⟩:=bs ay;refine JG.call (i:=2) (vs:=[.agg #[sV a1 O.1 c2,sV am O.2 aq]]) (ic (a5.Ah K) (a6.Ah K) bv) (by decide+kernel) V V V (A8 func53 V) V bo ?_;rintro _ cw _ U ⟨bx,bz,rfl,rfl,b0⟩ b1;refine JG.one (i:=3) V (by decide+kernel) (Take.FK (pp:=(rL (rM rI false rI false))) [sV bx a0 bz] ([a0]:List (List AU)) b1 V V V underlying118 KF Ol (by decide) V V V ⟨⟨_,_,V,b0⟩,trivial⟩ λcy c0 b2 b3=>?_);refine Dc [5,6] (Cp 3 b2 b3 V λc1 Y b4 b5=>?_);let⟨b6,ca,cc⟩:=bs bw;refine Cc 0 (gH b4 (bn.Ah (U.Ad Y)) (a3.Ah ((K.Ad U).Ad Y)) BQ.nil ca) V V (A8 func52 V) b5 V ?_;rintro _ c3 _ aw ⟨c4,c5,c6,rfl,rfl,ce,ci,c7⟩ c8;refine C 3 V ?_;have co:r=b6.1:=(f6 cc).symm;subst co;refine JL.region (ZG (kk:=j) V V V V V ?_);refine C 3 V (JL.defer (vs:=[.pointer (some F.uA)]) V V V V V ?_);refine C 2 V (Dw 0 (a7.Ah (((K.Ad U).Ad Y).Ad aw)) Fy V V V ?_);refine Dw 0 (hi.Ah (((K.Ad U).Ad Y).Ad aw)) Br V V V (C 1 V ?_);refine An (v:=Al F.fd j) V (λρ h=>Yl.to (EN (xs:=List.replicate F.n ()) (m:=((j:Nat):Int)) (xv:=()) (sn) (by simp[ix,az]) underlying25 Fz (h _ _ V) (h _ _ V)) (by show Al F.fd (j*1)=_;rw[Nat.mul_one])) (YD (kk:=j) Dp.stop V az V V V V Fz kg V V (a8 _ _ _ (((K.Ad U).Ad Y).Ad aw) ce ci) ?_);exact JL.done (JL.out V (JO.cr (kk:=j) V V (JO.jK Tryz.LQ V V (JO.leaveD V func50 V (.inr V) YP))))
variable{c:Nat}
theorem OL.hZ{e:TypeId}{E:LH}{r:Nat}{seg:Seg}{xs:Lv_}(h:OL e rV E (Bc r) c seg xs)(Y:c=xs.length):seg=[(r,.cells xs.toArray e (0,0))]:=by
 obtain⟨wss,ag,K,Z⟩:=h;rcases ag with⟨ai,_⟩ | ⟨bk,f,al,e2,ac,am,O⟩;cases ai
 cases al;have hw:wss=xs.map λx=>[x]:=by
  apply q3;intro i;rw[qI];cases U:xs[i]? with
  | none=>rw[qy (by rw[K];exact List.getElem?_eq_none_iff.1 U)];rfl
  | some x=>
   have hi:i<wss.length:=by rw[K];exact(d0.1 U).1
   have:=(Z i x wss[i] U (d6 hi)).1;rw[d6 hi,this];rfl
 have ap:wss.flatten=xs:=by
  rw[hw];clear hw O Z K ac am Y
  induction xs with
  | nil=>rfl
  | cons x xs aq=>simp[aq]
 rw[ap] at O;have aw:rV.n=1:=V;have av:f.toList=xs:=by
  rw[O];rw[rj (by rw[tJ,ac,Y];exact oU _)]
 rw[e2,← av]
noncomputable def LY:Code:=match(Tryz.f24.body).bind (Kl 0) with | some (.loop c)=>c | _=>.skip
noncomputable def Xl:Code:=match(Tryz.f24.body).bind (Kl 2) with | some (.loop c)=>c | _=>.skip
variable{n:Nat}{xs:Nat->List Int}{H:LH}{k:Li_}{cs:Lf_}
set_option maxHeartbeats 1000000 in
theorem dN(av:F.n=n)(bw:0<n)(bx:n<=1000){E:LH}{ai:Aq}{am:Nat}(aw:Ao Ay E ap al p)(ay:Ao (rL rI) E a1 c2 O.1)(az:Ao Ay E ai am O.2)(hlen:p.length=n){Y:Nat}(a0:At E Y 0 [.slice ap p.length al])(a2:At E Z 0 [sV a1 O.1 c2,sV ai O.2 am])(a3:At E kf 0 [.slice (some ⟨F.fd,0,none⟩) F.n F.n])(a4:∀j,j<n->JI fu_ O p j=some (xs j))(a5:∀j,j<n->∀E' a c,Ao rI E' a c (xs j)->(xs j=[]->a=none)->F.msg j (.slice a (xs j).length c) E')(ac:j<n){ag:LH}(hle:Le E ag)(a6:Au ag H [])
  (h:∀U,Le E U->Au U H []->JL (A7 Tryz.prog true) (Stop Tryz.prog F (F.Fe j)) (base 24) Tryz.f24.ntmps [(2,Al Z 0),(3,Al Y 0),(6,.pointer (some F.uA)),(7,.pointer (some F.sA)),(8,Al kf 0),(19,iV (p.length:Int)),(20,iV ((j+1:Nat):Int))] [] (.inLoop LY::k) cs (Ak U H [])):
  JL (A7 Tryz.prog true) (Stop Tryz.prog F (.GX j)) (base 24) Tryz.f24.ntmps [(2,Al Z 0),(3,Al Y 0),(6,.pointer (some F.uA)),(7,.pointer (some F.sA)),(8,Al kf 0),(19,iV (p.length:Int)),(20,iV ((j:Nat):Int))] [] (.code LY:: .inLoop LY::k) cs (Ak ag H []):=by
 refine C 2 V (An (v:=.bool true) V (λρ h=>Yl.to (Yl.lss (h _ _ V) (h _ _ V)) (by rw[rg (show((j:Nat):Int)<(p.length:Int) by omega)])) ?_);refine C 9 V (B3 a6 CJ λrn a7=>?_);refine JS.sx 0 a7 AO λa8=>?_;refine Dl 0 a8 V λU a9 bb be=>Io (S':=[]) (by simp) be λbi=>?_;have K:=hle.trans a9;refine C 3 V (Zs Tryz.LQ V V V V V V ?_);refine C 2 V (An (v:=.func (.func 50) #[] ([.pointer (some F.sA),Al Y 0,Al Z 0,Al rn 0,.pointer (some F.uA),Al kf 0]:Lv_).toArray) V (λρ h=>Ml (by simp) (by simp[h (.tmp 7) _ rfl,h (.tmp 3) _ rfl,h (.tmp 2) _ rfl,h (.tmp 9) _ rfl,h (.tmp 6) _ rfl,h (.tmp 8) _ rfl])) ?_);have aq:=iC (F:=F) (j:=j) (a0.Ah K) (aw.Ah K) (a2.Ah K) (ay.Ah K) (az.Ah K) bb (a3.Ah K) (a4 j ac) (by rw[av];exact ac) (λE' a c _ bn bo=>a5 j ac E' a c bn bo);refine gi (fi:=#[]) V V V V V V V (by first | exact aq | (simp only[List.append_toArray,qS,tb,Array.empty_append];exact aq)) ?_
 refine C 3 V ?_;have bv:Av (((j:Nat):Int)+1)=some (((j+1:Nat)):Int):=by unfold Av;rw[d7 (by omega)];simp
 refine BE bv V V V (C 2 V ?_);exact AH (h U K bi) V
theorem YE(Y:F.n=n)(av:0<n)(aw:n<=1000){E:LH}{ag:Aq}(ay:Ao Ay E ap ai p)(az:Ao (rL rI) E a1 c2 O.1)(a0:Ao Ay E ag al O.2)(hlen:p.length=n)(a2:At E Z 0 [.slice ap p.length ai])(a3:At E ac 0 [sV a1 O.1 c2,sV ag O.2 al])(a4:At E kf 0 [.slice (some ⟨F.fd,0,none⟩) F.n F.n])(a5:∀j,j<n->JI fu_ O p j=some (xs j))(a6:∀j,j<n->∀E' a c,Ao rI E' a c (xs j)->(xs j=[]->a=none)->F.msg j (.slice a (xs j).length c) E')
  (h:∀K,Le E K->Au K H []->JL (A7 Tryz.prog true) (Stop Tryz.prog F .DZ) (base 24) Tryz.f24.ntmps [(2,Al ac 0),(3,Al Z 0),(6,.pointer (some F.uA)),(7,.pointer (some F.sA)),(8,Al kf 0),(19,iV (p.length:Int)),(20,iV (p.length:Int))] [] (.code LY:: .inLoop LY::k) cs (Ak K H [])):
  ∀(m j:Nat),j+m=n->0<m->∀U,Le E U->Au U H []->JL (A7 Tryz.prog true) (Stop Tryz.prog F (.GX j)) (base 24) Tryz.f24.ntmps [(2,Al ac 0),(3,Al Z 0),(6,.pointer (some F.uA)),(7,.pointer (some F.sA)),(8,Al kf 0),(19,iV (p.length:Int)),(20,iV ((j:Nat):Int))] [] (.code LY:: .inLoop LY::k) cs (Ak U H []):=by
 intro m
 induction m with
 | zero=>intro j _ a7;cases a7
 | succ m a8=>
  intro j be _ U hle a9;refine dN Y av aw ay az a0 hlen a2 a3 a4 a5 a6 (by omega) hle a9 λK am aq=>JL.again ?_;by_cases hm:m=0
  .subst hm;have bb:j+1=F.n:=by rw[Y];omega
   have e:F.Fe j=.DZ:=by unfold Fam.Fe;rw[d7 bb]
   rw[e];have e2:((j+1:Nat):Int)=(p.length:Int):=by rw[hlen];omega
   rw[e2];exact h K am aq
  .have e:F.Fe j=.GX (j+1):=by unfold Fam.Fe;rw[d9 (by rw[Y];omega)]
   rw[e];exact a8 (j+1) (by omega) (by omega) K am aq
def Kq(fu_:Nat)(K:Bi)(p:AE)(j:Nat):List Int:=(JI fu_ K p j).getD []
def Mz(n:Nat)(xs:Nat->List Int):(List Int)×Bool:=match(List.range n).find? (λj=> !(xs j).isEmpty) with | some j=>(xs j,true) | none=>([],false)
def f77(fu_:Nat)(K:Bi)(p:AE):Option ((List Int)×Bool):=if p.length=0 then some ([],true) else if p.length<=1000/\(List.range p.length).all (λj=>(JI fu_ K p j).isSome)=true then some (Mz p.length (Kq fu_ K p)) else none
theorem Y1{i:Nat}(hi:i<n)(K:xs i≠ [])(O:∀k,k<i->xs k=[]):Mz n xs=(xs i,true):=by
 unfold Mz;have:(List.range n).find? (λj=> !(xs j).isEmpty)=some i:=by
  rw[rk];refine⟨by simp[K],by simpa using hi,λj U=>by simp[O j U]⟩
 rw[this]
theorem ae(K:∀k,k<n->xs k=[]):Mz n xs=([],false):=by
 unfold Mz;have:(List.range n).find? (λj=> !(xs j).isEmpty)=none:=by
  rw[sj];intro j O;simp[K j (qc.1 O)]
 rw[this]
theorem cV{E:LH}{a:Aq}{xs:List Int}(h:Ao rI E a c xs)(K:xs≠ []):a.isNone=false:=by
 rcases h.2 with⟨e,_⟩ | ⟨bk,off,e,_⟩;exact absurd e K;rw[e];rfl
set_option maxHeartbeats 1000000 in
theorem iD{J:Judge Tryz.prog}{Q:Gs_}{Y:Frame}{fd:Nat}{f:Nat->Value}(aw:n<=1000){E:LH}(ag:Au E H [[(fd,.cells (Array.ofFn λi:Fin n=>f i) 22 (0,0))]])(hm:∀k,k<n->∃a c,f k=.slice a (xs k).length c/\Ao rI E a c (xs k)/\(xs k=[]->a=none))
  (ai:∀i a c L',i<n->xs i≠ []->(∀k,k<i->xs k=[])->Ao rI E a c (xs i)->look L' 4=some (.slice a (xs i).length c)->look L' 5=some (.bool true)->∀k',JL J Q (base 24) Tryz.f24.ntmps L' [] (.code .ret::k') (Y::cs) (Ak E H [[(fd,.cells (Array.ofFn λi:Fin n=>f i) 22 (0,0))]]))
  (al:(∀k,k<n->xs k=[])->JL J Q (base 24) Tryz.f24.ntmps [] [] k (Y::cs) (Ak E H [[(fd,.cells (Array.ofFn λi:Fin n=>f i) 22 (0,0))]])):
  ∀m i,i+m=n->(∀k,k<i->xs k=[])->JL J Q (base 24) Tryz.f24.ntmps [(27,.slice (Bc fd) n n),(28,iV (n:Int)),(29,iV (i:Int))] [] (.code Xl:: .inLoop Xl:: .inBlock 2::k) (Y::cs) (Ak E H [[(fd,.cells (Array.ofFn λi:Fin n=>f i) 22 (0,0))]]):=by
 intro m
 induction m with
 | zero=>
  intro i hi K;refine C 2 V (An (v:=.bool false) V (λρ h=>Yl.to (Yl.lss (h _ _ V) (h _ _ V)) (by rw[qQ (show ¬((i:Int)<(n:Int)) by omega)])) ?_);refine C 4 V (EZ [] V ?_);exact al λk ay=>K k (by omega)
 | succ m am=>
  intro i hi K;have O:i<n:=by omega
  let⟨a,c,ap,ac,aq⟩:=hm i O;refine C 2 V (An (v:=.bool true) V (λρ h=>Yl.to (Yl.lss (h _ _ V) (h _ _ V)) (by rw[rg (show(i:Int)<(n:Int) by omega)])) ?_);refine C 8 V (An (v:=Al fd i) V (λρ h=>Yl.to (EN (xs:=List.replicate n ()) (m:=((i:Nat):Int)) (xv:=()) (sn) (by simp[ix,O]) underlying25 Fz (h _ _ V) (h _ _ V)) (by show Al fd (i*1)=_;rw[Nat.mul_one])) ?_);refine An (v:=.slice a (xs i).length c) V (λρ h=>Yl.load Jq (h _ _ V) (B8 (j:=0) (off:=i) ag V (by simp[O,ap]))) (C 5 V ?_);refine An (v:=.bool (!a.isNone)) V (λρ h=>Ze underlying22 (h _ _ V) (h _ _ V)) (JL.done ?_);by_cases U:xs i=[]
  .have Z:(!a.isNone)=false:=by rw[aq U];rfl
   rw[Z];refine C 4 V ?_;have av:Av (((i:Nat):Int)+1)=some (((i+1:Nat)):Int):=by unfold Av;rw[d7 (by omega)];simp
   refine BE av V V V ?_;refine C 2 V ?_;refine JL.again ?_;refine EF ?_ (am (i+1) (by omega) (λk az=>by
    by_cases e:k=i;subst e;exact U
    .exact K k (by omega)))
   exact⟨V,V,V,trivial⟩
  .have Z:(!a.isNone)=true:=by rw[cV ac U];rfl
   rw[Z];exact C 7 V (ai i a c _ O U K ac V V _)
set_option maxHeartbeats 2000000 in
theorem W3{E:LH}{a7:Aq}{a8 a9:Nat}(ca:Ao (rL rI) E a1 c2 O.1)(cc:Ao Ay E a7 a8 O.2)(ce:Ao Ay E ap a9 p){r:(List Int)×Bool}(U:f77 fu_ O p=some r):
  AW (Hb Tryz.prog) 24 [.agg #[sV a1 O.1 c2,sV a7 O.2 a8],sV ap p a9] E [] (λw E' B'=>∃(bb:Aq) (be:Nat),w=.tuple #[sV bb r.1 be,.bool r.2]/\B'=[]/\Ao rI E' bb be r.1):=by
 refine MA func24 V V λQ ew cs H ci Y=>?_;unfold f77 at U;refine C 2 V (DX ci λco ex cp ct cw=>?_);refine DX cw λcy ey bi al c0=>?_;refine Io (S':=[]) (by simp) c0 λbn=>?_;have bo:=cp.Ad bi;refine C 6 V (Dw 0 al BH V V V ?_);refine JL.ln underlying69 V V V (C 2 V ?_);refine GO (p:=(p.length:Int)=0) V (λc1=>?_) (λc1=>?_);rw[d7 (by omega)] at U;have Z:=(f6 U).symm;subst Z;refine C 5 V (A4 func24 V V ?_);exact Y _ _ _ _ bo V ⟨none,0,V,V,Ao.nil⟩ bn
 rw[d9 (by omega)] at U;split at U
 rotate_left
 .cases U
 rename_i hb;obtain⟨bv,c3⟩:=hb;have Z:=(f6 U).symm;have ag:∀j,j<p.length->JI fu_ O p j=some (Kq fu_ O p j):=λj ay=>by
  have am:=qs.1 c3 j (qc.2 ay);let⟨x,az⟩:=s9.1 am;unfold Kq;rw[az];rfl
 generalize eA:Kq fu_ O p=xs at ag Z;have bw:0<p.length:=by omega
 refine C 3 V (B3 bn (DJ type102) λmu c4=>?_);refine C 3 V (B3 c4 (DJ type108) λwg c5=>?_);refine JL.done (Io (S':=[[(mu,.cells #[.int .i32 0,.int .u32 0] 102 (0,0))],[(wg,.cells #[.int .u64 0,.int .u32 0] 108 (0,0))]]) (by simp[Value.cells]) c5 λc6=>?_);refine C 2 V (Dw 0 al BH V V V ?_);refine JL.ln underlying69 V V V ?_;have c7:Gy (p.length:Int) (Value.slice none 0 0)=some (List.replicate p.length nS):=by unfold Gy;rw[d7 (by omega)];simp
 refine JS.make (pp:=rV) c7 V V V V V underlying25 Fz (Dv type22) (by decide) Mh (by decide) ⟨V,V⟩ c6 λfd eC c8 bx=>?_;have c9:=OL.hZ c8 V;subst c9;obtain⟨K,bz⟩:∃K,K=List.replicate p.length (Value.slice none 0 0):=⟨_,V⟩;have b0:(List.replicate p.length (Value.slice none 0 0)).length=p.length:=by simp
 rw[← bz] at bx b0 ⊢;rw[b0];refine B3 bx (DJ type25) λkf dd=>?_;refine JS.sx 3 dd Fj λdj=>?_;refine Dl 3 dj V λac aq b1 ea=>Io (S':=[[(mu,.cells #[.int .i32 0,.int .u32 0] 102 (0,0))],[(wg,.cells #[.int .u64 0,.int .u32 0] 108 (0,0))],[(fd,.cells K.toArray 22 (0,0))]]) (by simp) ea λai=>?_;have av:=bo.Ad aq;refine C 4 V (Dw 0 (al.Ah aq) BH V V V ?_);refine JL.ln underlying69 V V V (C 3 V ?_);refine IT (EZ [(2,Al co 0),(3,Al cy 0),(6,.pointer (some (⟨mu,0,none⟩:Addr))),(7,.pointer (some (⟨wg,0,none⟩:Addr))),(8,Al kf 0),(19,iV (p.length:Int)),(20,iV ((0:Nat):Int))] V ?_);have b2:=Nd.iff.1 ai;intro T eb;let F:Fam:=⟨wg,mu,fd,108,102,22,p.length,λkk v E=>kk<p.length/\∃a c,v=.slice a (xs kk).length c/\Ao rI E a c (xs kk)/\(xs kk=[]->a=none),λg s=>(Hb Tryz.prog).ok Q g s⟩;have aw:=b2.1;simp only[qC,sY,qk,qX,qS,q7,uw,sM,gv,pe,not_or,rc,not_false_eq_true,uz,tL] at aw;have ec:(Ak ac H [[(mu,.cells #[.int .i32 0,.int .u32 0] 102 (0,0))],[(wg,.cells #[.int .u64 0,.int .u32 0] 108 (0,0))],[(fd,.cells K.toArray 22 (0,0))]]).H fd=some (F.Jj λ_=>nS):=by
  rw[K5 (j:=2) ai rfl];have:(Array.ofFn λ_:Fin p.length=>Value.slice none 0 0)=K.toArray:=by
   rw[bz];apply Array.ext;simp;intro i am b3;simp
  show some (Obj.cells K.toArray 22 (0,0))=some (Obj.cells (Array.ofFn λ_:Fin p.length=>Value.slice none 0 0) 22 (0,0));rw[this]
 refine dS F (f₀:=λ_=>.slice none 0 0) (show 1<=p.length by omega) (show p.length<134217728 by omega) ?_ aw.1.1 (λe=>aw.2 e.symm) (λe=>aw.1.2 e.symm) (K5 (j:=1) ai V) (K5 (j:=0) ai V) ec ?_ (λg s h=>h);rintro kk v eN e0 ed ⟨am,a,c,b3,a0,a2⟩;exact⟨am,a,c,b3,a0.Ah ed,a2⟩
 have ee:=YO ai;show Way Tryz.prog true (Stop Tryz.prog F (.GX 0)) _ (⟨(Ak ac H [[(mu,.cells #[.int .i32 0,.int .u32 0] 102 (0,0))],[(wg,.cells #[.int .u64 0,.int .u32 0] 108 (0,0))],[(fd,.cells K.toArray 22 (0,0))]]).E,KS (Ak ac H [[(mu,.cells #[.int .i32 0,.int .u32 0] 102 (0,0))],[(wg,.cells #[.int .u64 0,.int .u32 0] 108 (0,0))],[(fd,.cells K.toArray 22 (0,0))]]).H wg mu fd,false⟩:St);rw[show(Ak ac H [[(mu,.cells #[.int .i32 0,.int .u32 0] 102 (0,0))],[(wg,.cells #[.int .u64 0,.int .u32 0] 108 (0,0))],[(fd,.cells K.toArray 22 (0,0))]]).E=ac from rfl,ee];have ef:Au ac H []:=trivial;have eg:H fd=none:=(b2.2 (fd,.cells K.toArray 22 (0,0)) (by simp)).2;refine YE (F:=F) (n:=p.length) V bw bv (ce.Ah av) (ca.Ah av) (cc.Ah av) V (al.Ah aq) (ct.Ah (bi.Ad aq)) b1 ag (λj ay E' a c ej ek=>⟨ay,a,c,V,ej,ek⟩) (λel b4 e1=>?_) p.length 0 (by omega) bw ac AR ef T eb;refine C 2 V ?_;refine An (v:=.bool false) V (λρ h=>Yl.to (Yl.lss (h _ _ V) (h _ _ V)) (by rw[qQ (show ¬((p.length:Int)<(p.length:Int)) by omega)])) ?_;refine C 6 V ?_;refine JL.wait Tryz.LQ (F:=F) (show p.length<2147483648 by omega) V V V V V (Q:=Q) (λg s h=>h) λa3 f b5 em e3 eo=>?_;have a4:Au a3 H [[(fd,F.Jj f)]]:=Nd.iff.2 ⟨by simp,λq ag=>by
  simp at ag;subst ag;exact⟨em,eg⟩⟩
 have es:(⟨a3,F.KT (Ak el H []).H f,false⟩:St)=Ak a3 H [[(fd,F.Jj f)]]:=by
  unfold Ak mk;congr 1
 rw[es];have b6:=(av.Ad b4).Ad b5;refine C 4 V (Dw 0 (b1.Ah (b4.Ad b5)) Fy V V V ?_);refine JL.ln underlying25 V V V (C 3 V ?_);refine IT (EZ [(27,.slice (Bc fd) p.length p.length),(28,iV (p.length:Int)),(29,iV ((0:Nat):Int))] V ?_);refine iD (n:=p.length) (f:=f) (xs:=xs) bv a4 (λk Y=>?_) (λi a c L' hi az a5 ep a0 a2 k'=>?_) (λa5=>?_) p.length 0 (by omega) (λk Y=>absurd Y (Nat.not_lt_zero _));let⟨_,a,c,er,e2,eu⟩:=eo k Y;exact⟨a,c,er,e2,eu⟩;rw[Y1 hi az a5] at Z;subst Z;exact JL.ret (v:=.tuple #[.slice a (xs i).length c,.bool true]) V V (BL.list func24 V (vs:=[.slice a (xs i).length c,.bool true]) ⟨a0,a2,trivial⟩) (TM a4 λa6=>Y _ _ _ _ b6 V ⟨a,c,V,V,ep⟩ a6);rw[ae a5] at Z;subst Z;refine C 5 V (A4 func24 V V ?_);exact TM a4 λa6=>Y _ _ _ _ b6 V ⟨none,0,V,V,Ao.nil⟩ a6
end Pal
namespace Pal
open Go Go.Conc Go.Proofs
open Go.Proofs.Tryz
def PM(fu_:Nat)(Z:Bi×Int)(O:AL)(K:Int):Option (Bt Int ((AE×(List Int)×Int)⊕(Unit))):=if K<(O.length:Int) then((ix O K).bind λU=>(f77 fu_ Z.1 U).bind λY=>if Y.2=true then(some (.done (Sum.inl (U,Y.1,0)))) else((Av (K+1)).bind λac=>some (.more ac))) else(some (.done (Sum.inr ())))
def f27(fu_:Nat)(p0:Bi):Option (AE×(List Int)×Int):=(f70 fu_ p0 ([])).bind λK=>if K.2≠0 then(some ([],[],K.2)) else((f71 fu_ K.1 0).bind λO=>(f76 fu_ O).bind λU=>Option.bind (iter (PM fu_ K U) fu_ 0) λY=>Sum.elim (λr=>some r) (λZ=>some ([],[],11)) Y)
variable{a1:Aq}{c2 fu_:Nat}
theorem Sv{E:LH}{ai:Aq}{al:Nat}{p0:Bi}(cc:Ao (rL rI) E a1 c2 p0.1)(ce:Ao Ay E ai al p0.2){r:AE×(List Int)×Int}(a7:f27 fu_ p0=some r):AW (Hb Tryz.prog) 11 [.agg #[sV a1 p0.1 c2,sV ai p0.2 al]] E [] (λw E' B'=>∃(a8:Aq) (a9:Nat) (bb:Aq) (be:Nat),w=.tuple #[sV a8 r.1 a9,sV bb r.2.1 be,iV r.2.2]/\B'=[]/\Ao Ay E' a8 a9 r.1/\Ao rI E' bb be r.2.1):=by
 refine Bs func11 λQ fv cs H ci a0=>?_;unfold f27 at a7;refine C 2 V (DX ci λco fw Y cp ct=>?_);refine C 6 V (Cf cp Fi CK V V ?_);let⟨K,cw,cy⟩:=bs a7;refine B4 (LM (cc.Ah Y) (ce.Ah Y) Ao.nil cw) V V Ll ct ?_;rintro _ fN _ a2 ⟨am,ap,aq,av,rfl,rfl,bi,bn⟩ c0;refine C 3 V (B3 c0 Ih λbo c1=>?_);refine JS.sx 3 c1 Ef λc3=>?_;refine Dl 3 c3 V λgc O bv bw=>C 8 V (A5 cy (λc4 c5=>?_) (λc4 c6=>?_));refine C 7 V ?_;cases c5;exact A4 func11 V V (a0 ((Y.Ad a2).Ad O) V ⟨none,0,none,0,V,V,Ao.nil,Ao.nil⟩ bw);refine C 3 V (Cf bv F0 Ef V V ?_);let⟨ge,c7,c8⟩:=bs c6;refine B4 (SC (bi.Ah O) (bn.Ah O) c7) V V QH bw ?_;rintro _ gg gh Z ⟨aw,ay,_,rfl,rfl,c9⟩ dd;let⟨ac,dj,ea⟩:=bs c8;refine C 5 V (Cc 4 (gA c9 dj) V V (A8 func26 V) dd V ?_);rintro _ eb ec ag ⟨rfl,ed,a3⟩ ee;refine EF (L':=[(23,.tuple #[]),(0,.agg #[.slice a1 p0.1.length c2,.slice ai p0.2.length al]),(1,Al co 0),(2,.slice none 0 0),(3,.slice none 0 0),(4,iV 0),(13,.agg #[.slice a1 p0.1.length c2,.slice ai p0.2.length al]),(14,.tuple #[.agg #[.slice am K.1.1.length ap,.slice aq K.1.2.length av],iV K.2]),(12,.tuple #[.agg #[.slice am K.1.1.length ap,.slice aq K.1.2.length av],iV K.2]),(15,.agg #[.slice am K.1.1.length ap,.slice aq K.1.2.length av]),(16,iV K.2),(5,Al bo 0),(6,iV K.2),(17,iV K.2),(18,.bool (decide (K.2≠0))),(20,.agg #[.slice am K.1.1.length ap,.slice aq K.1.2.length av]),(21,.slice aw ac.length ay),(7,.slice aw ac.length ay),(22,.slice aw ac.length ay)]) ⟨V,V,V,V,V,V,V,V,V,V,V,V,V,V,V,V,by rw[a3];rfl,by rw[a3];rfl,by rw[a3];rfl,trivial⟩ ?_;refine C 5 V (JL.ln underlying64 V V V ?_);let⟨bx,ef,bz⟩:=bs ea;refine C 2 V (BF (λL s=>∃(b0:Unit) (b1:LH),bx=Sum.inr b0/\Jm eb H b1 [] [] L s) ?_ ?_);rintro _ _ ⟨b0,b1,rfl,rfl,rfl,eg,ej⟩;have ek:=elim_inr bz;refine C 6 V ?_;cases ek;exact A4 func11 V V (a0 (((((Y.Ad a2).Ad O).Ad Z).Ad ag).Ad eg) V ⟨none,0,none,0,V,V,Ao.nil,Ao.nil⟩ ej);intro el;refine JL.block (EH ef (λa4=>[ec]) (λa4=>[(5,Al bo 0),(24,sV aw ac ay),(25,iV (ac.length:Int)),(26,iV a4)]) AR ee ?_);rintro a4 em U a5 b2 ⟨gt,az⟩ eo;have b3:=az;unfold PM at b3;refine C 5 V (A5 b3 (λep er=>?_) (λep eu=>?_));let⟨ew,ex,ey⟩:=bs er;refine C 5 V (Kf 0 (ed.Ah U) ex V V V V V V underlying64 A0 ?_);rintro gE gO f93 _ eA ⟨b4,b5,rfl,b6⟩ eC g3 g4 g5 g6;refine An (v:=sV b4 ew b5) V (λρ h=>Yl.load BH (h _ _ V) (B8 (j:=0) a5 eA (eC 0 _ V))) (C 4 V ?_);refine Cf (bv.Ah ((Z.Ad ag).Ad U)) F0 Ef V V ?_;let⟨g7,eN,e0⟩:=bs ey;refine C 1 V (B4 (W3 (bi.Ah (((O.Ad Z).Ad ag).Ad U)) (bn.Ah (((O.Ad Z).Ad ag).Ad U)) b6 eN) V V (A8 func24 V) a5 ?_);rintro _ g8 _ a6 ⟨e1,e3,rfl,rfl,e4⟩ ca;refine C 10 V (CH e0 (λe5 e6=>?_) (λe5 e7=>?_));refine C 8 V (JS.drop 0 ca V λe8=>?_);cases e6;obtain rfl:=b2 _ az;have ff:=elim_inl bz;cases ff;exact A4 func11 V V (a0 ((((((Y.Ad a2).Ad O).Ad Z).Ad ag).Ad U).Ad a6) V ⟨b4,b5,e1,e3,V,V,(b6.Ah a6),e4⟩ e8);let⟨fk,fl,fm⟩:=bs e7;refine C 3 V (BE fl V V V ?_);refine C 2 V ?_;cases fm;exact eo fk (U.Ad a6) ca V az;refine JL.exit V (JS.drop 0 a5 V λfo=>?_);cases eu;have fs:bx=(Sum.inr ()):=(b2 _ az).symm;exact AH (el _ _ ⟨(),em,fs,V,V,U,fo⟩) V
variable {J:Judge Tryz.prog}
variable {E:LH}
def Wp(fu_:Nat)(p0:List Int)(K:AE×Int):Option (Bt (AE×Int) (AE)):=(Av (K.2+2)).bind λO=>if O<(p0.length:Int) then((ix p0 K.2).bind λU=>(Av (K.2+1)).bind λY=>(ix p0 Y).bind λZ=>(Av (K.2+2)).bind λac=>(ix p0 ac).bind λag=>(Ds K.1 ([(U,Z,ag)]:AE)).bind λai=>(Av (K.2+3)).bind λal=>some (.more (ai,al))) else(some (.done K.1))
def f67(fu_:Nat)(p0:List Int):Option (AE):=Option.bind (iter (Wp fu_ p0) fu_ ([],0)) λK=>some K
theorem Qi{p0:List Int}(ap:Ao rI E a1 c2 p0){r:AE}(a0:f67 fu_ p0=some r):AW J 39 [sV a1 p0 c2] E [] (λw E' B'=>∃(a2:Aq) (a3:Nat) (g0:Seg),w= sV a2 r a3/\B'=g0/\OL 47 Ay E' a2 a3 g0 r):=by
 refine Bs func39 λQ em cs H bb be=>?_;unfold f67 at a0;let⟨a4,bi,bn⟩:=bs a0;refine C 13 V (BF (λL s=>∃(aq:LH) (Y:Aq) (Z:Nat) (ac:Seg),Jn E H aq [ac] [(3,sV Y a4 Z)] L s (OL 47 Ay aq Y Z ac a4)) ?_ ?_);rintro _ _ ⟨aq,Y,Z,ac,rfl,rfl,bo,bv,bw⟩;refine C 5 V ?_;cases bn;exact A4 func39 V V (be bo V ⟨Y,Z,ac,V,(by first | rfl | simp | (simp[Value.cells])),bw⟩ bv);intro bx;refine JL.block (Cr bi (λL s ag=>∃(ai:LH) (al:Aq) (am:Nat) (O:Seg),Jn E H ai [O] [(0,sV a1 p0 c2),(3,sV al ag.1 am),(4,iV ag.2)] L s (OL 47 Ay ai al am O ag.1)) ⟨E,none,0,[],V,V,AR,bb,OL.nil⟩ ?_);rintro _ _ ag ⟨ai,al,am,O,rfl,rfl,U,a5,a6⟩ bz ⟨eo,av⟩ b0;have a7:=av;unfold Wp at a7;let⟨ep,b1,b2⟩:=bs a7;refine C 4 V (BE b1 V V V ?_);refine C 1 V (JL.ln underlying22 V V V ?_);refine C 2 V (A5 b2 (λb3 b4=>?_) (λb3 b5=>?_));refine C 3 V (FH 17 λK=>?_);refine Bb K V [0,1,2] V ?_;let⟨aw,b6,ca⟩:=bs b4;refine FQ 3 (ap.Ah U) b6 K underlying22 AO ?_;rintro er eu _ rfl cc;refine EI 4 K 0 cc Br V V V V (Bb K V [5,6] V ?_);let⟨ew,ce,ci⟩:=bs ca;refine AS 7 K V V (λρ h s' a8=>DW (h _ _ V) (h _ _ V) ce) ?_;let⟨ay,co,cp⟩:=bs ci;refine FQ 8 (ap.Ah U) co K underlying22 AO ?_;rintro ex ey _ rfl ct;refine EI 9 K 0 ct Br V V V V (Bb K V [10,11] V ?_);let⟨eA,cw,cy⟩:=bs cp;refine AS 12 K V V (λρ h s' a8=>DW (h _ _ V) (h _ _ V) cw) ?_;let⟨az,c0,c1⟩:=bs cy;refine FQ 13 (ap.Ah U) c0 K underlying22 AO ?_;rintro eC eN _ rfl c3;refine EI 14 K 0 c3 Br V V V V (AS (v:=.agg #[iV aw,iV ay,iV az]) 15 K V V (λρ h s' a8=>C5 [(0,1),(1,1),(2,1)] h BT underlying47 ⟨V,A2 type3,V,A2 type3,V,A2 type3,trivial⟩ V V) ?_);refine JG.one (i:=16) V (by decide+kernel) (Take.FK (pp:=Ay) [.agg #[iV aw,iV ay,iV az]] ([(aw,ay,az)]:AE) a5 V V V underlying26 Bx BT (by decide) V V V ⟨⟨_,_,V,V,⟨_,_,V,V,V⟩⟩,trivial⟩ λe0 c4 c5 c6=>?_);refine Dc [17,18] (BS (S':=[O,c4]) V c6 λc7=>?_);refine Cp 1 c5 c7 V λc8 a9 c9 dd=>?_;let⟨dj,ea,eb⟩:=bs c1;refine Jy (pp:=Ay) 0 ea V V V V V V V underlying26 underlying26 Bx (Dv type47) BT V (by decide) (by decide) (a6.Ah a9) c9 dd V λec ed ee ef eg=>?_;let⟨ej,ek,el⟩:=bs eb;refine C 5 V (BE ek V V V ?_);refine C 2 V ?_;cases el;exact AH (b0 _ _ (dj,ej) ⟨c8,ec,ed,ee,V,V,(U.Ad a9),eg,ef⟩ av) V;refine JL.exit V ?_;cases b5;obtain rfl:=bz _ av;exact AH (bx _ _ ⟨ai,al,am,O,V,V,U,a5,a6⟩) V
def f110(fu_:Nat)(p0:List Int)(p1:List Int):Option (Bi):=(f67 fu_ ([0,1,5,1,2,5,2,3,2,0,3,1,3,1,1]:List Int)).bind λK=>(f67 fu_ p1).bind λO=>(Ds K O).bind λU=>some (([p0,[],([3]:List Int),([1]:List Int)]:Bv),U)
variable{kf:Nat}{p1:List Int}{r:Bi}
theorem Sd{av:Aq}{p0:List Int}(a7:Ao rI E a1 c2 p0)(a8:Ao rI E av kf p1)(ay:f110 fu_ p0 p1=some r):AW J 63 [sV a1 p0 c2,sV av p1 kf] E [] (λw E' B'=>∃(az:Aq) (a0:Nat) (a2:Aq) (a3:Nat),w=.agg #[sV az r.1 a0,sV a2 r.2 a3]/\B'=[]/\Ao (rL rI) E' az a0 r.1/\Ao Ay E' a2 a3 r.2):=by
 refine Bs func63 λQ em cs H a9 bb=>?_;unfold f110 at ay;refine C 2 V (B3 a9 IL λY be=>?_);refine C 4 V (Gx (pp:=rI) [iV 3] [3] V V V underlying22 AO CJ (by decide) V V V ⟨V,trivial⟩ be λbi bn bo bv=>?_);refine Gx (pp:=rI) [iV 1] [1] V V V underlying22 AO CJ (by decide) V V V ⟨V,trivial⟩ bv λbw bx bz b0=>BS (S':=[[],[(Y,.cells #[nS,nS] 28 (0,0))],bn,bx]) V b0 λb1=>Cp 2 bo b1 V λeo ac b2 b3=>Cp 3 (bz.Ah ac) b3 V λep ag b4 b5=>Gx (pp:=(rL rI)) [sV a1 p0 c2,nS,.slice (Bc bi) (([3]:List Int)).length 1,.slice (Bc bw) (([1]:List Int)).length 1] [p0,[],([3]:List Int),([1]:List Int)] V V V underlying25 Fz Mh (by decide) V V V ⟨⟨_,_,V,(a7.Ah (ac.Ad ag))⟩,⟨_,_,V,Ao.nil⟩,⟨_,_,V,(b2.Ah ag)⟩,⟨_,_,V,b4⟩,trivial⟩ b5 λK ai b6 ca=>BS (S':=[[],[(Y,.cells #[nS,nS] 28 (0,0))],[],[],ai]) V ca λcc=>Gx (pp:=rI) [iV 0,iV 1,iV 5,iV 1,iV 2,iV 5,iV 2,iV 3,iV 2,iV 0,iV 3,iV 1,iV 3,iV 1,iV 1] [0,1,5,1,2,5,2,3,2,0,3,1,3,1,1] V V V underlying22 AO CJ (by decide) V V V ⟨V,V,V,V,V,V,V,V,V,V,V,V,V,V,V,trivial⟩ cc λer eu ce ci=>Cp 5 ce ci V λew al co cp=>?_;let⟨ex,ct,cw⟩:=bs ay;refine B4 (Qi co ct) V V Ok cp ?_;rintro _ ey cy am ⟨eA,eC,_,rfl,rfl,c0⟩ c1;refine BS (S':=[[],[(Y,.cells #[nS,nS] 28 (0,0))],[],[],ai,[],cy]) V c1 λc3=>?_;let⟨eN,c4,c5⟩:=bs cw;refine C 1 V (B4 (Qi (a8.Ah (((ac.Ad ag).Ad al).Ad am)) c4) V V Ok c3 ?_);rintro _ e0 e1 ap ⟨e3,e4,_,rfl,rfl,c6⟩ c7;refine Cp 7 c6 c7 V λe5 aq c8 c9=>?_;let⟨Z,dd,dj⟩:=bs c5;refine Jy (pp:=Ay) 6 dd V V V V V V V underlying26 underlying26 Bx (Dv type47) BT V (by decide) (by decide) (c0.Ah (ap.Ad aq)) c8 c9 V λO U ea eb ec=>BS (S':=[[],[(Y,.cells #[nS,nS] 28 (0,0))],[],[],ai,[],ea,[]]) V ec λed=>An (v:=.agg #[.slice (Bc K) (([p0,[],([3]:List Int),([1]:List Int)]:Bv)).length 4,sV O Z U]) V (λρ h=>C5 [(0,1),(1,1)] h IL underlying28 ⟨V,A2 type25,V,A2 type26,trivial⟩ V V) (JS.sx 1 ed CK λee=>?_);refine JL.done (Cp 4 (b6.Ah (((al.Ad am).Ad ap).Ad aq)) ee V λe6 a4 ef eg=>?_);refine Cp 6 (eb.Ah a4) eg V λe7 a5 ej ek=>BS (S':=[[],[(Y,.cells #[.slice (Bc K) (([p0,[],([3]:List Int),([1]:List Int)]:Bv)).length 4,sV O Z U] 28 (0,0))],[],[],[],[],[],[]]) V ek λa6=>?_;cases dj;refine JL.ret (v:=.agg #[.slice (Bc K) (([p0,[],([3]:List Int),([1]:List Int)]:Bv)).length 4,sV O Z U]) V V (BL.list func63 V (vs:=[.agg #[.slice (Bc K) (([p0,[],([3]:List Int),([1]:List Int)]:Bv)).length 4,sV O Z U]]) ⟨⟨_,V,Ld.many (vs:=[.slice (Bc K) (([p0,[],([3]:List Int),([1]:List Int)]:Bv)).length 4,sV O Z U]) Fi CK (Hq (off:=0) 1 a6 V V)⟩,trivial⟩) (EO 1 a6 V λel=>?_);exact bb (((((((ac.Ad ag).Ad al).Ad am).Ad ap).Ad aq).Ad a4).Ad a5) V ⟨(Bc K),4,O,U,V,V,(ef.Ah a5),ej⟩ el
def f63(fu_:Nat):Option (Bi):=(f110 fu_ ([1,2,3]:List Int) ([])).bind λK=>some K
theorem Qe(ac:f63 fu_=some r):AW J 29 [] E [] (λw E' B'=>∃(ag:Aq) (ai:Nat) (al:Aq) (am:Nat),w=.agg #[sV ag r.1 ai,sV al r.2 am]/\B'=[]/\Ao (rL rI) E' ag ai r.1/\Ao Ay E' al am r.2):=by
 refine Bs func29 λQ bb cs H aq av=>?_;unfold f63 at ac;refine C 2 V (B3 aq IL λr1 aw=>?_);refine C 3 V (Gx (pp:=rI) [iV 1,iV 2,iV 3] [1,2,3] V V V underlying22 AO CJ (by decide) V V V ⟨V,V,V,trivial⟩ aw λbe bi ay az=>?_);refine Cp 2 ay az V λbn a0 a1 a2=>?_;let⟨K,a3,a4⟩:=bs ac;refine B4 (Sd a1 Ao.nil a3) V V QE a2 ?_;rintro _ bo _ a5 ⟨O,U,Y,Z,rfl,rfl,a6,a7⟩ a8;refine JS.sx 1 a8 CK λap=>?_;refine JL.done ?_;obtain rfl:=(oi a4);refine JL.ret (v:=.agg #[sV O K.1 U,sV Y K.2 Z]) V V (BL.list func29 V (vs:=[.agg #[sV O K.1 U,sV Y K.2 Z]]) ⟨⟨_,V,Ld.many (vs:=[sV O K.1 U,sV Y K.2 Z]) Fi CK (Hq (off:=0) 1 ap V V)⟩,trivial⟩) (EO 1 ap V λa9=>?_);exact av (a0.Ad a5) V ⟨O,U,Y,Z,V,V,a6,a7⟩ a9
def f64(fu_:Nat):Option (Bi):=(f110 fu_ ([]) ([])).bind λK=>some K
theorem j3(ac:f64 fu_=some r):AW J 34 [] E [] (λw E' B'=>∃(ag:Aq) (ai:Nat) (al:Aq) (am:Nat),w=.agg #[sV ag r.1 ai,sV al r.2 am]/\B'=[]/\Ao (rL rI) E' ag ai r.1/\Ao Ay E' al am r.2):=by
 refine Bs func34 λQ a5 cs H aq av=>?_;unfold f64 at ac;refine C 2 V (B3 aq IL λr1 aw=>?_);let⟨K,ay,az⟩:=bs ac;refine C 3 V (B4 (Sd Ao.nil Ao.nil ay) V V QE aw ?_);rintro _ a6 _ a0 ⟨O,U,Y,Z,rfl,rfl,a1,a2⟩ a3;refine JS.sx 1 a3 CK λap=>?_;refine JL.done ?_;obtain rfl:=(oi az);refine JL.ret (v:=.agg #[sV O K.1 U,sV Y K.2 Z]) V V (BL.list func34 V (vs:=[.agg #[sV O K.1 U,sV Y K.2 Z]]) ⟨⟨_,V,Ld.many (vs:=[sV O K.1 U,sV Y K.2 Z]) Fi CK (Hq (off:=0) 1 ap V V)⟩,trivial⟩) (EO 1 ap V λa4=>?_);exact av a0 V ⟨O,U,Y,Z,V,V,a1,a2⟩ a4
def f65(fu_:Nat):Option (Bi):=(f110 fu_ ([5,1]:List Int) ([])).bind λK=>some K
theorem j8(ac:f65 fu_=some r):AW J 35 [] E [] (λw E' B'=>∃(ag:Aq) (ai:Nat) (al:Aq) (am:Nat),w=.agg #[sV ag r.1 ai,sV al r.2 am]/\B'=[]/\Ao (rL rI) E' ag ai r.1/\Ao Ay E' al am r.2):=by
 refine Bs func35 λQ bb cs H aq av=>?_;unfold f65 at ac;refine C 2 V (B3 aq IL λr1 aw=>?_);refine C 3 V (Gx (pp:=rI) [iV 5,iV 1] [5,1] V V V underlying22 AO CJ (by decide) V V V ⟨V,V,trivial⟩ aw λbe bi ay az=>?_);refine Cp 2 ay az V λbn a0 a1 a2=>?_;let⟨K,a3,a4⟩:=bs ac;refine B4 (Sd a1 Ao.nil a3) V V QE a2 ?_;rintro _ bo _ a5 ⟨O,U,Y,Z,rfl,rfl,a6,a7⟩ a8;refine JS.sx 1 a8 CK λap=>?_;refine JL.done ?_;obtain rfl:=(oi a4);refine JL.ret (v:=.agg #[sV O K.1 U,sV Y K.2 Z]) V V (BL.list func35 V (vs:=[.agg #[sV O K.1 U,sV Y K.2 Z]]) ⟨⟨_,V,Ld.many (vs:=[sV O K.1 U,sV Y K.2 Z]) Fi CK (Hq (off:=0) 1 ap V V)⟩,trivial⟩) (EO 1 ap V λa9=>?_);exact av (a0.Ad a5) V ⟨O,U,Y,Z,V,V,a6,a7⟩ a9
def f66(fu_:Nat):Option (AE):=(f67 fu_ ([0,1,1,0,2,3,0,3,2]:List Int)).bind λK=>some K
theorem j6{r:AE}(K:f66 fu_=some r):AW J 38 [] E [] (λw E' B'=>∃(O:Aq) (U:Nat),w= sV O r U/\B'=[]/\Ao Ay E' O U r):=by
 refine Bs func38 λQ a4 cs H Y Z=>?_;unfold f66 at K;refine C 6 V (Gx (pp:=rI) [iV 0,iV 1,iV 1,iV 0,iV 2,iV 3,iV 0,iV 3,iV 2] [0,1,1,0,2,3,0,3,2] V V V underlying22 AO CJ (by decide) V V V ⟨V,V,V,V,V,V,V,V,V,trivial⟩ Y λr1 g2 ac ag=>?_);refine Cp 1 ac ag V λa5 ai al am=>?_;let⟨a6,ap,aq⟩:=bs K;refine B4 (Qi al ap) V V Ok am ?_;rintro _ a7 a8 av ⟨aw,ay,_,rfl,rfl,az⟩ a0;refine C 2 V (Cp 2 az a0 V λa9 a1 a2 a3=>?_);cases aq;exact A4 func38 V V (Z ((ai.Ad av).Ad a1) V ⟨aw,ay,V,V,a2⟩ a3)
def V3(fu_:Nat)(p0:List Int)(p1:List Int)(K:Int):Option (Bt Int ((Bool)⊕(Unit))):=Option.bind (if K<(p0.length:Int) then(some (decide (K<(p1.length:Int)))) else(some false)) λO=>if O=true then((ix p0 K).bind λU=>(ix p1 K).bind λY=>if U≠Y then(some (.done (Sum.inl false))) else((Av (K+1)).bind λZ=>some (.more Z))) else(some (.done (Sum.inr ())))
def f29(fu_:Nat)(p0:List Int)(p1:List Int):Option Bool:=Option.bind (iter (V3 fu_ p0 p1) fu_ 0) λK=>Sum.elim (λr=>some r) (λO=>some (decide ((p0.length:Int)=(p1.length:Int)))) K
variable{O:Aq}{U:Nat}
theorem Qa{p0:List Int}(a5:Ao rI E a1 c2 p0)(a6:Ao rI E O U p1){r:Bool}(ap:f29 fu_ p0 p1=some r):AW J 36 [sV a1 p0 c2,sV O p1 U] E [] (λw E' B'=>w=.bool r/\B'=[]):=by
 refine Bs func36 λQ c3 cs H a7 aq=>?_;unfold f29 at ap;let⟨av,a8,aw⟩:=bs ap;refine C 9 V (BF (λL s=>∃(ay:Unit) (az:LH),av=Sum.inr ay/\Jm E H az [] [(0,sV a1 p0 c2),(1,sV O p1 U)] L s) ?_ ?_);rintro _ _ ⟨ay,az,rfl,rfl,rfl,a9,bb⟩;have be:=elim_inr aw;refine C 3 V (JL.ln underlying22 V V V ?_);refine C 1 V (JL.ln underlying22 V V V ?_);refine C 3 V ?_;cases be;exact A4 func36 V V (aq a9 V ⟨V,V⟩ bb);intro bi;refine JL.block (EH a8 (λac=>[]) (λac=>[(0,sV a1 p0 c2),(1,sV O p1 U),(5,iV ac)]) AR a7 ?_);rintro ac ai Y a0 a2 ⟨c4,ag⟩ bn;have a3:=ag;unfold V3 at a3;refine C 5 V (JL.ln underlying22 V V V ?_);let⟨bo,bv,bw⟩:=bs a3;refine C 2 V (Ju [] (λL s=>∃(al:LH),Jm ai H al [] [(0,sV a1 p0 c2),(1,sV O p1 U),(5,iV ac),(15,.bool bo)] L s) ?_ ?_);rintro _ _ ⟨al,rfl,rfl,Z,am⟩;refine JL.done (CH bw (λbx bz=>?_) (λbx b0=>?_));refine C 4 V (FH 8 λK=>?_);refine Bb K V [0,1] V ?_;let⟨c5,b1,b2⟩:=bs bz;refine FQ 2 (a5.Ah (Y.Ad Z)) b1 K underlying22 AO ?_;rintro c6 c7 _ rfl b3;refine EI 3 K 0 b3 Br V V V V (Bb K V [4,5] V ?_);let⟨c8,b4,b5⟩:=bs b2;refine FQ 6 (a6.Ah (Y.Ad Z)) b4 K underlying22 AO ?_;rintro c9 dd _ rfl b6;refine EI 7 K 0 b6 Br V V V V (Dc [8] ?_);refine C 2 V (A5 b5 (λca cc=>?_) (λca ce=>?_));refine C 4 V ?_;cases cc;obtain rfl:=a2 _ ag;have ci:=elim_inl aw;cases ci;exact A4 func36 V V (aq (Y.Ad Z) V ⟨V,V⟩ am);let⟨co,cp,ct⟩:=bs ce;refine C 4 V (BE cp V V V ?_);refine C 2 V ?_;cases ct;exact bn co (Y.Ad Z) am V ag;refine JL.exit V ?_;cases b0;have cw:av=(Sum.inr ()):=(a2 _ ag).symm;exact AH (bi _ _ ⟨(),al,cw,V,V,(Y.Ad Z),am⟩) V;intro a4;refine Iz 10 bv (λcy c0=>?_) (λcy c1=>?_);refine C 2 V (JL.ln underlying22 V V V ?_);refine C 2 V ?_;cases c0;exact AH (a4 _ _ ⟨ai,V,V,AR,a0⟩) V;refine C 5 V ?_;cases c1;exact AH (a4 _ _ ⟨ai,V,V,AR,a0⟩) V
def WH(fu_:Nat)(p0:AE)(p1:AE)(K:Int):Option (Bt Int ((Bool)⊕(Unit))):=Option.bind (if K<(p0.length:Int) then(some (decide (K<(p1.length:Int)))) else(some false)) λO=>if O=true then((ix p0 K).bind λU=>(ix p1 K).bind λY=>if U≠Y then(some (.done (Sum.inl false))) else((Av (K+1)).bind λZ=>some (.more Z))) else(some (.done (Sum.inr ())))
def f26(fu_:Nat)(p0:AE)(p1:AE):Option Bool:=Option.bind (iter (WH fu_ p0 p1) fu_ 0) λK=>Sum.elim (λr=>some r) (λO=>some (decide ((p0.length:Int)=(p1.length:Int)))) K
theorem Xj{p0 p1:AE}(a7:Ao Ay E a1 c2 p0)(a8:Ao Ay E O U p1){r:Bool}(av:f26 fu_ p0 p1=some r):AW J 37 [sV a1 p0 c2,sV O p1 U] E [] (λw E' B'=>w=.bool r/\B'=[]):=by
 refine Bs func37 λQ c5 cs H a9 aw=>?_;unfold f26 at av;let⟨ay,bb,az⟩:=bs av;refine C 9 V (BF (λL s=>∃(a0:Unit) (a2:LH),ay=Sum.inr a0/\Jm E H a2 [] [(0,sV a1 p0 c2),(1,sV O p1 U)] L s) ?_ ?_);rintro _ _ ⟨a0,a2,rfl,rfl,rfl,be,bi⟩;have bn:=elim_inr az;refine C 3 V (JL.ln underlying26 V V V ?_);refine C 1 V (JL.ln underlying26 V V V ?_);refine C 3 V ?_;cases bn;exact A4 func37 V V (aw be V ⟨V,V⟩ bi);intro bo;refine JL.block (EH bb (λal=>[]) (λal=>[(0,sV a1 p0 c2),(1,sV O p1 U),(5,iV al)]) AR a9 ?_);rintro al ap Y a3 a4 ⟨c6,am⟩ bv;have a5:=am;unfold WH at a5;refine C 5 V (JL.ln underlying26 V V V ?_);let⟨bw,bx,bz⟩:=bs a5;refine C 2 V (Ju [] (λL s=>∃(Z:LH),Jm ap H Z [] [(0,sV a1 p0 c2),(1,sV O p1 U),(5,iV al),(15,.bool bw)] L s) ?_ ?_);rintro _ _ ⟨Z,rfl,rfl,ac,aq⟩;refine JL.done (CH bz (λb0 b1=>?_) (λb0 b2=>?_));refine C 4 V (FH 8 λK=>?_);refine Bb K V [0,1] V ?_;let⟨ag,b3,b4⟩:=bs b1;refine FQ 2 (a7.Ah (Y.Ad ac)) b3 K underlying26 Bx ?_;rintro c7 c8 _ ⟨_,_,rfl,rfl,⟨_,_,rfl,rfl,rfl⟩⟩ b5;refine KU 3 K b5 Eh Bx V V V (Bb K V [4,5] V ?_);let⟨ai,b6,ca⟩:=bs b4;refine FQ 6 (a8.Ah (Y.Ad ac)) b6 K underlying26 Bx ?_;rintro c9 dd _ ⟨_,_,rfl,rfl,⟨_,_,rfl,rfl,rfl⟩⟩ cc;refine KU 7 K cc Eh Bx V V V (Dc [8] ?_);refine An (v:=.bool (decide (ag≠ai))) V (λρ h=>RO (E:=Z) (E':=Z) (ws:=[iV ag.1,iV ag.2.1,iV ag.2.2]) (ws':=[iV ai.1,iV ai.2.1,iV ai.2.2]) (a:=ag) (b:=ai) jX (by decide) (by decide+kernel) ⟨_,_,V,V,⟨_,_,V,V,V⟩⟩ ⟨_,_,V,V,⟨_,_,V,V,V⟩⟩ (h _ _ V) (h _ _ V)) (JL.done ?_);refine A5 ca (λce ci=>?_) (λce co=>?_);refine C 4 V ?_;cases ci;obtain rfl:=a4 _ am;have cp:=elim_inl az;cases cp;exact A4 func37 V V (aw (Y.Ad ac) V ⟨V,V⟩ aq);let⟨ct,cw,cy⟩:=bs co;refine C 4 V (BE cw V V V ?_);refine C 2 V ?_;cases cy;exact bv ct (Y.Ad ac) aq V am;refine JL.exit V ?_;cases b2;have c0:ay=(Sum.inr ()):=(a4 _ am).symm;exact AH (bo _ _ ⟨(),Z,c0,V,V,(Y.Ad ac),aq⟩) V;intro a6;refine Iz 10 bx (λc1 c3=>?_) (λc1 c4=>?_);refine C 2 V (JL.ln underlying26 V V V ?_);refine C 2 V ?_;cases c3;exact AH (a6 _ _ ⟨ap,V,V,AR,a3⟩) V;refine C 5 V ?_;cases c4;exact AH (a6 _ _ ⟨ap,V,V,AR,a3⟩) V
def f18(fu_:Nat):Option Bool:=(f63 fu_).bind λx1=>(f43 fu_ x1).bind λO=>(f63 fu_).bind λag=>(f33 fu_ ag).bind λU=>(f63 fu_).bind λai=>(f22 fu_ ai).bind λY=>(f63 fu_).bind λal=>(f24 fu_ al).bind λZ=>(f64 fu_).bind λam=>(f39 fu_ am).bind λac=>(f65 fu_).bind λap=>(f27 fu_ ap).bind λK=>Option.bind (if O.2=0 then(some (decide (U.2=0))) else(some false)) λaq=>Option.bind (if aq=true then(some (decide (Y.2=0))) else(some false)) λav=>Option.bind (if av=true then(some (decide (Z.2=0))) else(some false)) λaw=>Option.bind (if aw=true then(some (decide (ac.2=0))) else(some false)) λay=>Option.bind (if ay=true then(some (decide (K.2.2=0))) else(some false)) λaz=>Option.bind (if az=true then(some (decide (Z.1=16))) else(some false)) λa0=>Option.bind (if a0=true then((f29 fu_ O.1 ([(-6),1,3,2]:List Int)).bind λa1=>some a1) else(some false)) λa2=>Option.bind (if a2=true then((f29 fu_ U.1 ([1,2,3]:List Int)).bind λa3=>some a3) else(some false)) λa4=>Option.bind (if a4=true then((f66 fu_).bind λa5=>(f26 fu_ Y.1 a5).bind λa6=>some a6) else(some false)) λa7=>Option.bind (if a7=true then((f29 fu_ ac.1 ([0]:List Int)).bind λa8=>some a8) else(some false)) λa9=>Option.bind (if a9=true then((f67 fu_ ([0,2,6,2,3,3,3,1,1]:List Int)).bind λbb=>(f26 fu_ K.1 bb).bind λbe=>some be) else(some false)) λbi=>Option.bind (if bi=true then((f29 fu_ K.2.1 ([0,1,2]:List Int)).bind λbn=>some bn) else(some false)) λbo=>some bo
theorem jx{E:LH}{r:Bool}(b1:f18 fu_=some r):AW (Hb Tryz.prog) 12 [] E [] (λw E' B'=>w=.bool r/\B'=[]):=by
 refine Bs func12 λQ lY cs H el em=>?_;unfold f18 at b1;let⟨x1,eo,ep⟩:=bs b1;refine C 6 V (B4 (Qe eo) V V Oi el ?_);rintro _ lZ _ er ⟨l3,l4,l5,l6,rfl,rfl,eu,ew⟩ ex;let⟨a5,ey,eA⟩:=bs ep;refine B4 (jG eu ew ey) V V (A8 func28 V) ex ?_;rintro _ l7 _ eC ⟨a6,a7,rfl,rfl,eN⟩ e0;let⟨l8,e1,e3⟩:=bs eA;refine C 8 V (B4 (Qe e1) V V Oi e0 ?_);rintro _ l9 _ b2 ⟨ma,mb,mc,md,rfl,rfl,e4,e5⟩ e6;refine BS (S':=[[],[],[],[]]) V e6 λe7=>?_;let⟨aq,e8,ff⟩:=bs e3;refine B4 (j2 e4 e5 e8) V V (A8 func30 V) e7 ?_;rintro _ me _ b3 ⟨av,aw,rfl,rfl,fk⟩ fl;let⟨mf,fm,fo⟩:=bs ff;refine C 8 V (B4 (Qe fm) V V Oi fl ?_);rintro _ mg _ bx ⟨mh,mi,mj,mm,rfl,rfl,fs,fv⟩ fw;let⟨ag,fN,gc⟩:=bs fo;refine B4 (j7 fs fv fN) V V (A8 func31 V) fw ?_;rintro _ mo _ bz ⟨am,ap,rfl,rfl,ge⟩ gg;refine BS (S':=[[],[],[],[],[],[],[]]) V gg λgh=>?_;let⟨mp,gt,gE⟩:=bs gc;refine C 8 V (B4 (Qe gt) V V Oi gh ?_);rintro _ mq _ bi ⟨mr,ms,mv,mw,rfl,rfl,gO,g3⟩ g4;let⟨ay,g5,g6⟩:=bs gE;refine CW (jz gO g3 g5) V V (A8 func32 V) g4 λmy bn g7=>?_;let⟨mz,g8,ha⟩:=bs g6;refine C 8 V (B4 (j3 g8) V V (A8 func34 V) g7 ?_);rintro _ mB _ bo ⟨mC,mD,mE,mF,rfl,rfl,hb,hc⟩ he;refine BS (S':=[[],[],[],[],[],[],[],[],[],[]]) V he λhf=>?_;let⟨O,hg,hj⟩:=bs ha;refine B4 (jq hb hc hg) V V (A8 func33 V) hf ?_;rintro _ mG _ bv ⟨ai,al,rfl,rfl,hk⟩ hl;let⟨mH,hm,hn⟩:=bs hj;refine C 8 V (B4 (j8 hm) V V (A8 func35 V) hl ?_);rintro _ mI _ a9 ⟨mJ,mK,mL,mM,rfl,rfl,ho,hp⟩ hq;let⟨K,hr,hs⟩:=bs hn;refine B4 (Sv ho hp hr) V V QF hq ?_;rintro _ mO _ bb ⟨Z,ac,U,Y,rfl,rfl,ht,hu⟩ hv;refine BS (S':=[[],[],[],[],[],[],[],[],[],[],[],[],[]]) V hv λb4=>?_;let⟨hw,hx,hy⟩:=bs hs;refine C 13 V (FR 6 52 [] [(1,sV a6 a5.1 a7),(3,sV av aq.1 aw),(5,sV am ag.1 ap),(6,iV ag.2),(7,iV ay.1),(8,iV ay.2),(9,sV ai O.1 al),(10,iV O.2),(11,sV Z K.1 ac),(12,sV U K.2.1 Y),(13,iV K.2.2),(50,.bool hw)] (λmP az b5=>?_) (λb6=>?_));let⟨hz,hA,hB⟩:=bs hy;refine C 1 V (FR 10 48 [] [(1,sV a6 a5.1 a7),(3,sV av aq.1 aw),(5,sV am ag.1 ap),(7,iV ay.1),(8,iV ay.2),(9,sV ai O.1 al),(10,iV O.2),(11,sV Z K.1 ac),(12,sV U K.2.1 Y),(13,iV K.2.2),(54,.bool hz)] (λmQ a0 ca=>?_) (λcc=>?_));let⟨hC,hD,hE⟩:=bs hB;refine C 1 V (FR 14 44 [] [(1,sV a6 a5.1 a7),(3,sV av aq.1 aw),(5,sV am ag.1 ap),(7,iV ay.1),(9,sV ai O.1 al),(10,iV O.2),(11,sV Z K.1 ac),(12,sV U K.2.1 Y),(13,iV K.2.2),(58,.bool hC)] (λmR a1 ce=>?_) (λci=>?_));let⟨hF,hG,hH⟩:=bs hE;refine C 1 V (FR 18 40 [] [(1,sV a6 a5.1 a7),(3,sV av aq.1 aw),(5,sV am ag.1 ap),(7,iV ay.1),(9,sV ai O.1 al),(11,sV Z K.1 ac),(12,sV U K.2.1 Y),(13,iV K.2.2),(62,.bool hF)] (λmS a2 co=>?_) (λcp=>?_));let⟨hI,hJ,hK⟩:=bs hH;refine C 1 V (FR 22 36 [] [(1,sV a6 a5.1 a7),(3,sV av aq.1 aw),(5,sV am ag.1 ap),(7,iV ay.1),(9,sV ai O.1 al),(11,sV Z K.1 ac),(12,sV U K.2.1 Y),(66,.bool hI)] (λmT a3 ct=>?_) (λcw=>?_));let⟨hL,hM,hN⟩:=bs hK;refine C 1 V (FR 26 32 [] [(1,sV a6 a5.1 a7),(3,sV av aq.1 aw),(5,sV am ag.1 ap),(9,sV ai O.1 al),(11,sV Z K.1 ac),(12,sV U K.2.1 Y),(70,.bool hL)] (λmU a4 cy=>?_) (λc0=>?_));let⟨hO,hP,hQ⟩:=bs hN;refine C 1 V (FR 31 27 [] [(3,sV av aq.1 aw),(5,sV am ag.1 ap),(9,sV ai O.1 al),(11,sV Z K.1 ac),(12,sV U K.2.1 Y),(75,.bool hO)] (λmV a8 c1=>?_) (λc2=>?_));let⟨hR,hS,hT⟩:=bs hQ;refine C 1 V (FR 36 22 [] [(5,sV am ag.1 ap),(9,sV ai O.1 al),(11,sV Z K.1 ac),(12,sV U K.2.1 Y),(80,.bool hR)] (λmW be c3=>?_) (λc4=>?_));obtain⟨hU,hV,hW⟩:=bs hT;refine C 1 V (FR 41 17 [] [(9,sV ai O.1 al),(11,sV Z K.1 ac),(12,sV U K.2.1 Y),(85,.bool hU)] (λmX bw c5=>?_) (λc6=>?_));let⟨hX,hY,h0⟩:=bs hW;refine C 1 V (FR 46 12 [] [(11,sV Z K.1 ac),(12,sV U K.2.1 Y),(90,.bool hX)] (λmY b0 c7=>?_) (λc8=>?_));let⟨h1,h2,h3⟩:=bs h0;refine C 1 V (FR 52 6 [] [(12,sV U K.2.1 Y),(96,.bool h1)] (λmZ c9 dd=>?_) (λdj=>?_));let⟨h4,h5,h6⟩:=bs h3;refine C 1 V (FR 57 1 [] [(101,.bool h4)] (λm0 h7 h8=>?_) (λea=>?_));refine C 2 V ?_;cases h6;exact A4 func12 V V (em (((((((((((((((((((((((er.Ad eC).Ad b2).Ad b3).Ad bx).Ad bz).Ad bi).Ad bn).Ad bo).Ad bv).Ad a9).Ad bb).Ad az).Ad a0).Ad a1).Ad a2).Ad a3).Ad a4).Ad a8).Ad be).Ad bw).Ad b0).Ad c9).Ad h7) V ⟨V,V⟩ h8);refine FB 97 h5 (λh9 ia=>?_) (λh9 ih=>?_);refine C 1 V (Gx (pp:=rI) [iV 0,iV 1,iV 2] [0,1,2] V V V underlying22 AO CJ (by decide) V V V ⟨V,V,V,trivial⟩ dd λm1 m2 ii io=>?_);refine Cp 0 ii io V λm3 eb i0 i1=>?_;let⟨m4,i3,i4⟩:=bs ia;refine CW (Qa (hu.Ah (((((((((((az.Ad a0).Ad a1).Ad a2).Ad a3).Ad a4).Ad a8).Ad be).Ad bw).Ad b0).Ad c9).Ad eb)) i0 i3) V V Oj i1 λm5 i5 i6=>BS (S':=[[],[]]) V i6 λi7=>C 1 V ?_;cases i4;exact ea (eb.Ad i5) i7 V;refine C 4 V ?_;cases ih;exact ea AR dd V;refine FB 91 h2 (λi8 i9=>?_) (λi8 jj=>?_);refine C 1 V (Gx (pp:=rI) [iV 0,iV 2,iV 6,iV 2,iV 3,iV 3,iV 3,iV 1,iV 1] [0,2,6,2,3,3,3,1,1] V V V underlying22 AO CJ (by decide) V V V ⟨V,V,V,V,V,V,V,V,V,trivial⟩ c7 λm6 m7 jt jy=>?_);refine Cp 0 jt jy V λm9 ec j0 j1=>?_;let⟨na,kb,kc⟩:=bs i9;refine B4 (Qi j0 kb) V V Ok j1 ?_;rintro _ nb ke ed ⟨nc,nf,_,rfl,rfl,kf⟩ ki;refine BS (S':=[[],ke]) V ki λkn=>Cp 1 kf kn V λng ee ko kp=>?_;let⟨nh,ks,kv⟩:=bs kc;refine CW (Xj (ht.Ah ((((((((((((az.Ad a0).Ad a1).Ad a2).Ad a3).Ad a4).Ad a8).Ad be).Ad bw).Ad b0).Ad ec).Ad ed).Ad ee)) ko ks) V V (A8 func37 V) kp λni kK kL=>C 1 V ?_;cases kv;exact dj (((ec.Ad ed).Ad ee).Ad kK) kL V;refine C 5 V ?_;cases jj;exact dj AR c7 V;refine FB 86 hY (λkM kN=>?_) (λkM kO=>?_);refine C 1 V (Gx (pp:=rI) [iV 0] [0] V V V underlying22 AO CJ (by decide) V V V ⟨V,trivial⟩ c5 λnj nk kP kQ=>?_);refine Cp 0 kP kQ V λnl ef kR kS=>?_;let⟨nm,kT,kU⟩:=bs kN;refine CW (Qa (hk.Ah (((((((((((a9.Ad bb).Ad az).Ad a0).Ad a1).Ad a2).Ad a3).Ad a4).Ad a8).Ad be).Ad bw).Ad ef)) kR kT) V V Oj kS λnp kV kW=>BS (S':=[[],[]]) V kW λkX=>C 1 V ?_;cases kU;exact c8 (ef.Ad kV) kX V;refine C 4 V ?_;cases kO;exact c8 AR c5 V;refine FB 81 hV (λkY kZ=>?_) (λkY k0=>?_);let⟨nq,k1,k2⟩:=bs kZ;refine C 1 V (B4 (j6 k1) V V (A8 func38 V) c3 ?_);rintro _ nr _ eg ⟨ns,nt,rfl,rfl,k3⟩ k4;let⟨nu,k5,k6⟩:=bs k2;refine CW (Xj (ge.Ah ((((((((((((((bi.Ad bn).Ad bo).Ad bv).Ad a9).Ad bb).Ad az).Ad a0).Ad a1).Ad a2).Ad a3).Ad a4).Ad a8).Ad be).Ad eg)) k3 k5) V V (A8 func37 V) k4 λnx k7 k8=>C 1 V ?_;cases k6;exact c6 (eg.Ad k7) k8 V;refine C 4 V ?_;cases k0;exact c6 AR c3 V;refine FB 76 hS (λk9 la=>?_) (λk9 lb=>?_);refine C 1 V (Gx (pp:=rI) [iV 1,iV 2,iV 3] [1,2,3] V V V underlying22 AO CJ (by decide) V V V ⟨V,V,V,trivial⟩ c1 λny nz ld lf=>?_);refine Cp 0 ld lf V λnA ej lg lh=>?_;let⟨nB,li,lj⟩:=bs la;refine CW (Qa (fk.Ah (((((((((((((((bx.Ad bz).Ad bi).Ad bn).Ad bo).Ad bv).Ad a9).Ad bb).Ad az).Ad a0).Ad a1).Ad a2).Ad a3).Ad a4).Ad a8).Ad ej)) lg li) V V Oj lh λnC ll lm=>BS (S':=[[],[]]) V lm λlq=>C 1 V ?_;cases lj;exact c4 (ej.Ad ll) lq V;refine C 4 V ?_;cases lb;exact c4 AR c1 V;refine FB 71 hP (λlr ls=>?_) (λlr lu=>?_);refine C 1 V (Gx (pp:=rI) [iV (-6),iV 1,iV 3,iV 2] [(-6),1,3,2] V V V underlying22 AO CJ (by decide) V V V ⟨V,V,V,V,trivial⟩ cy λnD nE lw lx=>?_);refine Cp 0 lw lx V λnF ek lz lA=>?_;let⟨nG,lB,lC⟩:=bs ls;refine CW (Qa (eN.Ah ((((((((((((((((b2.Ad b3).Ad bx).Ad bz).Ad bi).Ad bn).Ad bo).Ad bv).Ad a9).Ad bb).Ad az).Ad a0).Ad a1).Ad a2).Ad a3).Ad a4).Ad ek)) lz lB) V V Oj lA λnH lD lE=>BS (S':=[[],[]]) V lE λlF=>C 1 V ?_;cases lC;exact c2 (ek.Ad lD) lF V;refine C 4 V ?_;cases lu;exact c2 AR cy V;refine FB 67 hM (λlG lH=>?_) (λlG lI=>?_);refine C 3 V ?_;cases lH;exact c0 AR ct V;refine C 3 V ?_;cases lI;exact c0 AR ct V;refine FB 63 hJ (λlJ lK=>?_) (λlJ lL=>?_);refine C 3 V ?_;cases lK;exact cw AR co V;refine C 3 V ?_;cases lL;exact cw AR co V;refine FB 59 hG (λlM lN=>?_) (λlM lO=>?_);refine C 3 V ?_;cases lN;exact cp AR ce V;refine C 3 V ?_;cases lO;exact cp AR ce V;refine FB 55 hD (λlP lQ=>?_) (λlP lR=>?_);refine C 3 V ?_;cases lQ;exact ci AR ca V;refine C 3 V ?_;cases lR;exact ci AR ca V;refine FB 51 hA (λlS lT=>?_) (λlS lU=>?_);refine C 3 V ?_;cases lT;exact cc AR b5 V;refine C 3 V ?_;cases lU;exact cc AR b5 V;refine Iz 47 hx (λlV lW=>?_) (λlV lX=>?_);refine C 3 V ?_;cases lW;exact b6 AR b4 V;refine C 3 V ?_;cases lX;exact b6 AR b4 V
variable {E:LH}
def f104(fu_:Nat)(p0:List Int):Option ((List Int)):=(Ds ([]:List Int) p0).bind λK=>some K
def R1(fu_:Nat)(p0:Bv)(K:Bv×Int):Option (Bt (Bv×Int) (Bv)):=if K.2<(p0.length:Int) then((ix p0 K.2).bind λO=>(f104 fu_ O).bind λU=>(ix K.1 K.2).bind λZ=>(Av (K.2+1)).bind λY=>some (.more ((K.1.set (Int.toNat K.2) U),Y))) else(some (.done K.1))
def f68(fu_:Nat)(p0:Bv):Option (Bv):=(Gy (p0.length:Int) ([]:List Int)).bind λK=>Option.bind (iter (R1 fu_ p0) fu_ (K,0)) λO=>some O
def f69(fu_:Nat)(p0:AE):Option (AE):=(Ds ([]:AE) p0).bind λK=>some K
def f21(fu_:Nat)(p0:Bi):Option (Bi):=(f68 fu_ p0.1).bind λK=>(f69 fu_ p0.2).bind λO=>some (K,O)
def f20(fu_:Nat)(p0:List Int):Option ((Ci)):=some (p0,0,2685821657736338717)
theorem jQ{p0:List Int}(Z:Ao rI E a1 c2 p0){r:(Ci)}(K:f20 fu_ p0=some r):AW J 4 [sV a1 p0 c2] E [] (λw E' B'=>∃(O:Nat) (U:Aq) (Y:Nat),w= Al O 0/\B'=[(O,.cells #[sV U r.1 Y,iV r.2.1,.int .u64 ((r.2.2:Nat):Int)] 43 (0,0))]/\Ao rI E' U Y r.1):=by
 refine Bs func4 λQ am cs H ac ag=>?_;unfold f20 at K;refine C 7 V (An (v:=.agg #[sV a1 p0 c2,iV 0,.int .u64 ((2685821657736338717:Nat):Int)]) V (λρ h=>C5 [(0,1),(1,1),(2,1)] h (DJ type43) underlying43 ⟨V,A2 type22,V,A2 type3,V,A2 type41,trivial⟩ V V) ?_);refine JS.box (v:=.agg #[sV a1 p0 c2,iV 0,.int .u64 ((2685821657736338717:Nat):Int)]) V V V ac V λai al=>C 2 V ?_;cases K;exact A4 func4 V V (ag AR V ⟨ai,a1,c2,V,(by first | rfl | simp | (simp[Value.cells])),Z⟩ al)
def f92(fu_:Nat)(p0:Int)(p1:Int)(p2:Int):Option Bool:=Option.bind (if p1<=p0 then(some (decide (p0<=p2))) else(some false)) λx1=>some x1
def f88(fu_:Nat)(p0:Int)(p1:Int×Int×Int)(p2:Int):Option Int:=(Av (p0 - 1)).bind λK=>(f92 fu_ p1.1 0 K).bind λO=>Option.bind (if(!O)=true then(some true) else((Av (p0 - 1)).bind λU=>(f92 fu_ p1.2.1 0 U).bind λY=>some (!Y))) λZ=>if Z=true then(some 3) else(if p1.1=p1.2.1 then(some 8) else((f92 fu_ p1.2.2 1 p2).bind λac=>if(!ac)=true then(some 1) else(some 0)))
def NF(fu_:Nat)(p0:Bi)(O:Int)(K:Int):Option (Bt Int ((Int)⊕(Unit))):=(ix p0.1 O).bind λU=>if K<(U.length:Int) then((ix p0.1 O).bind λY=>(ix Y K).bind λZ=>(f92 fu_ Z 1 9).bind λac=>if(!ac)=true then(some (.done (Sum.inl 1))) else((Av (K+1)).bind λag=>some (.more ag))) else(some (.done (Sum.inr ())))
def NK(fu_:Nat)(p0:Bi)(K:Int):Option (Bt Int ((Int)⊕(Unit))):=if K<(p0.1.length:Int) then((ix p0.1 K).bind λO=>if 3<(O.length:Int) then(some (.done (Sum.inl 6))) else(Option.bind (iter (NF fu_ p0 K) fu_ 0) λU=>Sum.elim (λr=>some (.done (Sum.inl r))) (λZ=>(Av (K+1)).bind λY=>some (.more Y)) U)) else(some (.done (Sum.inr ())))
def R0(fu_:Nat)(p0:Bi)(K:Int):Option (Bt Int ((Int)⊕(Unit))):=if K<(p0.2.length:Int) then((ix p0.2 K).bind λU=>(f88 fu_ (p0.1.length:Int) U 9).bind λO=>if O≠0 then(some (.done (Sum.inl O))) else((Av (K+1)).bind λY=>some (.more Y))) else(some (.done (Sum.inr ())))
def f48(fu_:Nat)(p0:Bi):Option Int:=if(p0.1.length:Int)<2 then(some 7) else(if 5<(p0.1.length:Int) then(some 6) else(Option.bind (iter (NK fu_ p0) fu_ 0) λK=>Sum.elim (λr=>some r) (λU=>if 8<(p0.2.length:Int) then(some 6) else(Option.bind (iter (R0 fu_ p0) fu_ 0) λO=>Sum.elim (λr=>some r) (λY=>some 0) O)) K))
variable {E:LH}
def f83(fu_:Nat)(p0:Ci):Option (Nat×(Ci)):=(Av (p0.2.1+1)).bind λO=>Option.bind (if O<=(p0.1.length:Int) then((Av (O - 1)).bind λU=>(ix p0.1 U).bind λY=>some (((((CC O)*11400714819323198485)%2^64) ^^^ (((CC Y)*14029467366897019727)%2^64))%2^64)) else(some (((CC O)*11400714819323198485)%2^64))) λK=>some (((((((((((p0.2.2 ^^^ K)%2^64)*18397679294719823053)%2^64) ^^^ (((((p0.2.2 ^^^ K)%2^64)*18397679294719823053)%2^64)>>>33))%2^64)*14181476777654086739)%2^64) ^^^ (((((((((p0.2.2 ^^^ K)%2^64)*18397679294719823053)%2^64) ^^^ (((((p0.2.2 ^^^ K)%2^64)*18397679294719823053)%2^64)>>>33))%2^64)*14181476777654086739)%2^64)>>>29))%2^64)>>>11,(p0.1,O,(((((p0.2.2 ^^^ K)%2^64)*18397679294719823053)%2^64) ^^^ (((((p0.2.2 ^^^ K)%2^64)*18397679294719823053)%2^64)>>>33))%2^64))
variable{bk:Nat}{p0:Ci}
theorem jB(ai:Ao rI E a1 c2 p0.1){r:Nat×(Ci)}(al:f83 fu_ p0=some r):AW J 20 [Al bk 0] E [(bk,.cells #[sV a1 p0.1 c2,iV p0.2.1,.int .u64 ((p0.2.2:Nat):Int)] 43 (0,0))] (λw E' B'=>∃(am:Aq) (ap:Nat),w=.int .u64 ((r.1:Nat):Int)/\B'=[(bk,.cells #[sV am r.2.1 ap,iV r.2.2.1,.int .u64 ((r.2.2.2:Nat):Int)] 43 (0,0))]/\Ao rI E' am ap r.2.1):=by
 refine Bs func20 λQ bo cs H aq a0=>?_;unfold f83 at al;refine C 8 V (JL.fd underlying43 AO V V V ?_);refine An (v:=iV p0.2.1) V (λρ h=>Yl.load Br (h _ _ V) (B8 (j:=0) (off:=1) aq V V)) ?_;let⟨Y,a2,a3⟩:=bs al;refine BE a2 V V V (C 1 V ?_);refine JL.fd underlying43 AO V V V (JS.sx 0 aq AO λU=>?_);refine C 5 V (JL.fd underlying43 AO V V V ?_);refine An (v:=iV Y) V (λρ h=>Yl.load Br (h _ _ V) (B8 (j:=0) (off:=1) U V V)) (An (v:=.int .u64 ((CC Y:Nat):Int)) V (λρ h=>Yl.CC underlying3 underlying41 (h _ _ V)) ?_);refine An (v:=.int .u64 ((((CC Y)*11400714819323198485)%2^64:Nat):Int)) V (λρ h=>Po (h _ _ V) (h _ _ V)) (C 4 V ?_);refine Eu 9 [bk] ⟨⟨0,_,V⟩,trivial⟩ U λK=>Bb K V [0,1] V (JG.fd 2 K underlying43 AO V V V V ?_);refine HV 3 K 1 0 U Br ?_;refine Bb K V [4,5] V (JG.fd 6 K underlying43 Fz V V V V ?_);refine HV 7 K 0 0 U Jq ?_;refine AS 8 K V V (λρ h s' Z=>Yl.len V underlying22 (h _ _ V)) (Dc [9] ?_);let⟨O,a4,a5⟩:=bs a3;refine C 2 V (Fo [bX bk #[sV a1 p0.1 c2,iV Y,.int .u64 ((p0.2.2:Nat):Int)] 43] [(0,Al bk 0),(3,.int .u64 ((O:Nat):Int))] (λbv av aw=>?_) (λay=>?_));refine C 5 V (JL.fd underlying43 KG V V V ?_);refine An (v:=.int .u64 ((p0.2.2:Nat):Int)) V (λρ h=>Yl.load Of (h _ _ V) (B8 (j:=0) (off:=2) aw V V)) (C 1 V ?_);refine An (v:=.int .u64 (((p0.2.2 ^^^ O)%2^64:Nat):Int)) V (λρ h=>Lx (h _ _ V) (h _ _ V)) (An (v:=.int .u64 (((((p0.2.2 ^^^ O)%2^64)*18397679294719823053)%2^64:Nat):Int)) V (λρ h=>Po (h _ _ V) (h _ _ V)) ?_);refine C 1 V (JL.fd underlying43 KG V V V ?_);refine JS.sx 0 aw KG λac=>?_;refine C 2 V (Eu 11 [bk] ⟨⟨0,_,V⟩,trivial⟩ ac λK=>?_);refine Bb K V [0,1,2] V (JG.fd 3 K underlying43 KG V V V V ?_);refine HV 4 K 2 0 ac Of ?_;refine Bb K V [5,6] V (JG.fd 7 K underlying43 KG V V V V ?_);refine HV 8 K 2 0 ac Of ?_;refine AS (v:=.int .u64 ((((((p0.2.2 ^^^ O)%2^64)*18397679294719823053)%2^64)>>>33:Nat):Int)) 9 K V V (λρ h s' Z=>LD 33 (h _ _ V) (h _ _ V) (by decide)) (AS (v:=.int .u64 (((((((p0.2.2 ^^^ O)%2^64)*18397679294719823053)%2^64) ^^^ (((((p0.2.2 ^^^ O)%2^64)*18397679294719823053)%2^64)>>>33))%2^64:Nat):Int)) 10 K V V (λρ h s' Z=>Lx (h _ _ V) (h _ _ V)) ?_);refine Dc [11,12,13] (C 1 V ?_);refine JL.fd underlying43 KG V V V (JS.sx 0 ac KG λaz=>?_);refine C 5 V (JL.fd underlying43 KG V V V ?_);refine An (v:=.int .u64 (((((((p0.2.2 ^^^ O)%2^64)*18397679294719823053)%2^64) ^^^ (((((p0.2.2 ^^^ O)%2^64)*18397679294719823053)%2^64)>>>33))%2^64:Nat):Int)) V (λρ h=>Yl.load Of (h _ _ V) (B8 (j:=0) (off:=2) az V V)) (An (v:=.int .u64 (((((((((p0.2.2 ^^^ O)%2^64)*18397679294719823053)%2^64) ^^^ (((((p0.2.2 ^^^ O)%2^64)*18397679294719823053)%2^64)>>>33))%2^64)*14181476777654086739)%2^64:Nat):Int)) V (λρ h=>Po (h _ _ V) (h _ _ V)) ?_);refine C 6 V (An (v:=.int .u64 ((((((((((p0.2.2 ^^^ O)%2^64)*18397679294719823053)%2^64) ^^^ (((((p0.2.2 ^^^ O)%2^64)*18397679294719823053)%2^64)>>>33))%2^64)*14181476777654086739)%2^64)>>>29:Nat):Int)) V (λρ h=>LD 29 (h _ _ V) (h _ _ V) (by decide)) ?_);refine An (v:=.int .u64 (((((((((((p0.2.2 ^^^ O)%2^64)*18397679294719823053)%2^64) ^^^ (((((p0.2.2 ^^^ O)%2^64)*18397679294719823053)%2^64)>>>33))%2^64)*14181476777654086739)%2^64) ^^^ (((((((((p0.2.2 ^^^ O)%2^64)*18397679294719823053)%2^64) ^^^ (((((p0.2.2 ^^^ O)%2^64)*18397679294719823053)%2^64)>>>33))%2^64)*14181476777654086739)%2^64)>>>29))%2^64:Nat):Int)) V (λρ h=>Lx (h _ _ V) (h _ _ V)) (An (v:=.int .u64 ((((((((((((p0.2.2 ^^^ O)%2^64)*18397679294719823053)%2^64) ^^^ (((((p0.2.2 ^^^ O)%2^64)*18397679294719823053)%2^64)>>>33))%2^64)*14181476777654086739)%2^64) ^^^ (((((((((p0.2.2 ^^^ O)%2^64)*18397679294719823053)%2^64) ^^^ (((((p0.2.2 ^^^ O)%2^64)*18397679294719823053)%2^64)>>>33))%2^64)*14181476777654086739)%2^64)>>>29))%2^64)>>>11:Nat):Int)) V (λρ h=>LD 11 (h _ _ V) (h _ _ V) (by decide)) ?_);refine C 2 V ?_;cases a5;exact A4 func20 V V (a0 av V ⟨a1,c2,V,V,(ai.Ah av)⟩ az);refine A5 a4 (λa6 a7=>?_) (λa6 a8=>?_);refine Eu 14 [bk] ⟨⟨0,_,V⟩,trivial⟩ U λK=>Bb K V [0,1,2] V (JG.fd 3 K underlying43 Fz V V V V ?_);refine HV 4 K 0 0 U Jq ?_;refine Bb K V [5,6] V (JG.fd 7 K underlying43 AO V V V V ?_);refine HV 8 K 1 0 U Br ?_;let⟨bw,a9,bb⟩:=bs a7;refine AS 9 K V V (λρ h s' Z=>EA (h _ _ V) (h _ _ V) a9) ?_;let⟨ag,be,bi⟩:=bs bb;refine FQ 10 ai be K underlying22 AO ?_;rintro bx bz _ rfl bn;refine JG.lp 11 K 0 bn U ⟨⟨0,_,V⟩,trivial⟩ Br ?_;refine AS (v:=.int .u64 ((CC ag:Nat):Int)) 12 K V V (λρ h s' Z=>Yl.CC underlying3 underlying41 (h _ _ V)) (AS (v:=.int .u64 ((((CC ag)*14029467366897019727)%2^64:Nat):Int)) 13 K V V (λρ h s' Z=>Po (h _ _ V) (h _ _ V)) ?_);refine Dc [14,15] (An (v:=.int .u64 ((((((CC Y)*11400714819323198485)%2^64) ^^^ (((CC ag)*14029467366897019727)%2^64))%2^64:Nat):Int)) V (λρ h=>Lx (h _ _ V) (h _ _ V)) ?_);refine C 2 V ?_;cases bi;exact ay AR U V;refine JL.skip ?_;cases a8;exact ay AR U V
def f36(fu_:Nat)(p0:Ci)(p1:Int):Option (Int×(Ci)):=(f83 fu_ p0).bind λK=>if p1<1 then(some (0,K.2)) else((Qb K.1 ((CC p1+1)%2^64)).bind λO=>some (JR O,K.2))
variable{p2:Int}
theorem Ko(ap:Ao rI E a1 c2 p0.1){r:Int×(Ci)}(K:f36 fu_ p0 p2=some r):AW J 8 [Al bk 0,iV p2] E [(bk,.cells #[sV a1 p0.1 c2,iV p0.2.1,.int .u64 ((p0.2.2:Nat):Int)] 43 (0,0))] (λw E' B'=>∃(O:Aq) (U:Nat),w=iV r.1/\B'=[(bk,.cells #[sV O r.2.1 U,iV r.2.2.1,.int .u64 ((r.2.2.2:Nat):Int)] 43 (0,0))]/\Ao rI E' O U r.2.1):=by
 refine Bs func8 λQ a4 cs H aq Y=>?_;unfold f36 at K;let⟨a5,av,aw⟩:=bs K;refine C 7 V (Cc 0 (jB ap av) V V (A8 func20 V) aq V ?_);rintro _ a6 _ Z ⟨ac,ag,rfl,rfl,ai⟩ al;refine C 8 V (A5 aw (λay az=>?_) (λay a0=>?_));refine C 4 V ?_;cases az;exact A4 func8 V V (Y Z V ⟨ac,ag,V,V,ai⟩ al);refine C 5 V (An (v:=.int .u64 ((CC p2:Nat):Int)) V (λρ h=>Yl.CC underlying3 underlying41 (h _ _ V)) ?_);refine An (v:=.int .u64 (((CC p2+1)%2^64:Nat):Int)) V (λρ h=>cO (h _ _ V) (h _ _ V)) ?_;let⟨am,a2,a3⟩:=bs a0;refine An (v:=.int .u64 ((am:Nat):Int)) V (λρ h=>ao (h _ _ V) (h _ _ V) a2) (An (v:=iV (JR am)) V (λρ h=>VZ underlying41 underlying3 (h _ _ V)) ?_);refine C 2 V ?_;cases a3;exact A4 func8 V V (Y Z V ⟨ac,ag,V,V,ai⟩ al)
def f37(fu_:Nat)(p0:Ci)(p1:Int)(p2:Int):Option (Int×(Ci)):=(Av (p2 - p1)).bind λO=>(f36 fu_ p0 O).bind λK=>(Av (p1+K.1)).bind λU=>some (U,K.2)
theorem P8{p1:Int}(Y:Ao rI E a1 c2 p0.1){r:Int×(Ci)}(K:f37 fu_ p0 p1 p2=some r):AW J 9 [Al bk 0,iV p1,iV p2] E [(bk,.cells #[sV a1 p0.1 c2,iV p0.2.1,.int .u64 ((p0.2.2:Nat):Int)] 43 (0,0))] (λw E' B'=>∃(O:Aq) (U:Nat),w=iV r.1/\B'=[(bk,.cells #[sV O r.2.1 U,iV r.2.2.1,.int .u64 ((r.2.2.2:Nat):Int)] 43 (0,0))]/\Ao rI E' O U r.2.1):=by
 refine Bs func9 λQ a2 cs H Z ac=>?_;unfold f37 at K;let⟨a3,ag,ai⟩:=bs K;refine C 10 V (BW ag V V V ?_);let⟨a4,al,am⟩:=bs ai;refine Cc 0 (Ko Y al) V V J4 Z V ?_;rintro _ a5 _ ap ⟨aq,av,rfl,rfl,aw⟩ ay;let⟨a6,az,a0⟩:=bs am;refine BE az V V V (C 2 V ?_);cases a0;exact A4 func9 V V (ac ap V ⟨aq,av,V,V,aw⟩ ay)
def f32(fu_:Nat)(p0:Ci)(p1:Int):Option (Bool×(Ci)):=(Av (p1 - 1)).bind λO=>(f36 fu_ p0 O).bind λK=>some (decide (K.1=0),K.2)
theorem jT(Y:Ao rI E a1 c2 p0.1){r:Bool×(Ci)}(K:f32 fu_ p0 p2=some r):AW J 13 [Al bk 0,iV p2] E [(bk,.cells #[sV a1 p0.1 c2,iV p0.2.1,.int .u64 ((p0.2.2:Nat):Int)] 43 (0,0))] (λw E' B'=>∃(O:Aq) (U:Nat),w=.bool r.1/\B'=[(bk,.cells #[sV O r.2.1 U,iV r.2.2.1,.int .u64 ((r.2.2.2:Nat):Int)] 43 (0,0))]/\Ao rI E' O U r.2.1):=by
 refine Bs func13 λQ az cs H Z ac=>?_;unfold f32 at K;let⟨a0,ag,ai⟩:=bs K;refine C 8 V (BW ag V V V ?_);let⟨a2,al,am⟩:=bs ai;refine Cc 0 (Ko Y al) V V J4 Z V ?_;rintro _ a3 _ ap ⟨aq,av,rfl,rfl,aw⟩ ay;refine C 3 V ?_;cases am;exact A4 func13 V V (ac ap V ⟨aq,av,V,V,aw⟩ ay)
def f81(fu_:Nat)(p0:Ci)(p1:List Int):Option (Int×(Ci)):=(Av ((p1.length:Int) - 1)).bind λO=>(f36 fu_ p0 O).bind λK=>(ix p1 K.1).bind λU=>some (U,K.2)
theorem W8{K:Aq}(ag:Ao rI E a1 c2 p0.1)(ai:Ao rI E K kf p1){r:Int×(Ci)}(U:f81 fu_ p0 p1=some r):AW J 14 [Al bk 0,sV K p1 kf] E [(bk,.cells #[sV a1 p0.1 c2,iV p0.2.1,.int .u64 ((p0.2.2:Nat):Int)] 43 (0,0))] (λw E' B'=>∃(Y:Aq) (Z:Nat),w=iV r.1/\B'=[(bk,.cells #[sV Y r.2.1 Z,iV r.2.2.1,.int .u64 ((r.2.2.2:Nat):Int)] 43 (0,0))]/\Ao rI E' Y Z r.2.1):=by
 refine Bs func14 λQ a6 cs H al am=>?_;unfold f81 at U;refine C 9 V (JL.ln underlying22 V V V ?_);let⟨a7,ap,aq⟩:=bs U;refine BW ap V V V ?_;let⟨a8,av,aw⟩:=bs aq;refine Cc 0 (Ko ag av) V V J4 al V ?_;rintro _ a9 _ ac ⟨ay,az,rfl,rfl,a0⟩ a2;let⟨bb,a3,a4⟩:=bs aw;refine JS.ix (ai.Ah ac) a3 underlying22 AO ?_;rintro be bi _ rfl a5;refine Dw 0 a5 Br V V V (C 2 V ?_);cases a4;exact A4 func14 V V (am ac V ⟨ay,az,V,V,a0⟩ a2)
def f40(fu_:Nat)(p0:Ci)(p1:Int):Option (Dq×(Ci)):=(Av (p1 - 1)).bind λZ=>(f36 fu_ p0 Z).bind λK=>(f37 fu_ K.2 1 9).bind λO=>(f81 fu_ O.2 ([1,2,2,3,O.1]:List Int)).bind λU=>(Av (p1 - 1)).bind λac=>(f37 fu_ U.2 1 ac).bind λY=>(Av (K.1+Y.1)).bind λag=>(Qr ag p1).bind λai=>some ((K.1,ai,U.1),Y.2)
theorem WV(aw:Ao rI E a1 c2 p0.1){r:Dq×(Ci)}(ac:f40 fu_ p0 p2=some r):AW J 15 [Al bk 0,iV p2] E [(bk,.cells #[sV a1 p0.1 c2,iV p0.2.1,.int .u64 ((p0.2.2:Nat):Int)] 43 (0,0))] (λw E' B'=>∃(ag:Aq) (ai:Nat),w=.agg #[iV r.1.1,iV r.1.2.1,iV r.1.2.2]/\B'=[(bk,.cells #[sV ag r.2.1 ai,iV r.2.2.1,.int .u64 ((r.2.2.2:Nat):Int)] 43 (0,0))]/\Ao rI E' ag ai r.2.1):=by
 refine Bs func15 λQ c8 cs H ay az=>?_;unfold f40 at ac;refine C 2 V (B3 ay BT λc9 a0=>?_);let⟨dd,a2,a3⟩:=bs ac;refine C 5 V (BW a2 V V V ?_);let⟨O,a4,a5⟩:=bs a3;refine Cc 0 (Ko aw a4) V V J4 a0 V ?_;rintro _ dj _ a6 ⟨ea,eb,rfl,rfl,a7⟩ a8;let⟨al,a9,bb⟩:=bs a5;refine C 2 V (Cc 0 (P8 a7 a9) V V Om a8 V ?_);rintro _ ec _ be ⟨ed,ee,rfl,rfl,bi⟩ bn;refine Gx (pp:=rI) [iV 1,iV 2,iV 2,iV 3,iV al.1] [1,2,2,3,al.1] V V V underlying22 AO CJ (by decide) V V V ⟨V,V,V,V,V,trivial⟩ bn λef eg bo bv=>Cp 2 bo bv V λej am bw bx=>?_;let⟨U,bz,b0⟩:=bs bb;refine Cc 0 (W8 (bi.Ah am) bw bz) V V (A8 func14 V) bx V ?_;rintro _ ek _ b1 ⟨el,em,rfl,rfl,b2⟩ b3;refine An (v:=.agg #[iV O.1,iV 0,iV U.1]) V (λρ h=>C5 [(0,1),(1,1),(2,1)] h BT underlying47 ⟨V,A2 type3,V,A2 type3,V,A2 type3,trivial⟩ V V) (B3 b3 BT λap b4=>?_);refine JS.sx 3 b4 Bx λZ=>?_;refine C 2 V (Eu 8 [ap] ⟨⟨3,_,V⟩,trivial⟩ Z λK=>?_);refine JG.fd 0 K underlying47 AO V V V V (HV 1 K 0 3 Z Br ?_);refine Bb K V [2,3] V ?_;let⟨b5,b6,ca⟩:=bs b0;refine AS 4 K V V (λρ h s' cc=>EA (h _ _ V) (h _ _ V) b6) (Dr 7 K V V ?_);let⟨eo,ce,ci⟩:=bs ca;refine OC (i:=5) (vs:=[Al bk 0,iV 1,iV b5]) 0 (by exact λx co=>Hv.mem (bks:=[ap]) (by exact⟨⟨3,_,rfl⟩,trivial⟩) x (by simpa [Az] using co)) (P8 b2 ce) (by decide+kernel) V V V Om V Z V ?_;rintro _ ep _ cp ⟨ct,cw,rfl,rfl,cy⟩ c0;let⟨er,c1,c3⟩:=bs ci;refine AS 6 K V V (λρ h s' cc=>DW (h _ _ V) (h _ _ V) c1) (Dc [8,9,10] ?_);let⟨Y,c4,c5⟩:=bs c3;refine An (v:=iV Y) V (λρ h=>eF (h _ _ V) (h _ _ V) c4) (JL.fd underlying47 AO V V V ?_);refine JS.sx 3 c0 AO λaq=>?_;refine C 3 V (An V (λρ h=>IV (vs:=[iV O.1,iV Y,iV U.1]) Eh Bx (h _ _ V) (Hq (off:=0) 3 aq V V)) ?_);refine JS.sx 1 aq Bx λc6=>?_;refine JL.done (JS.drop 3 c6 V λav=>?_);cases c5;refine JL.ret (v:=.agg #[iV O.1,iV Y,iV U.1]) V V (BL.list func15 V (vs:=[.agg #[iV O.1,iV Y,iV U.1]]) ⟨⟨_,V,Ld.many (vs:=[iV O.1,iV Y,iV U.1]) Eh Bx (Hq (off:=0) 1 av V V)⟩,trivial⟩) (EO 1 av V λc7=>?_);exact az ((((a6.Ad be).Ad am).Ad b1).Ad cp) V ⟨ct,cw,V,V,cy⟩ c7
end Pal
namespace Pal
open Go Go.Conc
variable {P:Program}{J:Judge P}{Q:Gs_}{b:Frame}{ds:Ld_}{ops:Ao_}{cs:Lf_}{fuel:Nat}{D:Nat->Bool}{listed:Array Bool}{L:Env}{s:St}{E' H:LH}{S:List Seg}
variable {d:Option Tmp}{y:Operand}{t u ty e:TypeId}{p:String}{af:Ae_}{g:On_}{v:Value}{i:Nat}{kd:IntKind}
section
variable {n:Nat}{k:Li_}{m:Nat}{E:LH}
variable {x:Operand}
theorem Take.Wa{f:FuncId}{args:Array Operand}{ats:Array TypeId}{vs:Lv_}{seg:Seg}{R:Value->LH->Seg->Prop}(j:Nat)(O:Au E H S)(am:AW J f vs E seg R)
  (ap:ops[i]?=some ⟨d,.call ⟨.value (.func f),args,ats⟩,ty,p,af,g⟩) (hw:AY L ops ⟨d,.call ⟨.value (.func f),args,ats⟩,ty,p,af,g⟩=some true) (aq:Bu n d=true) (hb:Ei P f=true) (av:evs L args.toList=some vs) (U:S[j]?=some seg)
  (aw:∀v E' seg',Le E E'->R v E' seg'->Au E' H (S.set j seg')->AZ J Q b n ds ops k cs m Ec fuel (Bm listed i) (AB L d v) (Ak E' H (S.set j seg'))):
  Take J Q b n ds ops k cs m Ec fuel listed L (Ak E H S) i:=by
 have Y:S.flatten.Perm (seg++(S.set j []).flatten):=(Dm (seg':=seg) U).1.trans no;have Z:Nd E H (seg++(S.set j []).flatten):=Nd.perm O Y;have ay:Ak E H S=mk E (Bg (S.set j []).flatten H) seg:=by
  rw[show Ak E H S=mk E H S.flatten from rfl,FG O Y];unfold mk;rw[Ge]
 have ac:=Fc.LX (am (Bg (S.set j []).flatten H) (Nd.front Z)) (by rintro v s' ⟨E',B',_,_,_,rfl⟩;rfl);rw[← ay] at ac;refine⟨_,ap,by simp[Ek],aq,hw,λρ ag=>?_⟩;have az:args.map ρ=vs.toArray:=by
  rw[← Gv ag av];apply rl;simp
 have a0:ρ (.func f)=.func (.func f) #[] #[]:=ag _ _ V;simp only[execOp,resolve,bind,Sem.bind,Deferred.ofValue,a0,pure,invoke];have e: #[]++args.map ρ++ #[]=vs.toArray:=by rw[az];simp
 rw[e];refine J5 hb ?_;rw[Mm];refine⟨_,ac,?_⟩;rintro v bb ⟨⟨E',B',hle,a1,a2,rfl⟩,w,a3⟩;have e2:mk E' (Bg (S.set j []).flatten H) B'=mk E' H (B'++(S.set j []).flatten):=by unfold mk;rw[Ge]
 have a4:Nd E H (S.set j []).flatten:=by
  have:=Z;rw[Nd.iff] at this ⊢;rw[qN,qO] at this;exact⟨this.1.2.1,λq a5=>this.2 q (qG _ a5)⟩
 have a6:Nd E' H (S.set j []).flatten:=a4.grow λx K=>by
  have a7:=a3.d x K;have a8:Bg B' (Bg (S.set j []).flatten H) x=none:=a7;exact(Ij a8).1
 have ai:Nd E' H (B'++(S.set j []).flatten):=Nd.glue a2 a6;have al:(B'++(S.set j []).flatten).Perm (S.set j B').flatten:=no.trans (Dm U).2.symm;have a9:Au E' H (S.set j B'):=Nd.perm ai al;rw[e2,FG ai al];exact⟨V,λx o K=>hle _ _ K,aw v E' B' hle a1 a9⟩
end
open Go.Proofs Go.Proofs.Tryz
variable {J:Judge Tryz.prog}{E:LH}
def PF(fu_:Nat)(Y:Bool×(Ci))(K:(List Int)×Int×Nat×(List Int)×Int):Option (Bt ((List Int)×Int×Nat×(List Int)×Int) ((List Int)×Ci)):=if 0<K.2.2.2.2 then(Option.bind (if Y.1=true then((room K.2.2.2.1 1).bind λZ=>some (Z,K.1,K.2.1,K.2.2.1)) else((f81 fu_ (K.1,K.2.1,K.2.2.1) ([1,1,2,2,3,5]:List Int)).bind λO=>(room K.2.2.2.1 O.1).bind λac=>some (ac,O.2.1,O.2.2.1,O.2.2.2))) λU=>(Av (K.2.2.2.2 - 1)).bind λag=>some (.more (U.2.1,U.2.2.1,U.2.2.2,U.1,ag))) else(some (.done (K.2.2.2.1,K.1,K.2.1,K.2.2.1)))
def P3(fu_:Nat)(Y:Int×(Ci))(Z:Bool×(Ci))(K:Bv×(List Int)×Int×Nat×Int):Option (Bt (Bv×(List Int)×Int×Nat×Int) ((List Int)×Int×Nat×Bv)):=if K.2.2.2.2<Y.1 then((f36 fu_ (K.2.1,K.2.2.1,K.2.2.2.1) 3).bind λO=>Option.bind (iter (PF fu_ Z) fu_ (O.2.1,O.2.2.1,O.2.2.2,[],O.1)) λU=>(room K.1 U.1).bind λac=>(Av (K.2.2.2.2+1)).bind λag=>some (.more (ac,U.2.1,U.2.2.1,U.2.2.2,ag))) else(some (.done (K.2.1,K.2.2.1,K.2.2.2.1,K.1)))
def P1(fu_:Nat)(U:Int×(Ci))(K:AE×(List Int)×Int×Nat×Int):Option (Bt (AE×(List Int)×Int×Nat×Int) ((List Int)×Int×Nat×AE)):=if 0<K.2.2.2.2 then((f40 fu_ (K.2.1,K.2.2.1,K.2.2.2.1) U.1).bind λO=>(Ds K.1 ([O.1]:AE)).bind λY=>(Av (K.2.2.2.2 - 1)).bind λZ=>some (.more (Y,O.2.1,O.2.2.1,O.2.2.2,Z))) else(some (.done (K.2.1,K.2.2.1,K.2.2.2.1,K.1)))
def f31(fu_:Nat)(p0:Ci)(p1:Int)(p2:Int):Option (Bi×(Ci)):=(f37 fu_ p0 2 p1).bind λZ=>(f32 fu_ Z.2 3).bind λK=>Option.bind (iter (P3 fu_ Z K) fu_ ([],K.2.1,K.2.2.1,K.2.2.2,0)) λO=>(f36 fu_ (O.1,O.2.1,O.2.2.1) p2).bind λU=>Option.bind (iter (P1 fu_ Z) fu_ ([],U.2.1,U.2.2.1,U.2.2.2,U.1)) λY=>some ((O.2.2.2,Y.2.2.2),(Y.1,Y.2.1,Y.2.2.1))
theorem jY{bk:Nat}{a1:Aq}{c2:Nat}{p0:Ci}{p1 p2:Int}(ht:Ao rI E a1 c2 p0.1){fu_:Nat}{r:Bi×(Ci)}(e1:f31 fu_ p0 p1 p2=some r):AW J 5 [Al bk 0,iV p1,iV p2] E [(bk,.cells #[sV a1 p0.1 c2,iV p0.2.1,.int .u64 ((p0.2.2:Nat):Int)] 43 (0,0))] (λw E' B'=>∃(e3:Aq) (e4:Nat) (e5:Aq) (e6:Nat) (e7:Aq) (e8:Nat),w=.agg #[sV e3 r.1.1 e4,sV e5 r.1.2 e6]/\B'=[(bk,.cells #[sV e7 r.2.1 e8,iV r.2.2.1,.int .u64 ((r.2.2.2:Nat):Int)] 43 (0,0))]/\Ao (rL rI) E' e3 e4 r.1.1/\Ao Ay E' e5 e6 r.1.2/\Ao rI E' e7 e8 r.2.1):=by
 refine Bs func5 λQ mH cs H hu hv=>?_;unfold f31 at e1;refine C 2 V (B3 hu IL λO hw=>?_);refine C 3 V (B3 hw IL λU hx=>?_);let⟨ay,hy,hz⟩:=bs e1;refine C 5 V (Cc 0 (P8 ht hy) V V Om hx V ?_);rintro _ mI _ hA ⟨hB,hC,rfl,rfl,hD⟩ hE;refine BS (S':=[[(bk,.cells #[sV hB ay.2.1 hC,iV ay.2.2.1,.int .u64 ((ay.2.2.2:Nat):Int)] 43 (0,0))],[(O,.cells #[nS,nS] 28 (0,0))],[(U,.cells #[nS,nS] 28 (0,0))]]) V hE λhF=>?_;let⟨b4,hG,hH⟩:=bs hz;refine C 5 V (Cc 0 (jT hD hG) V V (A8 func13 V) hF V ?_);rintro _ dd _ hI ⟨hJ,hK,rfl,rfl,hL⟩ hM;let⟨Y,hN,hO⟩:=bs hH;refine C 7 V (BF (λL s=>∃(b5:LH) (dj:Aq) (ea:Nat) (ac:Aq) (ag:Nat) (aw:Seg),Jn dd H b5 [bX bk #[sV dj Y.1 ea,iV Y.2.1,.int .u64 ((Y.2.2.1:Nat):Int)] 43,bX O #[nS,nS] 28,bX U #[sV ac Y.2.2.2 ag,nS] 28,aw] [(0,Al bk 0),(2,iV p2),(6,Al O 0),(7,Al U 0),(8,iV ay.1)] L s (Ao rI b5 dj ea Y.1/\OL 22 (rL rI) b5 ac ag aw Y.2.2.2)) ?_ ?_);rintro _ _ ⟨b5,dj,ea,ac,ag,aw,rfl,rfl,hP,hQ,hR,hS⟩;let⟨mJ,hT,hU⟩:=bs hO;refine C 5 V (Cc 0 (Ko hR hT) V V J4 hQ V ?_);rintro _ eb _ ff ⟨hV,hW,rfl,rfl,hX⟩ hY;let⟨ai,h0,h1⟩:=bs hU;refine C 2 V (BF (λL s=>∃(b6:LH) (bo:Aq) (bv:Nat) (a0:Aq) (a2:Nat) (ca:Seg),Jn eb H b6 [bX bk #[sV bo ai.1 bv,iV ai.2.1,.int .u64 ((ai.2.2.1:Nat):Int)] 43,bX O #[nS,nS] 28,bX U #[sV ac Y.2.2.2 ag,sV a0 ai.2.2.2 a2] 28,aw,ca] [(6,Al O 0),(7,Al U 0)] L s (Ao rI b6 bo bv ai.1/\OL 47 Ay b6 a0 a2 ca ai.2.2.2)) ?_ ?_);rintro _ _ ⟨b6,bo,bv,a0,a2,ca,rfl,rfl,fk,fl,h2,h3⟩;refine C 2 V (An V (λρ h=>IV (vs:=[sV ac Y.2.2.2 ag,sV a0 ai.2.2.2 a2]) Fi CK (h _ _ V) (Hq (off:=0) 2 fl V V)) ?_);refine JS.sx 1 fl CK λh4=>?_;refine BS (S':=[[(bk,.cells #[sV bo ai.1 bv,iV ai.2.1,.int .u64 ((ai.2.2.1:Nat):Int)] 43 (0,0))],[(O,.cells #[sV ac Y.2.2.2 ag,sV a0 ai.2.2.2 a2] 28 (0,0))],[(U,.cells #[sV ac Y.2.2.2 ag,sV a0 ai.2.2.2 a2] 28 (0,0))],aw,ca]) V h4 λh5=>JL.done (Cp 3 (hS.Ah (ff.Ad fk)) h5 V λmK ec h6 h7=>?_);refine Cp 4 (h3.Ah ec) h7 V λmL ed h8 h9=>JS.drop 2 h9 V λfm=>?_;cases h1;refine JL.ret (v:=.agg #[sV ac Y.2.2.2 ag,sV a0 ai.2.2.2 a2]) V V (BL.list func5 V (vs:=[.agg #[sV ac Y.2.2.2 ag,sV a0 ai.2.2.2 a2]]) ⟨⟨_,V,Ld.many (vs:=[sV ac Y.2.2.2 ag,sV a0 ai.2.2.2 a2]) Fi CK (Hq (off:=0) 1 fm V V)⟩,trivial⟩) (EO 1 fm V λia=>?_);exact hv ((((((hA.Ad hI).Ad hP).Ad ff).Ad fk).Ad ec).Ad ed) V ⟨ac,ag,a0,a2,bo,bv,V,V,(h6.Ah ed),h8,(h2.Ah (ec.Ad ed))⟩ ia;intro ih;refine JL.block (Cr h0 (λL s am=>∃(bw:LH) (a3:Aq) (a4:Nat) (a6:Seg) (cc:Aq) (ce:Nat),Jn eb H bw [bX bk #[sV cc am.2.1 ce,iV am.2.2.1,.int .u64 ((am.2.2.2.1:Nat):Int)] 43,bX O #[nS,nS] 28,bX U #[sV ac Y.2.2.2 ag,sV a3 am.1 a4] 28,aw,a6] [(0,Al bk 0),(6,Al O 0),(7,Al U 0),(8,iV ay.1),(13,iV am.2.2.2.2)] L s (OL 47 Ay bw a3 a4 a6 am.1/\Ao rI bw cc ce am.2.1)) ⟨eb,none,0,[],hV,hW,V,V,AR,hY,OL.nil,hX⟩ ?_);rintro _ _ am ⟨bw,a3,a4,a6,cc,ce,rfl,rfl,ci,co,cp,ee⟩ ii ⟨mM,bx⟩ ef;have fo:=bx;unfold P1 at fo;refine C 6 V (A5 fo (λio i0=>?_) (λio i1=>?_));refine C 3 V (FH 6 λfs=>?_);refine JG.fd 0 fs underlying28 Hp V V V V (Bb fs V [2,3] V ?_);let⟨K,fv,eg⟩:=bs i0;refine GQ (i:=1) (j:=4) V (by decide+kernel) ?_ ?_;refine Take.y0 (v:=sV a3 am.1 a4) V V V (λρ h=>Yl.load Jp (h _ _ V) (B8 (j:=2) co V V)) (JG.one (i:=4) V (by decide+kernel) ?_);refine Take.Wa (vs:=[Al bk 0,iV ay.1]) 0 co (WV ee fv) V V V (A8 func15 V) V V ?_;rintro _ mO _ fw ⟨ej,ek,rfl,rfl,i3⟩ i4;refine JG.one (i:=5) V (by decide+kernel) (Take.FK (pp:=Ay) [.agg #[iV K.1.1,iV K.1.2.1,iV K.1.2.2]] ([K.1]:AE) i4 V V V underlying26 Bx BT (by decide) V V V ⟨⟨_,_,V,V,⟨_,_,V,V,V⟩⟩,trivial⟩ λmP i5 i6 i7=>?_);refine Dc [6,7,8] (BS (S':=[[(bk,.cells #[sV ej K.2.1 ek,iV K.2.2.1,.int .u64 ((K.2.2.2:Nat):Int)] 43 (0,0))],[(O,.cells #[nS,nS] 28 (0,0))],[(U,.cells #[sV ac Y.2.2.2 ag,sV a3 am.1 a4] 28 (0,0))],aw,a6,i5]) V i7 λi8=>?_);refine Cp 5 i6 i8 V λi9 el jj jt=>?_;let⟨fN,jy,j0⟩:=bs eg;refine Jy (pp:=Ay) 4 jy V V V V V V V underlying26 underlying26 Bx (Dv type47) BT V (by decide) (by decide) (cp.Ah (fw.Ad el)) jj jt V λgc ge gg j1 kb=>JL.fd underlying28 Hp V V V (JS.sx 2 kb Hp λkc=>?_);refine BS (S':=[[(bk,.cells #[sV ej K.2.1 ek,iV K.2.2.1,.int .u64 ((K.2.2.2:Nat):Int)] 43 (0,0))],[(O,.cells #[nS,nS] 28 (0,0))],[(U,.cells #[sV ac Y.2.2.2 ag,sV gc fN ge] 28 (0,0))],aw,gg,[]]) V kc λke=>?_;let⟨kf,ki,kn⟩:=bs j0;refine C 4 V (BW ki V V V ?_);refine C 2 V ?_;cases kn;exact AH (ef _ _ (fN,K.2.1,K.2.2.1,K.2.2.2,kf) ⟨i9,gc,ge,gg,ej,ek,V,V,((ci.Ad fw).Ad el),ke,j1,(i3.Ah el)⟩ bx) V;refine Take.Wa (vs:=[Al bk 0,iV ay.1]) 0 co (WV ee fv) V V V (A8 func15 V) V V ?_;rintro _ mQ _ ct ⟨bb,be,rfl,rfl,gh⟩ em;refine GQ (i:=1) (j:=5) V (by decide+kernel) ?_ ?_;refine Take.y0 (v:=sV a3 am.1 a4) V V V (λρ h=>Yl.load Jp (h _ _ V) (B8 (j:=2) em V V)) (JG.one (i:=5) V (by decide+kernel) ?_);refine Take.FK (pp:=Ay) [.agg #[iV K.1.1,iV K.1.2.1,iV K.1.2.2]] ([K.1]:AE) em V V V underlying26 Bx BT (by decide) V V V ⟨⟨_,_,V,V,⟨_,_,V,V,V⟩⟩,trivial⟩ λmR ko kp ks=>Dc [6,7,8] (BS (S':=[[(bk,.cells #[sV bb K.2.1 be,iV K.2.2.1,.int .u64 ((K.2.2.2:Nat):Int)] 43 (0,0))],[(O,.cells #[nS,nS] 28 (0,0))],[(U,.cells #[sV ac Y.2.2.2 ag,sV a3 am.1 a4] 28 (0,0))],aw,a6,ko]) V ks λkv=>?_);refine Cp 5 kp kv V λkK eo kL kM=>?_;let⟨gt,kN,kO⟩:=bs eg;refine Jy (pp:=Ay) 4 kN V V V V V V V underlying26 underlying26 Bx (Dv type47) BT V (by decide) (by decide) (cp.Ah (ct.Ad eo)) kL kM V λgE gO g3 kP kQ=>JL.fd underlying28 Hp V V V (JS.sx 2 kQ Hp λkR=>?_);refine BS (S':=[[(bk,.cells #[sV bb K.2.1 be,iV K.2.2.1,.int .u64 ((K.2.2.2:Nat):Int)] 43 (0,0))],[(O,.cells #[nS,nS] 28 (0,0))],[(U,.cells #[sV ac Y.2.2.2 ag,sV gE gt gO] 28 (0,0))],aw,g3,[]]) V kR λkS=>?_;obtain⟨kT,kU,kV⟩:=bs kO;refine C 4 V (BW kU V V V ?_);refine C 2 V ?_;cases kV;exact AH (ef _ _ (gt,K.2.1,K.2.2.1,K.2.2.2,kT) ⟨kK,gE,gO,g3,bb,be,V,V,((ci.Ad ct).Ad eo),kS,kP,(gh.Ah eo)⟩ bx) V;refine Take.FK (pp:=Ay) [.agg #[iV K.1.1,iV K.1.2.1,iV K.1.2.2]] ([K.1]:AE) em V V V underlying26 Bx BT (by decide) V V V ⟨⟨_,_,V,V,⟨_,_,V,V,V⟩⟩,trivial⟩ λmS kW kX g4=>JG.one (i:=1) V (by decide+kernel) (Take.y0 (v:=sV a3 am.1 a4) V V V (λρ h=>Yl.load Jp (h _ _ V) (B8 (j:=2) g4 V V)) ?_);refine Dc [6,7,8] (BS (S':=[[(bk,.cells #[sV bb K.2.1 be,iV K.2.2.1,.int .u64 ((K.2.2.2:Nat):Int)] 43 (0,0))],[(O,.cells #[nS,nS] 28 (0,0))],[(U,.cells #[sV ac Y.2.2.2 ag,sV a3 am.1 a4] 28 (0,0))],aw,a6,kW]) V g4 λkY=>?_);refine Cp 5 kX kY V λkZ ep k0 k1=>?_;let⟨g5,k2,k3⟩:=bs eg;refine Jy (pp:=Ay) 4 k2 V V V V V V V underlying26 underlying26 Bx (Dv type47) BT V (by decide) (by decide) (cp.Ah (ct.Ad ep)) k0 k1 V λg6 g7 g8 k4 k5=>JL.fd underlying28 Hp V V V (JS.sx 2 k5 Hp λk6=>?_);refine BS (S':=[[(bk,.cells #[sV bb K.2.1 be,iV K.2.2.1,.int .u64 ((K.2.2.2:Nat):Int)] 43 (0,0))],[(O,.cells #[nS,nS] 28 (0,0))],[(U,.cells #[sV ac Y.2.2.2 ag,sV g6 g5 g7] 28 (0,0))],aw,g8,[]]) V k6 λk7=>?_;let⟨k8,k9,la⟩:=bs k3;refine C 4 V (BW k9 V V V ?_);refine C 2 V ?_;cases la;exact AH (ef _ _ (g5,K.2.1,K.2.2.1,K.2.2.2,k8) ⟨kZ,g6,g7,g8,bb,be,V,V,((ci.Ad ct).Ad ep),k7,k4,(gh.Ah ep)⟩ bx) V;refine JL.exit V ?_;cases i1;obtain rfl:=ii _ bx;exact AH (ih _ _ ⟨bw,cc,ce,a3,a4,a6,V,V,ci,co,ee,cp⟩) V;intro lb;refine JL.block (Cr hN (λL s Z=>∃(bz:LH) (ap:Aq) (aq:Nat) (az:Seg) (cw:Aq) (cy:Nat),Jn dd H bz [bX bk #[sV cw Z.2.1 cy,iV Z.2.2.1,.int .u64 ((Z.2.2.2.1:Nat):Int)] 43,bX O #[nS,nS] 28,bX U #[sV ap Z.1 aq,nS] 28,az] [(0,Al bk 0),(2,iV p2),(6,Al O 0),(7,Al U 0),(8,iV ay.1),(9,.bool b4.1),(10,iV Z.2.2.2.2)] L s (OL 22 (rL rI) bz ap aq az Z.1/\Ao rI bz cw cy Z.2.1)) ⟨dd,none,0,[],hJ,hK,V,V,AR,hM,OL.nil,hL⟩ ?_);rintro _ _ Z ⟨bz,ap,aq,az,cw,cy,rfl,rfl,ha,hb,hc,he⟩ ld ⟨mT,er⟩ lf;have hf:=er;unfold P3 at hf;refine C 7 V (A5 hf (λlg lh=>?_) (λlg li=>?_));let⟨mU,lj,ll⟩:=bs lh;refine C 11 V (Cc 0 (Ko he lj) V V J4 hb V ?_);rintro _ eu _ hg ⟨lm,lq,rfl,rfl,lr⟩ ls;let⟨av,lu,lw⟩:=bs ll;refine C 2 V (BF (λL s=>∃(c0:LH) (c1:Aq) (c3:Nat) (ew:Seg) (b0:Aq) (b1:Nat),Jn eu H c0 [bX bk #[sV b0 av.2.1 b1,iV av.2.2.1,.int .u64 ((av.2.2.2:Nat):Int)] 43,bX O #[nS,nS] 28,bX U #[sV ap Z.1 aq,nS] 28,az,ew] [(0,Al bk 0),(2,iV p2),(6,Al O 0),(7,Al U 0),(8,iV ay.1),(9,.bool b4.1),(10,iV Z.2.2.2.2),(11,sV c1 av.1 c3)] L s (OL 3 rI c0 c1 c3 ew av.1/\Ao rI c0 b0 b1 av.2.1)) ?_ ?_);rintro _ _ ⟨c0,c1,c3,ew,b0,b1,rfl,rfl,hj,hk,lx,lz⟩;refine JL.region (JL.fd underlying28 Fj V V V ?_);refine An (v:=sV ap Z.1 aq) V (λρ h=>Yl.load Fy (h _ _ V) (B8 (j:=2) (off:=0) hk V V)) (C 1 V ?_);refine Cp 4 lx hk V λlA ex lB lC=>BS (S':=[[(bk,.cells #[sV b0 av.2.1 b1,iV av.2.2.1,.int .u64 ((av.2.2.2:Nat):Int)] 43 (0,0))],[(O,.cells #[nS,nS] 28 (0,0))],[(U,.cells #[sV ap Z.1 aq,nS] 28 (0,0))],az,[]]) V lC λlD=>?_;let⟨lE,lF,lG⟩:=bs lw;refine JS.app (pp:=(rL rI)) (v:=sV c1 av.1 c3) (a:=ap) (c:=aq) 3 lF V V V V (λ_=>V) V (λ_=>V) V V V underlying25 underlying25 underlying25 Fz (Dv type22) Mh V (by decide) (by decide) (by decide) (by decide) (hc.Ah ((hg.Ad hj).Ad ex)) ⟨_,_,V,lB⟩ lD V λmV lH lI lJ lK lL=>JL.fd underlying28 Fj V V V (JS.sx 2 lL Fj λlM=>?_);let⟨lN,lO,lP⟩:=bs lG;refine C 4 V (BE lO V V V ?_);refine C 2 V ?_;cases lP;exact AH (lf _ _ (lE,av.2.1,av.2.2.1,av.2.2.2,lN) ⟨lA,lH,lI,lJ,b0,b1,V,V,(((ha.Ad hg).Ad hj).Ad ex),lM,lK,(lz.Ah ex)⟩ er) V;intro lQ;refine JL.block (Cr lu (λL s al=>∃(a7:LH) (a8:Aq) (a9:Nat) (bi:Aq) (bn:Nat) (b2:Seg),Jn eu H a7 [bX bk #[sV a8 al.1 a9,iV al.2.1,.int .u64 ((al.2.2.1:Nat):Int)] 43,bX O #[nS,nS] 28,bX U #[sV ap Z.1 aq,nS] 28,az,b2] [(0,Al bk 0),(2,iV p2),(6,Al O 0),(7,Al U 0),(8,iV ay.1),(9,.bool b4.1),(10,iV Z.2.2.2.2),(11,sV bi al.2.2.2.1 bn),(12,iV al.2.2.2.2)] L s (Ao rI a7 a8 a9 al.1/\OL 3 rI a7 bi bn b2 al.2.2.2.1)) ⟨eu,lm,lq,none,0,[],V,V,AR,ls,lr,OL.nil⟩ ?_);rintro _ _ al ⟨a7,a8,a9,bi,bn,b2,rfl,rfl,hl,ey,eA,eC⟩ lR ⟨mW,eN⟩ lS;have hm:=eN;unfold PF at hm;refine C 6 V (A5 hm (λlT lU=>?_) (λlT lV=>?_));let⟨a5,lW,lX⟩:=bs lU;refine C 7 V (BF (λL s=>∃(b3:LH) (c4:Aq) (c5:Nat) (c6:Seg) (c7:Aq) (c8:Nat),Jn a7 H b3 [bX bk #[sV c7 a5.2.1 c8,iV a5.2.2.1,.int .u64 ((a5.2.2.2:Nat):Int)] 43,bX O #[nS,nS] 28,bX U #[sV ap Z.1 aq,nS] 28,az,c6] [(0,Al bk 0),(2,iV p2),(6,Al O 0),(7,Al U 0),(8,iV ay.1),(9,.bool b4.1),(10,iV Z.2.2.2.2),(11,sV c4 a5.1 c5),(12,iV al.2.2.2.2)] L s (OL 3 rI b3 c4 c5 c6 a5.1/\Ao rI b3 c7 c8 a5.2.1)) ?_ ?_);rintro _ _ ⟨b3,c4,c5,c6,c7,c8,rfl,rfl,lY,lZ,l3,l4⟩;let⟨l5,l6,l7⟩:=bs lX;refine C 3 V (BW l6 V V V ?_);refine C 2 V ?_;cases l7;exact AH (lS _ _ (a5.2.1,a5.2.2.1,a5.2.2.2,a5.1,l5) ⟨b3,c7,c8,c4,c5,c6,V,V,(hl.Ad lY),lZ,l4,l3⟩ eN) V;intro hn;refine CH lW (λl8 l9=>?_) (λl8 ma=>?_);let⟨mX,mb,mc⟩:=bs l9;refine C 2 V (JS.app (pp:=rI) (v:=iV 1) (a:=bi) (c:=bn) 4 mb V V V V (λ_=>V) V (λ_=>V) V V V underlying22 underlying22 underlying22 AO (Dv type3) CJ V (by decide) (by decide) (by decide) (by decide) eC V ey V λmY md me ho mf mg=>?_);refine BS (S':=[[(bk,.cells #[sV a8 al.1 a9,iV al.2.1,.int .u64 ((al.2.2.1:Nat):Int)] 43 (0,0))],[(O,.cells #[nS,nS] 28 (0,0))],[(U,.cells #[sV ap Z.1 aq,nS] 28 (0,0))],az,ho]) V mg λmh=>C 2 V ?_;cases mc;exact AH (hn _ _ ⟨a7,md,me,ho,a8,a9,V,V,AR,mh,mf,eA⟩) V;refine C 3 V (Gx (pp:=rI) [iV 1,iV 1,iV 2,iV 2,iV 3,iV 5] [1,1,2,2,3,5] V V V underlying22 AO CJ (by decide) V V V ⟨V,V,V,V,V,V,trivial⟩ ey λmZ mi mj mm=>?_);refine BS (S':=[[(bk,.cells #[sV a8 al.1 a9,iV al.2.1,.int .u64 ((al.2.2.1:Nat):Int)] 43 (0,0))],[(O,.cells #[nS,nS] 28 (0,0))],[(U,.cells #[sV ap Z.1 aq,nS] 28 (0,0))],az,b2,mi]) V mm λmo=>Cp 5 mj mo V λm0 e0 mp mq=>?_;let⟨c9,mr,ms⟩:=bs ma;refine Cc 0 (W8 (eA.Ah e0) mp mr) V V (A8 func14 V) mq V ?_;rintro _ mv _ hp ⟨hq,hr,rfl,rfl,mw⟩ my;let⟨m1,mz,mB⟩:=bs ms;refine JS.app (pp:=rI) (v:=iV c9.1) (a:=bi) (c:=bn) 4 mz V V V V (λ_=>V) V (λ_=>V) V V V underlying22 underlying22 underlying22 AO (Dv type3) CJ V (by decide) (by decide) (by decide) (by decide) (eC.Ah (e0.Ad hp)) V my V λm2 mC mD hs mE mF=>BS (S':=[[(bk,.cells #[sV hq c9.2.1 hr,iV c9.2.2.1,.int .u64 ((c9.2.2.2:Nat):Int)] 43 (0,0))],[(O,.cells #[nS,nS] 28 (0,0))],[(U,.cells #[sV ap Z.1 aq,nS] 28 (0,0))],az,hs,[]]) V mF λmG=>C 2 V ?_;cases mB;exact AH (hn _ _ ⟨mv,mC,mD,hs,hq,hr,V,V,(e0.Ad hp),mG,mE,mw⟩) V;refine JL.exit V ?_;cases lV;obtain rfl:=lR _ eN;exact AH (lQ _ _ ⟨a7,bi,bn,b2,a8,a9,V,V,hl,ey,eC,eA⟩) V;refine JL.exit V ?_;cases li;obtain rfl:=ld _ er;exact AH (lb _ _ ⟨bz,cw,cy,ap,aq,az,V,V,ha,hb,he,hc⟩) V
variable {J:Judge Tryz.prog}{E:LH}
variable {J:Judge Tryz.prog}{E:LH}
variable {J:Judge Tryz.prog}{E:LH}
def PH(fu_:Nat)(p0:Bi)(K:(List Int)×Int):Option (Bt ((List Int)×Int) ((List Int))):=if K.2<(p0.2.length:Int) then((ix p0.2 K.2).bind λO=>(ix K.1 O.1).bind λai=>(ix K.1 O.1).bind λU=>(Av (U - O.2.2)).bind λY=>(ix K.1 O.2.1).bind λZ=>(Av (Z+O.2.2)).bind λac=>(Av (K.2+1)).bind λag=>some (.more (((K.1.set (Int.toNat O.1) Y).set (Int.toNat O.2.1) ac),ag))) else(some (.done K.1))
def f55(fu_:Nat)(p0:Bi):Option ((List Int)):=(Gy (p0.1.length:Int) (0:Int)).bind λK=>Option.bind (iter (PH fu_ p0) fu_ (K,0)) λO=>some O
end Pal
namespace Pal
open Go Go.Conc
def MT(t:TypeId)(v:Value):Option Int->Prop
 | none=>v=.nilIface
 | some c=>v=.iface t (.agg #[iV c])
variable {P:Program}{s:St}{ρ:Operand->Value}{y z:Operand}{d:Option Tmp}{t u ty e:TypeId}{p:String}{af:Ae_}{g:On_}{v v':Value}
variable{ms:Array (String×TypeId)}{K:TypeId}{o:Option Int}
section
variable {x:Operand}
theorem Yr{n:Nat}(O:P.underlying t=some (.interface ms))(he:MT K v o){Q:Bool->St->Prop}{X:Halt->St->Prop}(k:Q o.isNone s):lp P (Op.equalIn (n+1) t v .nilIface) s Q X:=by
 unfold Op.equalIn;refine AA _ _ (CE O ?_);cases o with
 | none=>obtain rfl:v=.nilIface:=he;exact k
 | some q=>obtain rfl:v=.iface K (.agg #[iV q]):=he;exact k
theorem TO(O:P.underlying t=some (.interface ms))(he:MT K v o)(U:ρ x=v)(Y:ρ (.const .nilIface)=.nilIface):Yl P ⟨d,.binOp .eql t x (.const .nilIface) u,ty,p,af,g⟩ ρ s (.bool o.isNone):=by
 refine F1 (sm:=do eqGuard .eql t x (.const .nilIface) (ρ x) (ρ (.const .nilIface));binOp .eql t (ρ x) (ρ (.const .nilIface))) V ?_
 rw[U,Y];have Z:lp P (eqGuard .eql t x (.const .nilIface) v .nilIface) s (λ_ s'=>s'=s) (λ_ _=>False):=by
  cases o with
  | none=>obtain rfl:v=.nilIface:=he;simp[eqGuard,lp,pure]
  | some q=>obtain rfl:v=.iface K (.agg #[iV q]):=he;simp[eqGuard,lp,pure]
 refine AA _ _ (Es _ Z ?_ (λ_ _ h=>h));rintro _ _ rfl;have hb:binOp .eql t v .nilIface=(do pure (.bool (← Op.equal t v .nilIface))):=by
  cases o with
  | none=>obtain rfl:v=.nilIface:=he;rfl
  | some q=>obtain rfl:v=.iface K (.agg #[iV q]):=he;rfl
 rw[hb];refine AA (x:=Op.equal t v .nilIface) _ ?_;unfold Op.equal Op.maxDepth;refine Yr O he ?_;refine⟨?_,V⟩
 rfl
end
end Pal
set_option autoImplicit false
open Go
namespace Pal
variable{p2:Int}
theorem Ao.Xo{P:Program}{E:LH}{α:Type}{pp:Rp α}{a:Option Addr}{c:Nat}{xs:List α}{xv:α}(U:Ao pp E a c xs)(O:ix xs p2=some xv):
  ∃bk o ws,pp.r E ws xv/\At E bk o ws/\∀{s:St}{ρ:Operand->Value}{x y:Operand}{d:Option Tmp}{t ty e:TypeId}{p:String}{af:Ae_}{g:On_}{kd:IntKind},
   P.underlying t=some (.slice e)->Bz P e=some pp.n->ρ x=.slice a xs.length c->ρ y=.int kd p2->Yl P ⟨d,.indexAddr t x y,ty,p,af,g⟩ ρ s (.pointer (some ⟨bk,o,none⟩)):=by
 obtain⟨p2,rfl,O⟩:=Gj O;have Y:p2<xs.length:=(d0.1 O).1;obtain⟨aq,⟨rfl,_⟩ | ⟨bk,off,rfl,Z⟩⟩:=U;simp at Y
 let⟨ws,ac,ag⟩:=Z p2 xv O;refine⟨bk,off+p2*pp.n,ws,ac,ag,λ{s ρ x y d t ty e p af g kd} ai al am ap=>?_⟩;have:=Ng (P:=P) (s:=s) (d:=d) (ty:=ty) (p:=p) (af:=af) (g:=g) ai al am ap ⟨by omega,by omega⟩;rw[Et rfl] at this;simpa using this
open Go Go.Conc Go.Proofs
variable {J:Judge Tryz.prog}{E:LH}
def NT(fu_:Nat)(p0:Nat)(p1:Int)(p2:Int):Option (Nat):=
 (f106 fu_ p1 p2).bind λx1=>
 (P5 p0 x1).bind λK=>
 some K
variable{fu_ r:Nat}
theorem iI{p0:Nat}{p1:Int}(K:NT fu_ p0 p1 p2=some r):AW J 47 [.int .u32 ((p0:Nat):Int),iV p1,iV p2] E [] (λw E' B'=>w=.int .u32 ((r:Nat):Int)/\B'=[]):=by
 refine Bs Tryz.func47 λQ ap cs H O U=>?_;unfold NT at K;let⟨x1,Y,Z⟩:=bs K;refine C 9 V (CW (Wm Y) V V (A8 Tryz.func72 V) O λaq ac ag=>?_);let⟨ai,al,am⟩:=bs Z;refine An (v:=.int .u32 ((ai:Nat):Int)) V (λρ h=>bh (h _ _ V) (h _ _ V) al) (C 2 V ?_);cases am;exact A4 Tryz.func47 V V (U ac V ⟨V,V⟩ ag)
def Py(fu_:Nat)(p0:Bi)(p1:AE)(K:(List Int)×Nat×Int):Option (Bt ((List Int)×Nat×Int) (((Option Int))⊕((List Int)))):=
 if K.2.2<((p1).length:Int) then(
  (ix p1 (K.2.2)).bind λO=>
  (f86 fu_ O ((p0.1).length:Int) 72).bind λU=>
  if U≠0 then(
   some (.done (Sum.inl (some (U))))
  ) else(
   (f136 fu_ K.2.1 O.1 O.2.1).bind λY=>
   if Y=true then(
    some (.done (Sum.inl (some (4))))
   ) else(
    (NT fu_ K.2.1 O.1 O.2.1).bind λZ=>
    (ML fu_ K.1 O).bind λac=>
    (Av (K.2.2+1)).bind λag=>
    some (.more (ac,Z,ag))
   )
  )
 ) else(
  some (.done (Sum.inr K.1))
 )
def NR(fu_:Nat)(p0:Bi)(p1:AE):Option ((Option Int)):=
 if 8<((p1).length:Int) then(
  some (some (6))
 ) else(
  (f84 fu_ p0).bind λK=>
  Option.bind (iter (Py fu_ p0 p1) fu_ (K,0,0)) λO=>
  Sum.elim (λr=>some r) (λU=>
  if U≠(List.replicate 5 (0:Int)) then(
   some (some (9))
  ) else(
   some none
  )
  ) O
 )
variable{c2:Nat}
theorem fT{a1 b0:Aq}{b1:Nat}{a9:Aq}{bb:Nat}{p0:Bi}{p1:AE}(cw:Ao (rL rI) E a1 c2 (p0.1))(cy:Ao Ay E b0 b1 (p0.2))(c0:Ao Ay E a9 bb (p1)){r:(Option Int)}(b2:NR fu_ p0 p1=some r):AW J 23 [.agg #[.slice a1 (p0.1).length c2,.slice b0 (p0.2).length b1],.slice a9 (p1).length bb] E [] (λw E' B'=>∃(b3:Value),w=b3/\B'=[]/\MT 87 b3 (r)):=by
 refine Bs Tryz.func23 λQ gO cs H c1 av=>?_;unfold NR at b2;refine C 2 V (DX c1 λc3 g3 U b4 b5=>?_);refine C 6 V (JL.ln Tryz.underlying26 V V V ?_);refine C 2 V (A5 b2 (λc4 c5=>?_) (λc4 c6=>?_));refine C 2 V (An (v:=.agg #[iV 6]) V (λρ h=>C5 [(0,1)] h Mg Tryz.underlying87 ⟨V,A2 Tryz.type34,trivial⟩ V V) ?_);refine An (v:=.iface 87 (.agg #[iV 6])) V (λρ h=>J6 Tryz.underlying87 (λ_ h=>by cases h) (h _ _ V)) (C 2 V ?_);cases c5;exact A4 Tryz.func23 V V (av U V ⟨.iface 87 (.agg #[iV 6]),V,V,V⟩ b5);refine C 7 V (Cf b4 F0 Ef V V ?_);let⟨g4,c7,c8⟩:=bs c6;refine B4 (Qf (cw.Ah U) (cy.Ah U) c7) V V Oh b5 ?_;rintro _ aw _ ai ⟨be,rfl,rfl,ay⟩ c9;refine B3 c9 KD λaz dd=>?_;refine Hr (v:=.agg be.toArray) (l:=[]) (ws:=(List.replicate 5 (iV 0):Lv_)) (us:=be) (o:=0) 3 V V V dd V V V (by rw[B9 (kk:=5) (pp:=rI) ay];exact A2 Tryz.type91) ((rA 5 rI).one ay) V (by rw[B9 (kk:=5) (pp:=rI) ay,B9 (kk:=5) (pp:=rI) (Gw (E:=aw) (pp:=rI) rfl)];omega) λb6=>?_;rw[Jt (by rw[B9 (kk:=5) (pp:=rI) ay,B9 (kk:=5) (pp:=rI) (Gw (E:=aw) (pp:=rI) rfl)])] at b6 ⊢;refine C 5 V (JL.ln Tryz.underlying26 V V V ?_);let⟨ca,dj,bi⟩:=bs c8;refine C 2 V (BF (λL s=>∃(a0:(List Int)) (al:LH) (a2:Lv_),ca=Sum.inr a0/\Jn aw H al [[(az,.cells (([]:Lv_)++a2).toArray 91 (0,0))]] [(6,.pointer (some ⟨az,0,none⟩))] L s ((rA 5 rI).r al a2 (a0))) ?_ ?_);rintro _ _ ⟨a0,al,a2,rfl,rfl,rfl,cc,bn,ce⟩;have ea:=elim_inr bi;refine C 3 V (An (v:=.agg a2.toArray) V (λρ h=>HL (kk:=5) (pp:=rI) ce Ic IM (h _ _ V) (Ha (l:=[]) 0 bn V)) ?_);refine An (v:=.agg (List.replicate 5 (iV 0):Lv_).toArray) V (λρ h=>US Tryz.underlying91 KD AO V) (An (v:=.bool (decide (a0≠(List.replicate 5 (0:Int))))) V (λρ h=>RO (E:=al) (E':=al) (ws:=a2) (ws':=(List.replicate 5 (iV 0):Lv_)) (a:=a0) (b:=(List.replicate 5 (0:Int))) V7 (by decide) (by decide+kernel) ce (Gw (E:=al) (pp:=rI) V) (h _ _ V) (h _ _ V)) ?_);refine JL.done (A5 ea (λeb ec=>?_) (λeb ed=>?_));refine C 2 V (An (v:=.agg #[iV 9]) V (λρ h=>C5 [(0,1)] h Mg Tryz.underlying87 ⟨V,A2 Tryz.type34,trivial⟩ V V) ?_);refine An (v:=.iface 87 (.agg #[iV 9])) V (λρ h=>J6 Tryz.underlying87 (λ_ h=>by cases h) (h _ _ V)) (C 2 V ?_);refine JS.drop 0 bn V λee=>?_;cases ec;exact A4 Tryz.func23 V V (av ((U.trans ai).trans cc) V ⟨.iface 87 (.agg #[iV 9]),V,V,V⟩ ee);refine C 5 V (JS.drop 0 bn V λef=>?_);cases ed;exact A4 Tryz.func23 V V (av ((U.trans ai).trans cc) V ⟨.nilIface,V,V,V⟩ ef);intro eg;refine JL.block (Cr dj (λL s Z=>∃(a7:LH) (am:Lv_),Jn aw H a7 [[(az,.cells (([]:Lv_)++am).toArray 91 (0,0))]] [(2,.pointer (some ⟨c3,0,none⟩)),(5,.int .u32 ((Z.2.1:Nat):Int)),(6,.pointer (some ⟨az,0,none⟩)),(17,.slice a9 (p1).length bb),(18,iV ((p1).length:Int)),(19,iV Z.2.2)] L s ((rA 5 rI).r a7 am (Z.1))) ⟨aw,be,V,V,(Le.refl _),b6,ay⟩ ?_);rintro _ _ Z ⟨a7,am,rfl,rfl,ap,ci,a3⟩ bo ⟨g5,a4⟩ ej;have co:=a4;unfold Py at co;refine C 5 V (A5 co (λek el=>?_) (λek em=>?_));let⟨a5,eo,ep⟩:=bs el;refine C 5 V (JS.ix (c0.Ah ((U.trans ai).trans ap)) eo Tryz.underlying26 Bx ?_);rintro g6 g7 _ ⟨_,_,rfl,rfl,⟨_,_,rfl,rfl,rfl⟩⟩ er;refine Cf er Eh Bx V V (B3 ci BT λg8 eu=>?_);refine JS.sx 1 eu Bx λew=>?_;refine Dl 1 ew V λha Y aq ex=>C 4 V (Cf aq Eh Bx V V ?_);refine JL.fd Tryz.underlying55 CK V V V (Cg 0 (b4.Ah ((ai.trans ap).trans Y)) Tryz.underlying28 Fj Fy ?_);refine JL.ln Tryz.underlying25 V V V ?_;let⟨bv,ey,eA⟩:=bs ep;refine CW (Xi ey) V V (A8 Tryz.func45 V) ex λhb K cp=>C 7 V (A5 eA (λeC eN=>?_) (λeC e0=>?_));refine C 3 V (An (v:=.agg #[iV bv]) V (λρ h=>C5 [(0,1)] h Mg Tryz.underlying87 ⟨V,A2 Tryz.type34,trivial⟩ V V) ?_);refine An (v:=.iface 87 (.agg #[iV bv])) V (λρ h=>J6 Tryz.underlying87 (λ_ h=>by cases h) (h _ _ V)) (C 2 V ?_);refine JS.drop 0 cp V λe1=>?_;cases eN;obtain rfl:=bo _ a4;have e3:=elim_inl bi;cases e3;exact A4 Tryz.func23 V V (av ((((U.trans ai).trans ap).trans Y).trans K) V ⟨.iface 87 (.agg #[iV bv]),V,V,V⟩ e1);refine C 5 V (Cg 0 (aq.Ah K) Tryz.underlying47 AO Br ?_);refine Cg 1 (aq.Ah K) Tryz.underlying47 AO Br ?_;let⟨hc,e4,e5⟩:=bs e0;refine CW (Ws e4) V V (A8 Tryz.func46 V) cp λhe O ac=>JL.done (CH e5 (λe6 e7=>?_) (λe6 e8=>?_));refine C 2 V (An (v:=.agg #[iV 4]) V (λρ h=>C5 [(0,1)] h Mg Tryz.underlying87 ⟨V,A2 Tryz.type34,trivial⟩ V V) ?_);refine An (v:=.iface 87 (.agg #[iV 4])) V (λρ h=>J6 Tryz.underlying87 (λ_ h=>by cases h) (h _ _ V)) (C 2 V ?_);refine JS.drop 0 ac V λff=>?_;cases e7;obtain rfl:=bo _ a4;have fk:=elim_inl bi;cases fk;exact A4 Tryz.func23 V V (av (((((U.trans ai).trans ap).trans Y).trans K).trans O) V ⟨.iface 87 (.agg #[iV 4]),V,V,V⟩ ff);refine JL.skip (Eu 8 [az] ⟨⟨0,_,V⟩,trivial⟩ ac λag=>?_);refine Dr 0 ag V V (JG.fd 1 ag Tryz.underlying47 AO V V V V ?_);refine JG.lp 2 ag 0 (aq.Ah (K.trans O)) ac ⟨⟨0,_,V⟩,trivial⟩ Br ?_;refine JG.fd 3 ag Tryz.underlying47 AO V V V V (JG.lp 4 ag 1 (aq.Ah (K.trans O)) ac ⟨⟨0,_,V⟩,trivial⟩ Br ?_);refine AS (v:=.agg am.toArray) 6 ag V V (λρ h s' bw=>HL (kk:=5) (pp:=rI) (Rp.Ah _ ((Y.trans K).trans O) a3) Ic IM (h _ _ V) (UI (l:=[]) 0 ac V (by simp[Az]) bw)) (AS 7 ag V V (λρ h s' bw=>IV (vs:=[iV a5.1,iV a5.2.1,iV a5.2.2]) Eh Bx (h _ _ V) (At.R2 (aq.Ah (K.trans O)) (W0 ac bw ⟨⟨0,_,V⟩,trivial⟩))) ?_);let⟨fl,fm,fo⟩:=bs e8;refine aT (i:=5) ⟨⟨0,_,V⟩,trivial⟩ (vs:=[.int .u32 ((Z.2.1:Nat):Int),iV a5.1,iV a5.2.1]) (iI fm) (by decide+kernel) V V V (A8 Tryz.func47 V) V ac ?_;rintro _ hf _ a8 ⟨rfl,rfl⟩ fs;refine Dc [8,9,10] ?_;let⟨fv,fw,fN⟩:=bs fo;refine B4 (Iu (Rp.Ah _ (((Y.trans K).trans O).trans a8) a3) fw) V V Ig fs ?_;rintro _ gc _ bx ⟨bz,rfl,rfl,a6⟩ ge;refine C 1 V (Hr (v:=.agg bz.toArray) (l:=[]) (ws:=am) (us:=bz) (o:=0) 0 V V V ge V V V (by rw[B9 (kk:=5) (pp:=rI) a6];exact A2 Tryz.type91) ((rA 5 rI).one a6) V (by rw[B9 (kk:=5) (pp:=rI) a6,B9 (kk:=5) (pp:=rI) (Rp.Ah _ ((((Y.trans K).trans O).trans a8).trans bx) a3)];omega) λct=>?_);rw[Jt (by rw[B9 (kk:=5) (pp:=rI) a6,B9 (kk:=5) (pp:=rI) (Rp.Ah _ ((((Y.trans K).trans O).trans a8).trans bx) a3)])] at ct ⊢;let⟨gg,gh,gt⟩:=bs fN;refine C 3 V (BE gh V V V ?_);refine C 2 V ?_;cases gt;exact AH (ej _ _ (fv,fl,gg) ⟨gc,bz,V,V,(((((ap.trans Y).trans K).trans O).trans a8).trans bx),ct,a6⟩ a4) V;refine JL.exit V ?_;cases em;have gE:ca=(Sum.inr Z.1):=(bo _ a4).symm;exact AH (eg _ _ ⟨Z.1,a7,am,gE,V,V,ap,ci,a3⟩) V
def SJ(fu_:Nat):Option (Bool):=
 some false
theorem gn{O:Value}{r:Bool}(K:SJ fu_=some r):AW J 43 [.nilIface,O] E [] (λw E' B'=>w=.bool r/\B'=[]):=by
 refine Bs Tryz.func43 λQ Z cs H U Y=>?_;unfold SJ at K;refine C 8 V ?_;refine An (v:=.bool true) V (λρ h=>TO Tryz.underlying60 (show MT 0 .nilIface none from V) (h _ _ V) (h _ _ V)) (C 6 V ?_);cases K;exact A4 Tryz.func43 V V (Y (Le.refl _) V ⟨V,V⟩ U)
def SM(fu_:Nat):Option (Int):=
 (SJ fu_).bind λK=>
 if K=true then(
  some 0
 ) else(
  some 0
 )
theorem iw{r:Int}(O:SM fu_=some r):AW J 22 [.nilIface] E [] (λw E' B'=>w=iV r/\B'=[]):=by
 refine Bs Tryz.func22 λQ aw cs H Z U=>?_;unfold SM at O;refine C 6 V (B3 Z Mg λr1 ac=>?_);refine C 5 V (An (v:=(.iface 89 (.pointer (some ⟨r1,0,none⟩)))) V (λρ h=>J6 Tryz.underlying89 (λ_ h=>by cases h) (h _ _ V)) ?_);let⟨ay,ag,ai⟩:=bs O;refine CW (gn ag) V V (A8 Tryz.func43 V) ac λaz Y K=>JL.done (CH ai (λal am=>?_) (λal ap=>?_));refine C 2 V (JL.fd Tryz.underlying87 (A2 Tryz.type34) V V V ?_);refine An (v:=iV 0) V (λρ h=>Yl.load (CL Tryz.underlying34) (h _ _ V) (B8 (j:=1) (off:=0) K V V)) (C 2 V ?_);refine JS.drop 1 K V λaq=>?_;cases am;exact A4 Tryz.func22 V V (U Y V ⟨V,V⟩ aq);refine C 5 V (JS.drop 1 K V λav=>?_);cases ap;exact A4 Tryz.func22 V V (U Y V ⟨V,V⟩ av)
open Go.Extern
def R3(b:Frame)(n:Nat):Nat->Li_->Env->Li_×Env
 | 0,k,L=>(k,L)
 | m+1,k,L=>match P7 b n L k with
  | some (k',L')=>R3 b n m k' L'
  | none=>(k,L)
theorem zm{P:Program}{J:Judge P}{Q:Gs_}{b:Frame}{n:Nat}{ds:Ld_}{cs:Lf_}{s:St}:∀(m:Nat) {L L':Env}{k k':Li_},R3 b n m k L=(k',L')->JL J Q b n L' ds k' cs s->JL J Q b n L ds k cs s
 | 0,L,L',k,k',h,K=>by cases h;exact K
 | m+1,L,L',k,k',h,K=>by
  unfold R3 at h
  split at h;rename_i e;exact Wy e (zm m h K);cases h;exact K
variable{H:LH}{S:List Seg}
theorem U3{E:LH}{o:Obj}(K:Au E H S)(O:(Ak E H S).E r=none)(U:(Ak E H S).H r=none):Au E H (S++ [[(r,o)]])/\(Ak E H S).upd r o=Ak E H (S++ [[(r,o)]]):=by
 let⟨a,b⟩:=KM O U o K;let⟨c,d⟩:=F2 a;exact⟨d,b.trans c⟩
variable{s:St}{X:Halt->St->Prop}{Q:Value->St->Prop}
theorem fM{o:Operand}(p:Addr):lp Tryz.prog (do eqGuard .eql 20 o (.const .nilIface) (.iface 89 (.pointer (some p))) .nilIface;binOp .eql 20 (.iface 89 (.pointer (some p))) .nilIface) s Q X=Q (.bool false) s:=by kernel_rfl
theorem aU{ρ:Operand->Value}{d:Option Tmp}{x:Operand}{u ty:TypeId}{p:String}{af:Ae_}{g:On_}{a:Addr}(K:ρ x=.iface 89 (.pointer (some a)))(O:ρ (.const .nilIface)=.nilIface):Yl Tryz.prog ⟨d,.binOp .eql 20 x (.const .nilIface) u,ty,p,af,g⟩ ρ s (.bool false):=by
 refine F1 (sm:=do eqGuard .eql 20 x (.const .nilIface) (ρ x) (ρ (.const .nilIface));binOp .eql 20 (ρ x) (ρ (.const .nilIface))) V ?_
 rw[K,O];exact(fM a).mpr ⟨V,V⟩
theorem Xy(z:Sem Value)(f:TypeId->Addr->Nat->Nat->Sem Value)(v:Value):ReflectliteValue.method z f #[v]=Sem.bind (ReflectliteValue.parts v) (λx=>match x with | none=>z | some (t,a,K)=>f t a K (K%32)):=rfl
theorem Y5(a p:Addr)(K:s.cell? a=some (.pointer (some p)))(h:Q (.bool false) s):lp Tryz.prog (ReflectliteValue.method (ReflectliteValue.valueError "reflectlite.Value.IsNil" 0) ReflectliteValue.isNil #[.agg #[FO 89,.pointer (some a),.int .u64 150]]) s Q X:=by
 rw[Xy];refine AA (x:=ReflectliteValue.parts _) _ ((TP a).mpr ?_);show lp Tryz.prog (Sem.bind (loadVar 89 a) _) s Q X;exact AA (x:=loadVar 89 a) _ ((Uj a).mpr ⟨V,_,K,h⟩)
theorem Zq(a p:Addr)(K:s.cell? a=some (.pointer (some p)))(h:Q (.agg #[FO 87,.pointer (some p),.int .u64 409]) s):lp Tryz.prog (ReflectliteValue.method (ReflectliteValue.valueError "reflectlite.Value.Elem" 0) ReflectliteValue.elem #[.agg #[FO 89,.pointer (some a),.int .u64 150]]) s Q X:=by
 rw[Xy];refine AA (x:=ReflectliteValue.parts _) _ ((TP a).mpr ?_);show lp Tryz.prog (Sem.bind (loadVar 89 a) _) s Q X;refine AA (x:=loadVar 89 a) _ ((Uj a).mpr ⟨V,_,K,?_⟩);refine AA (x:=Rtype.elem? 89) _ (db.mpr ?_);exact(iy p).mpr h
theorem kG(v x:Value):ReflectliteValue.set #[v,x]=(do
  let (some (dst,a,K),some (src,b,_)):=(← ReflectliteValue.parts v,← ReflectliteValue.parts x)
   | unsupported (.noEntry "extern/(internal/reflectlite.Value).Set.zeroValue")
  if K/ReflectliteValue.flagAddr%2==0 then unsupported (.noEntry "extern/(internal/reflectlite.Value).Set.unaddressable")
  let val ← loadVar src b
  if ← Rtype.directlyAssignable dst src then storeVar dst a val
  else if ← Rtype.implements dst src then
   if(← Rtype.kind src)==20 then
    match val with
    | .nilIface=>unsupported (.noEntry "extern/reflectlite: a nil value of one interface type handed on as a value of another")
    | _=>storeVar dst a val
   else storeVar dst a (.iface src val)
  else panicString ("reflectlite.Set: value of type " ++(← Rtype.spelt src)++ " is not assignable to type " ++(← Rtype.spelt dst))
  pure (.tuple #[])):=rfl
variable{bk:Nat}{u:Value}{c:Int}
theorem dx{E:LH}(j:Nat)(U:Au E H S)(K:S[j]?=some [(bk,.cells #[u] 87 (0,0))])(Y:At E r 0 [iV c])(h:Au E H (S.set j [(bk,.cells #[iV c] 87 (0,0))])->Q (.tuple #[]) (Ak E H (S.set j [(bk,.cells #[iV c] 87 (0,0))]))):
  lp Tryz.prog (ReflectliteValue.set #[.agg #[FO 87,.pointer (some ⟨bk,0,none⟩),.int .u64 409],.agg #[FO 87,.pointer (some ⟨r,0,none⟩),.int .u64 153]]) (Ak E H S) Q X:=by
 rw[kG];refine AA (x:=ReflectliteValue.parts _) _ ((Yj _).mpr ?_);refine AA (x:=ReflectliteValue.parts _) _ ((Zx _).mpr ?_);refine AA (x:=loadVar 87 _) _ ((aP _).mpr ⟨V,_,At.Kn (j:=0) Y V,?_⟩);refine AA (x:=Rtype.directlyAssignable 87 87) _ (dB.mpr ?_);refine AA (x:=storeVar 87 _ _) _ ?_;let⟨Z,ac⟩:=GM U K;rw[Z];refine QK (pl:=(S.set j []).flatten.length) (A2 Tryz.type87) (by simp[Value.cells,CM]) ac (c:=#[u]) (e:=87) (by simp) (by simp[Value.cells]) λO=>?_;have ag:((S.set j []).flatten++ [(bk,Obj.cells #[u] 87 (0,0))]).set (S.set j []).flatten.length (bk,.cells (A9 #[u] 0 (Value.agg #[iV c]).cells.toList) 87 (0,0))=(S.set j []).flatten++ [(bk,.cells #[iV c] 87 (0,0))]:=HO _ _ _ _;rw[ag] at O ⊢;let⟨ai,al⟩:=IY (seg':=[(bk,.cells #[iV c] 87 (0,0))]) K O;rw[ai];exact h al
variable {J:Judge Tryz.prog}{E:LH}
theorem jZ(O:At E r 0 [.pointer (some ⟨bk,0,none⟩)]):AW J 71 [.iface 87 (.agg #[iV c]),.iface 89 (.pointer (some ⟨bk,0,none⟩)),.agg #[FO 89,.pointer (some ⟨r,0,none⟩),.int .u64 150],Kt 87] E [(bk,.cells #[u] 87 (0,0))] (λv E' B'=>v=.bool true/\B'=[(bk,.cells #[iV c] 87 (0,0))]):=by
 refine MA Tryz.func71 V V λQ az cs H U Y=>zm 60 V (JS.box (v:=.agg #[FO 89,.pointer (some ⟨r,0,none⟩),.int .u64 150]) V V V U V λr2 Z=>?_);refine Dl 1 Z V λa0 K ac ag=>zm 60 V (IT ?_);refine zm 60 V (LS iP V V V V ?_);refine(YN _).mpr ?_;refine zm 60 V (NL ji (j5 _) V V V V V ?_);refine dO.mpr (zm 60 V ?_);refine Cf ac Od M5 V V (LS gj V V V V ?_);refine Zq ⟨r,0,none⟩ ⟨bk,0,none⟩ (At.Kn (j:=0) (O.Ah K) V) (zm 60 V ?_);refine LS WI V V V V ?_;refine(Ya c).mpr ⟨V,λr3 ai al=>?_⟩;let⟨am,ap⟩:=U3 (o:=.cells #[iV c] 87 (0,0)) ag ai al;rw[ap];refine Dl 2 am V λa1 aq av aw=>LS fb V V V V (dx 0 aw V av λay=>?_);refine zm 60 V (A4 Tryz.func71 V V ?_);exact Y _ _ _ _ (K.trans aq) V ⟨V,V⟩ ay
theorem gy(Z:At E 0 0 [Kt 60]):AW J 43 [.iface 87 (.agg #[iV c]),.iface 89 (.pointer (some ⟨bk,0,none⟩))] E [(bk,.cells #[u] 87 (0,0))] (λv E' B'=>v=.bool true/\B'=[(bk,.cells #[iV c] 87 (0,0))]):=by
 refine MA Tryz.func43 V V λQ a1 cs H ac ag=>zm 60 V ?_;refine An (v:=.bool false) V (λρ h=>TO Tryz.underlying60 (show MT 87 (.iface 87 (.agg #[iV c])) (some c) from V) (h _ _ V) (h _ _ V)) (zm 60 V ?_);refine An V (λρ h=>aU (h _ _ V) (h _ _ V)) (zm 60 V ?_);refine LS WI V V V V ?_;refine(X8 _).mpr ⟨V,λr ai al=>?_⟩;let⟨am,ap⟩:=U3 (o:=.cells #[.pointer (some ⟨bk,0,none⟩)] 89 (0,0)) ac ai al;rw[ap];refine JS.alloc V V V am (DJ Tryz.type138) λr2 aq=>Sm (v:=.agg #[FO 89,.pointer (some ⟨r,0,none⟩),.int .u64 150]) (off:=0) 2 aq M5 V V V V λav=>zm 60 V (Dl 1 av V λa2 U Y aw=>?_);refine Dl 2 aw V λa3 K O ay=>Cf O Od M5 V V (LS gl V V V V ?_);refine(bY _).mpr ?_;refine zm 60 V (NL Wj (Wl _) V V V V V ?_);refine bC.mpr (zm 60 V ?_);refine Cf (O) Od M5 V V (LS gB V V V V ?_);refine Y5 ⟨r,0,none⟩ ⟨bk,0,none⟩ (At.Kn (j:=0) (Y.Ah K) V) (zm 60 V ?_);refine NL iY (gZ _) V V V V V (aI.mpr ?_);refine zm 60 V (NL Wj (Wl _) V V V V V ?_);refine bu.mpr (zm 60 V ?_);refine Dw 0 (Z.Ah (U.trans K)) (CL Tryz.underlying141) V V V (NL iX (fC _) V V V V V ?_);refine ah.mpr (zm 60 V ?_);refine An (v:=.bool (!true)) V (λρ h=>Yl.not (h _ _ V)) (zm 60 V ?_);refine Cf (O) Od M5 V V (zm 60 V ?_);refine Cc 0 (jZ (Y.Ah K)) V V (A8 Tryz.func71 V) ay V ?_;rintro _ a4 _ az ⟨rfl,rfl⟩ a0;refine zm 60 V (A4 Tryz.func43 V V ?_);exact ag _ _ _ _ ((U.trans K).trans az) V ⟨V,V⟩ a0
theorem bA(K:At E 0 0 [Kt 60]):AW J 22 [.iface 87 (.agg #[iV c])] E [] (λv E' B'=>v=iV c/\B'=[]):=by
 refine MA Tryz.func22 V V λQ am cs H O U=>zm 60 V (JS.alloc V V V O Mg λr1 Y=>?_);refine zm 60 V (An V (λρ h=>J6 Tryz.underlying89 (λms e=>by cases e) (h _ _ V)) ?_);refine Cc 1 (gy (u:=iV 0) K) V V (A8 Tryz.func43 V) Y V ?_;rintro _ ap _ Z ⟨rfl,rfl⟩ ac;refine Dl 1 ac V λaq ag ai al=>zm 60 V (JL.fd Tryz.underlying87 (A2 Tryz.type34) V V V ?_);refine Dw 0 ai (CL Tryz.underlying34) V V V (zm 60 V ?_);exact A4 Tryz.func22 V V (U _ _ _ _ (Z.trans ag) V ⟨V,V⟩ al)
abbrev GE(E:LH):Prop:=At E 0 0 [Kt 60]
def Xg(fuel:Nat)(p0:Option Int):Option Int:=match p0 with
 | none=>SM fuel
 | some q=>some q
theorem dc{v:Value}{p0:Option Int}(O:GE E)(h:MT 87 v p0){r:Int}(K:Xg c2 p0=some r):AW J 22 [v] E [] (λw E' B'=>w=iV r/\B'=[]):=by
 match p0,h with
 | none,h=>obtain rfl:v=.nilIface:=h;exact iw K
 | some c,h=>
  obtain rfl:v=.iface 87 (.agg #[iV c]):=h;cases K;exact bA O
end Pal
namespace Pal
open Go Go.Conc Go.Proofs Go.ChangeShapes Go.WideShapes Go.ChangeAt Go.RowKit
open Go.Proofs.YtgpbjmfcllmohaaGreatDoor
theorem Tryz.own:ownKnob Tryz.prog.godebug=none:=by kernel_rfl
theorem Tryz.laidOut:laidOutB Tryz.prog=true:=by kernel_rfl
theorem Tryz.iL:Tryz.prog.cellsOf 3=1:=by kernel_rfl
variable{v:Value}
theorem Yg{R:Value->St->Prop}{W w':World}(h:After Tryz.prog R W (GZ W) v w'):(∃s,R v s)/\Below W.heap.size W {w' with os:=W.os}/\Go.ConcM.OsLater W.os w'.os:=by
 obtain⟨s,Y,Z,ac,ag,ai,al⟩:=h;have hb:∀k,k<W.heap.size->w'.heap[k]?=W.heap[k]? :=λk O=>by
  have K:(GZ W).E k=some W.heap[k]:=qB O;have U:=Z.e k _ (ac k _ K);rw[U,qB O]
 refine⟨⟨s,Y⟩,⟨V,ag,al,?_,hb⟩,ai⟩;show W.heap.size<=w'.heap.size;rcases q9 W.heap.size with am | am;omega;have K:=hb (W.heap.size - 1) (by omega);have ap:W.heap[W.heap.size - 1]?=some W.heap[W.heap.size - 1]:=qB (by omega);rw[ap] at K;have U:=(f4.1 K).1;omega
theorem TV(a:Addr):a.add 0=a:=by unfold Addr.add;rw[d7 rfl]
variable {H:Type}{enc:TypeId×Value->H}{W:World}{fuel:Nat}{cs:Lv_}
variable{b off:Nat}
section
variable {x:DataW H×List MemPlace}
theorem aM(h:W.cell? ⟨b,off,none⟩=some v):At (GZ W).E b off [v]:=by
 unfold World.cell? at h;split at h
 .rename_i c e f hW;simp only[sL,qe,qY] at h;refine⟨c,e,f,hW,λj w K=>?_⟩
  match j,K with
  | 0,K=>simp at K;subst K;simpa using h
  | j+1,K=>simp at K
 .cases h
theorem Zl(O:0<cs.length)(h:∀j,j<cs.length->W.cell? ⟨b,off+j,none⟩=cs[j]?):At (GZ W).E b off cs:=by
 have U:=h 0 O;rw[d6 O] at U;let⟨f,e,fr,Y,_⟩:=aM U;have hW:W.heap[b]?=some (.cells f e fr):=Y;refine⟨f,e,fr,Y,λj w Z=>?_⟩;have ac:=(d0.1 Z).1;have K:=h j ac;rw[Z] at K;unfold World.cell? at K;simp only[hW] at K;simpa using K
theorem fg{α:Type}{p:Rp α}{t e:TypeId}(a0:Tryz.prog.underlying t=some (.slice e))(a1:Tryz.prog.cellsOf e=p.n)(a2:0<p.n)
  (a3:∀n cs x,DataW.trod enc Tryz.prog W 0 (λ_=>true) true n e cs=some x->∃v,p.r (GZ W).E cs v)
  (a4:DataW.trod enc Tryz.prog W 0 (λ_=>true) true fuel t cs=some x):∃(a:Option Addr) (c:Nat) (ap:List α),cs=[.slice a ap.length c]/\Ao p (GZ W).E a c ap:=by
 rcases DataW.trod_slice a0 a4 with⟨ac,a5⟩ | ⟨a,len,cap,elems,rest,n,_,ac,a5,_,a6,_,hlen,aq,av,_⟩;exact⟨none,0,[],ac,Ao.nil⟩
 .rw [a1] at aq av;rcases q9 cap with aw | aw
  .have:len=0:=by omega
   subst this;subst aw;exact⟨some a,0,[],ac,oU _,.inl ⟨V,λ_ _=>.inr V⟩⟩
  .have ay:∀i,i<len->∃vs y,vs.length=p.n/\(∀j,j<p.n->W.cell? ((a.add (i*p.n)).add j)=vs[j]?)/\DataW.trod enc Tryz.prog W 0 (λ_=>true) true n e vs=some y:=λi hi=>by
    have K:=aq i hi;rw[d6 (by omega)] at K;let⟨vs,ai,Y⟩:=r8.1 K;let⟨_,O,al⟩:=World.cells?_some ai;exact⟨vs,_,O,al,Y⟩
   have am:a.spot=none:=by
    have key:∀vs:Lv_,vs.length=p.n->(∀j,j<p.n->W.cell? ((a.add (0*p.n)).add j)=vs[j]?)->a.spot=none:=λvs ag U=>by
     have:=U 0 a2;rw[d6 (by omega),TV,se,TV] at this;exact World.cell?_spot this
    rcases q9 len with K | K;let⟨ai,Y⟩:=av V;have O:=Y 0 (by omega);rw[d6 (by omega)] at O;let⟨vs,al,_⟩:=r8.1 O;let⟨_,ag,U⟩:=World.cells?_some al;rw[K] at U;exact key vs ag U;let⟨vs,y,ag,U,_⟩:=ay 0 K;exact key vs ag U
   have az:∀i:Fin len,∃z:α,∃vs,p.r (GZ W).E vs z/\At (GZ W).E a.block (a.off+i*p.n) vs:=λi=>by
    let⟨vs,y,ai,Y,O⟩:=ay i i.2;let⟨z,Z⟩:=a3 _ _ _ O;refine⟨z,vs,Z,Zl (by omega) λj a7=>?_⟩;have:=Y j (by omega);rw[Et am,Et rfl] at this;exact this
   refine⟨some a,cap,List.ofFn λi=>Classical.choose (az i),by simpa using ac,by simpa using a6,.inr ⟨a.block,a.off,?_,λi z Z=>?_⟩⟩;obtain⟨b,o,s⟩:=a;simp only at am;subst am;rfl
   .have hi:i<len:=by have:=(d0.1 Z).1;simpa using this
    simp[hi] at Z;have:=rm (az ⟨i,hi⟩);rw[Z] at this;exact this
theorem dp(h:DataW.trod enc Tryz.prog W 0 (λ_=>true) true fuel 3 cs=some x):∃z:Int,cs=[iV z]:=by
 let⟨n1,K,_⟩:=DataW.trod_int Tryz.underlying3 h;exact⟨n1,K⟩
theorem bg(O:DataW.trod enc Tryz.prog W 0 (λ_=>true) true fuel 22 cs=some x):∃(a:Option Addr) (c:Nat) (K:List Int),cs=[.slice a K.length c]/\Ao rI (GZ W).E a c K:=
 fg (p:=rI) Tryz.underlying22 Tryz.iL Nat.one_pos (λn cs x h=>by
  obtain⟨z,rfl⟩:=dp h
  exact⟨z,rfl⟩) O
theorem an{c2:Nat}{d:DataW H}{p:List MemPlace}(U:Value.okWide Tryz.prog W .any c2 22 v)(hd:DataW.Trod enc Tryz.prog W 0 (λ_=>true) true 22 v d p):
  ∃(a:Option Addr) (c:Nat) (K:List Int),v=.slice a K.length c/\Ao rI (GZ W).E a c K:=by
 obtain⟨Z,len,cap,rfl⟩:=okWide_slice Tryz.underlying22 U;obtain⟨fuel,Y⟩:=hd;let⟨a,c,K,e,g⟩:=bg Y;simp[Value.cells] at e;obtain⟨rfl,rfl,rfl⟩:=e;exact⟨_,_,_,V,g⟩
end
noncomputable def T4(os:Os):World:=
 let w0:=World.holding Tryz.prog os ⟨#[],#[],[]⟩
 {w0 with heap:=w0.heap.modify 0 fun
   | .cells _ t frozen=>.cells #[.iface 184 (.agg #[.pointer (some ⟨1,60,none⟩)])] t frozen
   | o=>o}
theorem XQ(os:Os)(args:Av_):laidMetH Tryz.prog [("errors.errorType",Rows.laid_errors_errorType)] ((T4 os).forCall (λ_ _=>0) ⟨#[],args,[]⟩).memory:=
 laidMetH_of_parts (laidMet_nil _ _) (by kernel_rfl)
theorem Tryz.eJ:Tryz.prog.globalNamed "errors.errorType" =some 0:=by kernel_rfl
theorem Tryz.gX:(Tryz.prog.cutTypes.find? (·.1== "internal/reflectlite.rtype")).map (·.2)=some 184:=by kernel_rfl
theorem Tryz.dF:Tryz.prog.globals.size=1:=by kernel_rfl
theorem Tryz.iN:(List.range Tryz.prog.types.size).all (λt=> !Tryz.prog.rowNamed t [101,114,114,111,114] || t==60)=true:=by kernel_rfl
theorem ei{W:World}(h:laidMetH Tryz.prog [("errors.errorType",Rows.laid_errors_errorType)] W.memory):GE (GZ W).E:=by
 have U:=h.2 _ (qw ..);obtain⟨name,u,ty,Y,Z,ac,ag,K⟩:=U;have ai:name=[101,114,114,111,114]:=(f6 Y).symm;have e2:u=184:=f6 (Z.symm.trans Tryz.gX);subst ai;subst e2;have al:ty=60:=by
  have:=qs.1 Tryz.iN ty (qc.2 ac);rw[ag] at this;simpa using this
 subst al;unfold World.var? at K;rw[Tryz.eJ] at K;simp only[Option.bind_some] at K;split at K
 .rename_i c e f hW;simp only[q2] at K;subst K;refine⟨_,e,f,hW,λj w O=>?_⟩;have am:typeHandle Tryz.prog 60=.pointer (some ⟨1,60,none⟩):=by unfold typeHandle;rw[Tryz.dF]
  rw[am]
  match j,O with
  | 0,O=>simp at O;subst O;rfl
  | j+1,O=>simp at O
 .cases K
theorem XY{H:Type}{enc:TypeId×Value->H}{C:Checked}{os:Os}{f:FuncId}{fn:Func}{s:ChangeSpec}{conds:List PathCond}{apart:Bool}{X:World->Av_->Prop}(w0:World)(args:Av_)(fuel:Nat)(O:w0.os=os)
  (U:(w0.forCall (λ_ _=>0) ⟨#[],args,[]⟩).variablesB C.prog=true)
  (Y:((w0.forCall (λ_ _=>0) ⟨#[],args,[]⟩).heap.toList.drop C.prog.globals.size).take ((begin C.prog (λ_ _=>0) default).world.heap.size - C.prog.globals.size)=
   (begin C.prog (λ_ _=>0) default).world.heap.toList.drop C.prog.globals.size)
  (K:Input.okWideB C.prog (w0.forCall (λ_ _=>0) ⟨#[],args,[]⟩) f ⟨#[],args,[]⟩=true)
  (Z:s.preB enc C.prog fn conds apart (w0.forCall (λ_ _=>0) ⟨#[],args,[]⟩).memory args fuel=true)
  (ac:s.sizedB enc C.prog fn apart (w0.forCall (λ_ _=>0) ⟨#[],args,[]⟩).memory args fuel=true)
  (ag:X (w0.forCall (λ_ _=>0) ⟨#[],args,[]⟩).memory args):
  ∃(w:World) (tape:Tape) (i:Input),w.os=os/\(w.forCall tape i).Shaped C.prog/\i.vars=[]/\Input.okWide C.prog (w.forCall tape i) .any w.heap.size f i/\
   ((s.pre enc C.prog fn conds apart (w.forCall tape i).memory i.args/\X (w.forCall tape i).memory i.args)/\sizedMet enc C.prog fn (OpenSpec.ofChange s) apart (w.forCall tape i).memory i.args)/\({calm:=true}:Assume).holds C.prog (Go.lone (Frame.enter C.prog f i.args .normal) [] (w.forCall tape i)):=
 ⟨w0,λ_ _=>0,⟨#[],args,[]⟩,O,World.shaped_of_B U Y,(Input.okWide_of_okWideB (base:=0) K).1,(Input.okWide_of_okWideB K).2,⟨⟨ChangeSpec.pre_of_preB Z,ag⟩,sizedMet_of_sizedB ac⟩,by
  simp only[Assume.holds]
  exact⟨by simp,λ_ _ _ _=>rfl,by simp,by simp,by simp⟩⟩
end Pal
namespace Pal
open Go Go.Conc Go.Proofs
open Go.Proofs.Tryz
variable {J:Judge Tryz.prog}{E:LH}
variable {J:Judge Tryz.prog}{E:LH}
variable {J:Judge Tryz.prog}{E:LH}
variable {J:Judge Tryz.prog}{E:LH}
end Pal
namespace Pal
open Go Go.Conc
variable {P:Program}{Q:Gs_}{b:Frame}{ds:Ld_}{ops:Ao_}{cs:Lf_}{fuel:Nat}{D:Nat->Bool}{listed:Array Bool}{L:Env}{s:St}{E' H:LH}{S:List Seg}
variable {d:Option Tmp}{y:Operand}{t u ty e:TypeId}{p:String}{af:Ae_}{g:On_}{v:Value}{i:Nat}{kd:IntKind}
section
variable {J:Judge P}{n:Nat}{k:Li_}{m:Nat}{E:LH}
variable {x:Operand}
end
open Go.Proofs Go.Proofs.Tryz
variable {J:Judge Tryz.prog}{E:LH}
end Pal
namespace Pal
open Go Go.Conc
variable {P:Program}{d:Option Tmp}{t u ty e:TypeId}{p:String}{af:Ae_}{g:On_}{s:St}{ρ:Operand->Value}
section
variable {x:Operand}
end
open Go.Proofs Go.Proofs.Tryz
variable {J:Judge Tryz.prog}{E:LH}
variable {J:Judge Tryz.prog}{E:LH}
def PV(fu_:Nat)(p1:Int)(K:(List Int)×Int×Nat×(List Int)×Int):Option (Bt ((List Int)×Int×Nat×(List Int)×Int) ((List Int)×Ci)):=if K.2.2.2.2<p1 then((f36 fu_ (K.1,K.2.1,K.2.2.1) K.2.2.2.2).bind λO=>(room K.2.2.2.1 K.2.2.2.2).bind λU=>(ix U O.1).bind λY=>(ix U K.2.2.2.2).bind λac=>(ix (U.set (Int.toNat K.2.2.2.2) Y) O.1).bind λag=>(Av (K.2.2.2.2+1)).bind λZ=>some (.more (O.2.1,O.2.2.1,O.2.2.2,((U.set (Int.toNat K.2.2.2.2) Y).set (Int.toNat O.1) K.2.2.2.2),Z))) else(some (.done (K.2.2.2.1,K.1,K.2.1,K.2.2.1)))
def f49(fu_:Nat)(p0:Ci)(p1:Int):Option ((List Int)×(Ci)):=Option.bind (iter (PV fu_ p1) fu_ (p0.1,p0.2.1,p0.2.2,[],0)) λK=>some K
theorem W6{bk:Nat}{a1:Aq}{c2:Nat}{p0:Ci}{p2:Int}(cc:Ao rI E a1 c2 p0.1){fu_:Nat}{r:(List Int)×(Ci)}(a9:f49 fu_ p0 p2=some r):AW J 17 [Al bk 0,iV p2] E [(bk,.cells #[sV a1 p0.1 c2,iV p0.2.1,.int .u64 ((p0.2.2:Nat):Int)] 43 (0,0))] (λw E' B'=>∃(bb:Aq) (be:Nat) (bi:Aq) (bn:Nat),w= sV bb r.1 be/\B'=[(bk,.cells #[sV bi r.2.1 bn,iV r.2.2.1,.int .u64 ((r.2.2.2:Nat):Int)] 43 (0,0))]/\Ao rI E' bb be r.1/\Ao rI E' bi bn r.2.1):=by
 refine Bs func17 λQ e8 cs H ce ci=>?_;unfold f49 at a9;let⟨ag,co,cp⟩:=bs a9;refine C 13 V (BF (λL s=>∃(av:LH) (aw:Aq) (ay:Nat) (a5:Seg) (az:Aq) (a0:Nat),Jn E H av [bX bk #[sV az ag.2.1 a0,iV ag.2.2.1,.int .u64 ((ag.2.2.2:Nat):Int)] 43,a5] [(5,sV aw ag.1 ay)] L s (OL 3 rI av aw ay a5 ag.1/\Ao rI av az a0 ag.2.1)) ?_ ?_);rintro _ _ ⟨av,aw,ay,a5,az,a0,rfl,rfl,ct,cw,cy,c0⟩;refine C 5 V (Cp 1 cy cw V λff bo c1 c3=>?_);cases cp;exact A4 func17 V V (ci (ct.Ad bo) V ⟨aw,ay,az,a0,V,V,c1,(c0.Ah bo)⟩ c3);intro c4;refine JL.block (Cr co (λL s K=>∃(ai:LH) (a2:Aq) (a3:Nat) (al:Aq) (am:Nat) (a4:Seg),Jn E H ai [bX bk #[sV a2 K.1 a3,iV K.2.1,.int .u64 ((K.2.2.1:Nat):Int)] 43,a4] [(0,Al bk 0),(1,iV p2),(5,sV al K.2.2.2.1 am),(6,iV K.2.2.2.2)] L s (Ao rI ai a2 a3 K.1/\OL 3 rI ai al am a4 K.2.2.2.1)) ⟨E,a1,c2,none,0,[],V,V,AR,ce,cc,OL.nil⟩ ?_);rintro _ _ K ⟨ai,a2,a3,al,am,a4,rfl,rfl,bv,bw,bx,bz⟩ c5 ⟨fk,a6⟩ c6;have b0:=a6;unfold PV at b0;refine C 7 V (A5 b0 (λc7 c8=>?_) (λc7 c9=>?_));let⟨U,dd,dj⟩:=bs c8;refine C 7 V (Cc 0 (Ko bx dd) V V J4 bw V ?_);rintro _ ea _ b1 ⟨eb,ec,rfl,rfl,ed⟩ ee;let⟨Y,ef,eg⟩:=bs dj;refine C 6 V (JS.app (pp:=rI) (v:=iV K.2.2.2.2) (a:=al) (c:=am) 1 ef V V V V (λ_=>V) V (λ_=>V) V V V underlying22 underlying22 underlying22 AO (Dv type3) CJ V (by decide) (by decide) (by decide) (by decide) (bz.Ah b1) V ee V λfl Z ac fm b2 b3=>?_);let⟨O,ej,ek⟩:=bs eg;refine C 9 V (Kf 1 b2 ej V V V V V V underlying22 AO ?_);rintro b4 b5 f77 _ el rfl em fo fs fv fw;refine An (v:=iV O) V (λρ h=>Yl.load Br (h _ _ V) (B8 (j:=1) b3 el (em 0 _ V))) ?_;let⟨fN,eo,ep⟩:=bs ek;refine C 1 V (Kf 1 b2 eo V V V V V V underlying22 AO ?_);rintro b6 a7 f88 _ er rfl gc eu ew ge gg;refine JS.store (v:=iV O) (off:=a7) 1 V V V b3 V V AO (by simp[Value.cells,CM]) er (by have:=eu;simp only[Rp.n,rK,rN,rB,rP,rL] at this;show _+1<=_;omega) λex=>?_;have ey:=ew O [iV O] V;have ap:(Y.set (Int.toNat K.2.2.2.2) O).length=Y.length:=qa;refine EF (L':=[(0,Al bk 0),(1,iV p2),(6,iV K.2.2.2.2),(8,iV K.2.2.2.2),(9,iV p2),(10,.bool (decide (K.2.2.2.2<p2))),(13,Al bk 0),(14,iV K.2.2.2.2),(15,iV U.1),(7,iV U.1),(17,iV K.2.2.2.2),(19,.slice Z ((Y.set (Int.toNat K.2.2.2.2) O)).length ac),(5,.slice Z ((Y.set (Int.toNat K.2.2.2.2) O)).length ac),(20,.slice Z ((Y.set (Int.toNat K.2.2.2.2) O)).length ac),(21,iV K.2.2.2.2),(22,.slice Z ((Y.set (Int.toNat K.2.2.2.2) O)).length ac),(23,iV U.1),(24,.slice Z ((Y.set (Int.toNat K.2.2.2.2) O)).length ac),(25,iV U.1),(26,Al b4 b5),(27,iV O),(28,iV K.2.2.2.2),(29,Al b6 a7)]) ⟨V,V,V,V,V,V,V,V,V,V,V,by rw[ap];rfl,by rw[ap];rfl,by rw[ap];rfl,V,by rw[ap];rfl,V,by rw[ap];rfl,V,V,V,V,V,trivial⟩ ?_;let⟨gh,eA,eC⟩:=bs ep;refine Kf 1 ey eA V V V V V V underlying22 AO ?_;rintro ca a8 f102 _ eN rfl gt e0 e1 gE gO;refine JS.store (v:=iV K.2.2.2.2) (off:=a8) 1 V V V ex V V AO (by simp[Value.cells,CM]) eN (by have:=e0;simp only[Rp.n,rK,rN,rB,rP,rL] at this;show _+1<=_;omega) λe3=>?_;have e4:=e1 K.2.2.2.2 [iV K.2.2.2.2] V;have aq:((Y.set (Int.toNat K.2.2.2.2) O).set (Int.toNat U.1) K.2.2.2.2).length=((Y.set (Int.toNat K.2.2.2.2) O)).length:=qa;refine EF (L':=[(0,Al bk 0),(1,iV p2),(6,iV K.2.2.2.2),(8,iV K.2.2.2.2),(9,iV p2),(10,.bool (decide (K.2.2.2.2<p2))),(13,Al bk 0),(14,iV K.2.2.2.2),(15,iV U.1),(7,iV U.1),(17,iV K.2.2.2.2),(19,.slice Z (((Y.set (Int.toNat K.2.2.2.2) O).set (Int.toNat U.1) K.2.2.2.2)).length ac),(5,.slice Z (((Y.set (Int.toNat K.2.2.2.2) O).set (Int.toNat U.1) K.2.2.2.2)).length ac),(20,.slice Z (((Y.set (Int.toNat K.2.2.2.2) O).set (Int.toNat U.1) K.2.2.2.2)).length ac),(21,iV K.2.2.2.2),(22,.slice Z (((Y.set (Int.toNat K.2.2.2.2) O).set (Int.toNat U.1) K.2.2.2.2)).length ac),(23,iV U.1),(24,.slice Z (((Y.set (Int.toNat K.2.2.2.2) O).set (Int.toNat U.1) K.2.2.2.2)).length ac),(25,iV U.1),(26,Al b4 b5),(27,iV O),(28,iV K.2.2.2.2),(29,Al b6 a7),(30,Al ca a8)]) ⟨V,V,V,V,V,V,V,V,V,V,V,by rw[aq];rfl,by rw[aq];rfl,by rw[aq];rfl,V,by rw[aq];rfl,V,by rw[aq];rfl,V,V,V,V,V,V,trivial⟩ ?_;let⟨e5,e6,e7⟩:=bs eC;refine C 4 V (BE e6 V V V ?_);refine C 2 V ?_;cases e7;exact AH (c6 _ _ (U.2.1,U.2.2.1,U.2.2.2,((Y.set (Int.toNat K.2.2.2.2) O).set (Int.toNat U.1) K.2.2.2.2),e5) ⟨ea,eb,ec,Z,ac,[(ca,.cells (A9 f102 a8 [iV K.2.2.2.2]) 3 (0,0))],V,V,(bv.Ad b1),e3,ed,e4⟩ a6) V;refine JL.exit V ?_;cases c9;obtain rfl:=c5 _ a6;exact AH (c4 _ _ ⟨ai,al,am,a4,a2,a3,V,V,bv,bw,bz,bx⟩) V
end Pal
namespace Pal
def As{α:Type}(o:Option α)(Q:α->Prop):Prop:=∃a,o=some a/\Q a
variable {α β:Type}{Q R:α->Prop}
theorem Ap{a:α}(h:Q a):As (some a) Q:=⟨a,V,h⟩
theorem As.Ah{o:Option α}(h:As o R)(k:∀a,R a->Q a):As o Q:=let ⟨a,K,O⟩:=h;⟨a,K,k a O⟩
theorem AJ{o:Option β}{f:β->Option α}{S:β->Prop}(h:As o S)(k:∀b,S b->As (f b) Q):As (o.bind f) Q:=by
 obtain⟨b,rfl,hb⟩:=h;let⟨a,K,O⟩:=k b hb;exact⟨a,K,O⟩
theorem Ba{o:Option β}{f:β->Option α}{b:β}(h:o=some b)(k:As (f b) Q):As (o.bind f) Q:=by subst h;exact k
theorem As.kJ{f:Int->Option α}{x:Int}(K: -9223372036854775808<=x)(O:x<=9223372036854775807)(k:As (f x) Q):As ((Av x).bind f) Q:=Ba (d7 ⟨K,O⟩) k
variable{i:Int}
theorem I7{xs:List β}{m:Nat}{b:β}(h:i=(m:Int))(hb:xs[m]?=some b):ix xs i=some b:=by subst h;simpa [ix] using hb
theorem Bj{f:β->Option α}{xs:List β}{m:Nat}(h:i=(m:Int))(hm:m<xs.length)(k:As (f xs[m]) Q):As ((ix xs i).bind f) Q:=Ba (I7 h (d6 hm)) k
theorem Im{f:List β->Option α}{xs:List β}{x:β}(h:xs.length+1<=2^40)(k:As (f (xs++ [x])) Q):As ((room xs x).bind f) Q:=Ba (d7 h) k
variable{c:Prop}
theorem BB [Decidable c] {x y:Option α}(K:c->As x Q)(O:¬c->As y Q):As (if c then x else y) Q:=by
 by_cases h:c;rw[d7 h];exact K h;rw[d9 h];exact O h
theorem B6 [Decidable c] {x y:Option α}(h:c)(k:As x Q):As (if c then x else y) Q:=by rw[d7 h];exact k
theorem Cb [Decidable c] {x y:Option α}(h:¬c)(k:As y Q):As (if c then x else y) Q:=by rw[d9 h];exact k
def Bt.sat{S A:Type}(I:S->Prop)(Q:A->Prop):Bt S A->Prop
 | .more s=>I s
 | .done a=>Q a
variable{S:Type}
theorem FF{body:S->Option (Bt S α)}(I:Nat->S->Prop)(round:∀m s,I m s->As (body s) (Bt.sat (λs'=>∃m',m'<m/\I m' s') Q)):
  ∀{m fuel:Nat}{s:S},I m s->m<fuel->As (iter body fuel s) Q:=by
 intro m
 induction m using Nat.strongRecOn with
 | _ m O=>
  intro fuel s U ag;obtain⟨fuel,rfl⟩:∃k,fuel=k+1:=⟨fuel - 1,by omega⟩;let⟨st,Y,K⟩:=round m s U;unfold Pal.iter;rw[Y];cases st with
  | more s'=>
   obtain⟨m',Z,ac⟩:=K;exact O m' Z ac (by omega)
  | done a=>exact⟨a,rfl,K⟩
variable{F:Nat}
theorem DL{A:Type}{body:S->Option (Bt S A)}{Q:A->Prop}{K:S}(n:Nat)(I:Nat->S->Prop)(Y:I 0 K)(ac:n<F)
  (round:∀i s,i<n->I i s->As (body s) (Bt.sat (I (i+1)) Q)) (last:∀s,I n s->As (body s) (λst=>∃a,st=.done a/\Q a)):As (Pal.iter body F K) Q:=by
 refine FF (λm s=>∃i,i<=n/\m=n - i/\I i s) ?_ (m:=n - 0) ⟨0,qV _,V,Y⟩ (by omega);rintro m s ⟨i,hi,rfl,O⟩;rcases gD i n with Z | ag
 .refine(round i s Z O).Ah ?_;intro st U;cases st with
  | more s'=>exact⟨n - (i+1),by omega,i+1,by omega,rfl,U⟩
  | done a=>exact U
 .obtain rfl:i=n:=by omega
  refine(last s O).Ah ?_;rintro st ⟨a,rfl,h⟩;exact h
theorem ED{α:Type}{o:Option α}{a:α}(h:As o (λx=>x=a)):o=some a:=by obtain⟨x,K,rfl⟩:=h;exact K
theorem LA{α:Type}{Q:α->Prop}{f:Int->Option α}{x:Int}(y:Int)(h:x=y)(K: -9223372036854775808<=y)(O:y<=9223372036854775807)(k:As (f y) Q):As ((Av x).bind f) Q:=by subst h;exact As.kJ K O k
theorem As.E{α:Type}{Q:α->Prop}{f:Int->Option α}{x:Int}(y:Int)(h:x=y)(k:As (f y) Q)(K: -9223372036854775808<=y:=by omega)(O:y<=9223372036854775807:=by omega):As ((Av x).bind f) Q:=LA y h K O k
theorem As.MQ{α β:Type}{Q:α->Prop}{f:List β->Option α}{xs ys:List β}(h:xs.length+ys.length<1000)(k:As (f (xs++ys)) Q):As ((Ds xs ys).bind f) Q:=Ba (by unfold Ds;rw[d7 (by omega)]) k
abbrev H4:=List Int×Int×Nat
def BG(k:Nat)(b:H4):Prop:=0<=b.2.1/\b.2.1<=(k:Int)
variable{b:H4}
theorem BG.Ah{k k':Nat}(h:BG k b)(K:k<=k'):BG k' b:=⟨h.1,by have:=h.2;omega⟩
theorem ir{k:Nat}(hb:BG k b)(K:k<1000000):As (f83 F b) (λr=>r.1<2^64/\BG (k+1) r.2):=by
 obtain⟨O,U⟩:=hb;unfold f83;refine As.E (b.2.1+1) V ?_;have key:∀x:Nat,(x%2^64)>>>11<2^64:=λx=>rW (Nat.shiftRight_le _ _) (tl _ (ue 64));refine AJ (S:=λ_=>True) ?_ ?_;refine BB (λh=>?_) (λh=>?_);refine As.E b.2.1 (by omega) (Bj (m:=b.2.1.toNat) (by omega) (by omega) ?_);exact Ap trivial;exact Ap trivial;intro x _;exact Ap ⟨key _,by simp only;omega,by simp only;omega⟩
theorem Uf{a:Nat}(h:a<2^62):JR a=(a:Int):=by
 unfold JR;exact KL (by omega)
variable{m:Int}
theorem Ki{k:Nat}(hb:BG k b)(O:k<1000000)(hm:m<1000000):As (f36 F b m) (λr=>0<=r.1/\(r.1<=m∨r.1=0)/\BG (k+1) r.2):=by
 unfold f36;refine AJ (ir hb O) ?_;rintro⟨x,b'⟩ ⟨Z,K⟩;refine BB (λh=>?_) (λh=>?_);exact Ap ⟨by simp,.inr V,K⟩
 .have U:CC m=m.toNat:=by unfold CC;omega
  have e2:(CC m+1)%2^64=m.toNat+1:=by rw[U];omega
  have Y:x%(m.toNat+1)<m.toNat+1:=tl _ (by omega);refine Ba (b:=x%(m.toNat+1)) (by rw[e2];unfold Qb;rw[d9 (by omega)]) ?_;refine Ap ?_;simp only;generalize x%(m.toNat+1)=z at Y ⊢;rw[Uf (by omega)];exact⟨by omega,.inl (by omega),K⟩
theorem PL{k:Nat}{lo hi:Int}(hb:BG k b)(O:k<1000000)(U:0<=lo)(Y:lo<=hi)(Z:hi<1000):As (f37 F b lo hi) (λr=>lo<=r.1/\r.1<=hi/\BG (k+1) r.2):=by
 unfold f37;refine As.E (hi - lo) V (AJ (Ki hb O (by omega)) ?_);rintro⟨x,b'⟩ ⟨g1,g2,K⟩;simp only at g1 g2 K ⊢;exact As.E (lo+x) V (Ap ⟨by simp only;omega,by simp only;omega,K⟩)
theorem gI{k:Nat}(hb:BG k b)(K:k<1000000)(U:1<=m)(Y:m<1000):As (f32 F b m) (λr=>BG (k+1) r.2):=by
 unfold f32;refine As.E (m - 1) V (AJ (Ki hb K (by omega)) ?_);rintro⟨x,b'⟩ ⟨g1,g2,O⟩;exact Ap O
variable{l:List Int}
theorem Wb{k:Nat}(hb:BG k b)(U:k<1000000)(Y:0<l.length)(Z:l.length<1000):As (f81 F b l) (λr=>r.1∈l/\BG (k+1) r.2):=by
 unfold f81;refine As.E ((l.length - 1:Nat):Int) (by omega) (AJ (Ki hb U (by omega)) ?_);rintro⟨x,b'⟩ ⟨g1,g2,K⟩;simp only at g1 g2 K ⊢;have O:x.toNat<l.length:=by omega
 exact Bj (m:=x.toNat) (by omega) O (Ap ⟨j9 O,K⟩)
abbrev DT:=Int×Int×Int
abbrev OW:=Bv×List DT
structure NV (n:Nat) (o:OW):Prop where
 l1:o.1.length<=n
 n1:∀x∈o.1,x.length<=n
 l2:o.2.length<=n
theorem gL{l:Bv}(ag:100<F)(ai:l.length<=40)(U:∀x∈l,x.length<=40):f68 F l=some l:=by
 refine ED ?_;unfold f68;refine Ba (b:=List.replicate l.length []) ?_ ?_;unfold Gy;rw[d7 (by omega)];rfl
 refine AJ (S:=λr=>r=l) ?_ (λr Y=>Ap Y);refine DL l.length (λi s=>s.2=(i:Int)/\s.1=l.take i++List.replicate (l.length - i) []) ⟨V,by simp⟩ (by omega) ?_ ?_
 .rintro i ⟨o,c⟩ hi ⟨K,O⟩;simp only at K O;subst K;subst O;unfold R1;refine B6 (by simp only;omega) (Bj (m:=i) V hi ?_);refine Ba (b:=l[i]) ?_ ?_
  .unfold f104;have:Ds ([]:List Int) l[i]=some l[i]:=by unfold Ds;rw[d7 (by have:=U _ (j9 hi);simp;omega)];rfl
   rw[this];rfl
  have Z:(l.take i).length=i:=by rw[rS];omega
  refine Bj (m:=i) V (by simp;omega) (As.E ((i+1:Nat):Int) (by simp) ?_);refine Ap ⟨V,?_⟩;simp only;rw[show Int.toNat (i:Int)=i by omega,List.set_append,d9 (by omega),Z,tf];obtain⟨k,ac⟩:∃k,l.length - i=k+1:=⟨l.length - i - 1,by omega⟩;rw[ac,sG,sd,q4,d6 hi,show l.length - (i+1)=k by omega];simp only[rD,pE,qX,qS]
 .rintro⟨o,c⟩ ⟨K,O⟩;simp only at K O;subst K;subst O;unfold R1;exact Cb (by simp) (Ap ⟨_,V,by simp⟩)
variable{o:OW}
theorem gV(O:100<F)(K:NV 40 o):f21 F o=some o:=by
 unfold f21;have U:=K.l2;rw[gL O K.l1 K.n1,Option.bind_some];unfold f69;have:Ds ([]:List DT) o.2=some o.2:=by unfold Ds;rw[d7 (by simp;omega)];rfl
 rw[this];rfl
theorem LG(F:Nat)(a lo hi:Int):f92 F a lo hi=some (decide (lo<=a/\a<=hi)):=by
 unfold f92;by_cases h:lo<=a;rw[d7 h];simp[h];rw[d9 h];simp[h]
theorem aH(h:ix o.1 i=some l):PQ F l=NF F o i:=by
 funext j;unfold PQ NF;rw[h];rfl
theorem ba(F:Nat)(o:OW):PT F o=NK F o:=by
 funext i;unfold PT NK;split;rcases h:ix o.1 i with _ | l;rfl;simp only[Option.bind_some];rw[aH h];rfl
theorem fx(F:Nat)(o:OW):f47 F o=f48 F o:=by
 unfold f47 f48;rw[ba];rfl
def VD(n:Nat)(d:DT):Prop:=0<=d.1/\d.1<(n:Int)/\0<=d.2.1/\d.2.1<(n:Int)/\d.1≠d.2.1/\1<=d.2.2/\d.2.2<=9
def CS(x:List Int):Prop:=x.length<=3/\∀c∈x,1<=c/\c<=9
structure VO (o:OW):Prop where
 n2:2<=o.1.length
 n5:o.1.length<=5
 cs:∀x∈o.1,CS x
 d8:o.2.length<=8
 ds:∀d∈o.2,VD o.1.length d
theorem VO.nv(h:VO o):NV 40 o:=⟨by have:=h.n5;omega,λx K=>by have:=(h.cs x K).1;omega,by have:=h.d8;omega⟩
theorem Jz{α:Type}{P:α->Prop}{l:List α}{i:Nat}(hi:i<l.length)(h:∀x∈l.take i,P x)(k:P l[i]):∀x∈l.take (i+1),P x:=by
 intro x K;rw[q4,d6 hi] at K;simp only[rD,gM,aj] at K;rcases K with K | rfl;exact h x K;exact k
variable{d:DT}{n:Nat}
theorem fz(Y:n<1000):As (f88 F (n:Int) d 9) (λr=>r=0↔VD n d):=by
 unfold f88;refine As.E ((n:Int) - 1) V (Ba (LG _ _ _ _) ?_);refine AJ (S:=λc=>c=true↔¬((0<=d.1/\d.1<(n:Int))/\0<=d.2.1/\d.2.1<(n:Int))) ?_ ?_;refine BB (λh=>Ap ?_) (λh=>?_);simp at h;simp;omega;refine As.E ((n:Int) - 1) V (Ba (LG _ _ _ _) ?_);refine Ap ?_;simp at h;simp;omega
 .intro c O;refine BB (λh=>Ap ?_) (λh=>?_);have:=O.1 h;unfold VD;constructor;intro h;cases h;intro h;omega
  have Z:¬¬_:=λk=>h (O.2 k);refine BB (λU=>Ap ?_) (λU=>?_);unfold VD;constructor;intro h;cases h;intro h;omega
  refine Ba (LG _ _ _ _) (BB (λK=>Ap ?_) (λK=>Ap ?_));simp at K;unfold VD;constructor;intro h;cases h;intro h;omega;simp at K;unfold VD;constructor;intro h;omega;intro h;rfl
theorem iG(Z:100<F)(h:NV 40 o):As (f48 F o) (λr=>r=0↔VO o):=by
 unfold f48;have ac:=h.l1;have ag:=h.l2;refine BB (λg=>Ap (sD (by decide) λv=>by have:=v.n2;omega)) (λg1=>?_);refine BB (λg=>Ap (sD (by decide) λv=>by have:=v.n5;omega)) (λg2=>?_);refine AJ (S:=λq=>(∃e,q=Sum.inl e/\e≠0/\¬∀x∈o.1,CS x)∨(q=Sum.inr ()/\∀x∈o.1,CS x)) ?_ ?_
 .refine DL o.1.length (λi s=>s=(i:Int)/\∀x∈o.1.take i,CS x) ⟨V,by simp⟩ (by omega) ?_ ?_
  .rintro i s hi ⟨rfl,K⟩;unfold NK;refine B6 (by omega) (Bj (m:=i) V hi ?_);have ai:=h.n1 _ (j9 hi);refine BB (λg=>Ap (.inl ⟨_,V,by decide,λk=>by have:=(k _ (j9 hi)).1;omega⟩)) (λal=>?_);refine AJ (S:=λq=>(q=Sum.inl 1/\¬CS o.1[i])∨(q=Sum.inr ()/\CS o.1[i])) ?_ ?_
   .refine DL o.1[i].length (λj s=>s=(j:Int)/\∀c∈o.1[i].take j,1<=c/\c<=9) ⟨V,by simp⟩ (by omega) ?_ ?_
    .rintro j s U ⟨rfl,O⟩;unfold NF;refine Bj (m:=i) V hi (B6 (by omega) ?_);refine Bj (m:=i) V hi (Bj (m:=j) V U ?_);refine Ba (LG _ _ _ _) (BB (λg=>Ap (.inl ⟨V,λk=>?_⟩)) (λg=>?_));have:=k.2 _ (j9 U);simp at g;omega
     refine As.E ((j+1:Nat):Int) (by simp) (Ap ⟨V,Jz U O ?_⟩);simpa using g
    .rintro s ⟨rfl,O⟩;unfold NF;refine Bj (m:=i) V hi ?_;rw[qP] at O;exact Cb (by omega) (Ap ⟨_,V,.inr ⟨V,by omega,O⟩⟩)
   .rintro q (⟨rfl,g⟩ | ⟨rfl,g⟩);rw[Sum.elim_inl];exact Ap (.inl ⟨_,V,by decide,λk=>g (k _ (j9 hi))⟩);rw[Sum.elim_inr];exact As.E ((i+1:Nat):Int) (by simp) (Ap ⟨V,Jz hi K g⟩)
  .rintro s ⟨rfl,K⟩;unfold NK;rw[qP] at K;exact Cb (by omega) (Ap ⟨_,V,.inr ⟨V,K⟩⟩)
 .rintro q (⟨e,rfl,he,g⟩ | ⟨rfl,O⟩);rw[Sum.elim_inl];exact Ap (sD he λv=>g v.cs);rw[Sum.elim_inr];refine BB (λg=>Ap (sD (by decide) λv=>by have:=v.d8;omega)) (λg2=>?_);refine AJ (S:=λq=>(∃e,q=Sum.inl e/\e≠0/\¬∀d∈o.2,VD o.1.length d)∨(q=Sum.inr ()/\∀d∈o.2,VD o.1.length d)) ?_ ?_;refine DL o.2.length (λi s=>s=(i:Int)/\∀d∈o.2.take i,VD o.1.length d) ⟨V,by simp⟩ (by omega) ?_ ?_;rintro i s hi ⟨rfl,K⟩;unfold R0;refine B6 (by omega) (Bj (m:=i) V hi ?_);refine AJ (fz (by omega)) ?_;intro x Y;refine BB (λg=>Ap (.inl ⟨_,V,g,λk=>g (Y.2 (k _ (j9 hi)))⟩)) (λg=>?_);exact As.E ((i+1:Nat):Int) (by simp) (Ap ⟨V,Jz hi K (Y.1 (rG.1 g))⟩);rintro s ⟨rfl,K⟩;unfold R0;rw[qP] at K;exact Cb (by omega) (Ap ⟨_,V,.inr ⟨V,K⟩⟩);rintro q (⟨e,rfl,he,g⟩ | ⟨rfl,g⟩);rw[Sum.elim_inl];exact Ap (sD he λv=>g v.ds);rw[Sum.elim_inr];exact Ap (ug V ⟨by omega,by omega,O,by omega,g⟩)
theorem fP(K:100<F)(h:NV 40 o):As (f47 F o) (λr=>r=0↔VO o):=fx F o▸iG K h
theorem jF(K:100<F)(h:VO o):f47 F o=some 0:=by
 let⟨r,O,U⟩:=fP K h.nv;rw[O,U.2 h]
theorem WY(K:100<F)(h:VO o):f70 F o []=some (o,0):=by
 obtain⟨F,rfl⟩:∃k,F=k+1:=⟨F - 1,by omega⟩;unfold f70;rw[jF K h]
 rfl
theorem aX(a n:Int):a%n=(a - n)%n:=by
 have h:a=(a - n)+n*1:=by omega
 conv=>lhs;rw[h]
 exact Int.add_mul_emod_self_left _ _ _
theorem gC{k:Nat}(hb:BG k b)(ap:k<900000)(aq:2<=n)(av:n<900):As (f40 F b (n:Int)) (λr=>VD n r.1/\BG (k+4) r.2):=by
 unfold f40;refine As.E ((n:Int) - 1) V (AJ (Ki hb (by omega) (by omega)) ?_);rintro⟨x,aw⟩ ⟨g1,g2,O⟩;simp only at g1 g2 O ⊢;refine AJ (PL O (by omega) (by omega) (by omega) (by omega)) ?_;rintro⟨x2,ay⟩ ⟨a1,ai,U⟩;simp only at a1 ai U ⊢;refine AJ (Wb U (by omega) (by simp) (by simp)) ?_;rintro⟨Y,az⟩ ⟨Z,ac⟩;simp only at Z ac ⊢;refine As.E ((n:Int) - 1) V (AJ (PL ac (by omega) (by omega) (by omega) (by omega)) ?_);rintro⟨K,a0⟩ ⟨al,am,ag⟩;simp only at al am ag ⊢;refine As.E (x+K) V (Ba (b:=(x+K).tmod n) (by unfold Qr;rw[d9 (by omega)]) ?_);refine Ap ⟨?_,ag⟩;have e:(x+K).tmod n=(x+K)%n:=Int.tmod_eq_emod_of_nonneg (by omega);have p3:1<=Y/\Y<=9:=by
  simp only[gv,pe,rc] at Z;omega
 have a2:(x+K)%(n:Int)<n:=Int.emod_lt_of_pos _ (by omega);have a3:0<=(x+K)%(n:Int):=Int.emod_nonneg _ (by omega);have a4:x≠(x+K)%(n:Int):=by
  rcases Int.lt_or_le (x+K) n with h | h;rw[Int.emod_eq_of_lt (by omega) h];omega;rw[aX,Int.emod_eq_of_lt (by omega) (by omega)];omega
 refine⟨g1,?_,?_,?_,?_,p3.1,p3.2⟩<;>simp only[e]<;>omega
theorem iK{k pm dm:Nat}(a3:100<F)(hb:BG k b)(a4:k<1000)(a5:2<=pm)(a6:pm<=5)(hd:dm<=8):As (f31 F b pm dm) (λr=>VO r.1/\r.1.1.length<=pm/\r.1.2.length<=dm/\BG (k+100) r.2):=by
 unfold f31;refine AJ (PL hb (by omega) (by omega) (by omega) (by omega)) ?_;rintro⟨n,a7⟩ ⟨n1,n2,g1⟩;simp only at n1 n2 g1 ⊢;obtain⟨n,rfl⟩:∃m:Nat,n=(m:Int):=⟨n.toNat,by omega⟩;refine AJ (gI g1 (by omega) (by omega) (by omega)) ?_;rintro⟨a8,a9⟩ g2;simp only at g2 ⊢;refine AJ (S:=λr=>r.2.2.2.length=n/\(∀x∈r.2.2.2,CS x)/\BG (k+30) (r.1,r.2.1,r.2.2.1)) ?_ ?_;refine DL n (λi s=>s.2.2.2.2=(i:Int)/\s.1.length=i/\(∀x∈s.1,CS x)/\BG (k+2+5*i) (s.2.1,s.2.2.1,s.2.2.2.1)) ⟨V,V,by simp,g2⟩ (by omega) ?_ ?_;rintro i ⟨ps,l,t,ag,c⟩ hi ⟨ai,al,am,K⟩;simp only at ai al am K;subst ai;unfold P3;refine B6 (by simp only;omega) (AJ (Ki K (by omega) (by omega)) ?_);rintro⟨c,bb⟩ ⟨c1,c2,ap⟩;simp only at c1 c2 ap ⊢;obtain⟨c,rfl⟩:∃m:Nat,c=(m:Int):=⟨c.toNat,by omega⟩;refine AJ (S:=λr=>CS r.1/\BG (k+2+5*i+1+c) r.2) ?_ ?_;refine DL c (λj s=>s.2.2.2.2=((c - j:Nat):Int)/\s.2.2.2.1.length=j/\(∀v∈s.2.2.2.1,1<=v/\v<=9)/\BG (k+2+5*i+1+j) (s.1,s.2.1,s.2.2.1)) ⟨V,V,by simp,ap⟩ (by omega) ?_ ?_;rintro j ⟨l,t,ag,w,z⟩ a1 ⟨U,hw,O,K⟩;simp only at U hw O K;subst U;unfold PF;refine B6 (by simp only;omega) (AJ (S:=λr=>r.1.length=j+1/\(∀v∈r.1,1<=v/\v<=9)/\BG (k+2+5*i+1+(j+1)) r.2) ?_ ?_);refine BB (λ_=>?_) (λ_=>?_);refine Im (by simp only;omega) (Ap ⟨by simp[hw],?_,K.Ah (by omega)⟩);intro v h;rcases gM.1 h with h | h;exact O v h;have:=aj.1 h;omega;refine AJ (Wb K (by omega) (by simp) (by simp)) ?_;rintro⟨v,a2⟩ ⟨aw,aq⟩;simp only at aw aq ⊢;refine Im (by omega) (Ap ⟨by simp[hw],?_,aq⟩);intro u h;rcases gM.1 h with h | h;exact O u h;have:=aj.1 h;subst this;simp only[gv,pe,rc] at aw;omega;rintro⟨w',l',be,bi⟩ ⟨Z,av,ac⟩;simp only at Z ac av ⊢;exact As.E ((c - (j+1):Nat):Int) (by omega) (Ap ⟨V,Z,av,ac⟩);rintro⟨l,t,ag,w,z⟩ ⟨U,hw,O,K⟩;simp only at U hw O K;subst U;unfold PF;exact Cb (by simp) (Ap ⟨_,V,⟨by simp only;omega,O⟩,K⟩);rintro⟨w,a2⟩ ⟨Z,ac⟩;simp only at Z ac ⊢;refine Im (by omega) (As.E ((i+1:Nat):Int) (by simp) ?_);refine Ap ⟨V,by simp[al],λx Y=>?_,ac.Ah (by omega)⟩;simp only[gM,aj] at Y;rcases Y with Y | rfl;exact am x Y;exact Z;rintro⟨ps,l,t,ag,c⟩ ⟨ai,al,am,K⟩;simp only at ai al am K;subst ai;unfold P3;exact Cb (by simp) (Ap ⟨_,V,al,am,K.Ah (by omega)⟩);rintro⟨l,t,ag,ps⟩ ⟨p1,p2,ap⟩;simp only at p1 p2 ap ⊢;refine AJ (Ki ap (by omega) (by omega)) ?_;rintro⟨c,bn⟩ ⟨c1,c2,aq⟩;simp only at c1 c2 aq ⊢;obtain⟨c,rfl⟩:∃m:Nat,c=(m:Int):=⟨c.toNat,by omega⟩;refine AJ (S:=λr=>r.2.2.2.length<=dm/\(∀d∈r.2.2.2,VD n d)/\BG (k+100) (r.1,r.2.1,r.2.2.1)) ?_ ?_;refine DL c (λj s=>s.2.2.2.2=((c - j:Nat):Int)/\s.1.length=j/\(∀d∈s.1,VD n d)/\BG (k+31+4*j) (s.2.1,s.2.2.1,s.2.2.2.1)) ⟨V,V,by simp,aq.Ah (by omega)⟩ (by omega) ?_ ?_;rintro j ⟨ay,l,t,ag,z⟩ a1 ⟨U,hw,O,K⟩;simp only at U hw O K;subst U;unfold P1;refine B6 (by simp only;omega) (AJ (gC K (by omega) (by omega) (by omega)) ?_);rintro⟨d,bo⟩ ⟨az,a0⟩;simp only at az a0 ⊢;refine As.MQ (by simp;omega) (As.E ((c - (j+1):Nat):Int) (by omega) ?_);refine Ap ⟨V,by simp[hw],?_,a0.Ah (by omega)⟩;intro x Y;rcases gM.1 Y with Y | Y;exact O x Y;cases aj.1 Y;exact az;rintro⟨ay,l,t,ag,z⟩ ⟨U,hw,O,K⟩;simp only at U hw O K;subst U;unfold P1;exact Cb (by simp) (Ap ⟨_,V,by simp only;omega,O,K.Ah (by omega)⟩);rintro⟨l,t,ag,ay⟩ ⟨Z,av,ac⟩;simp only at Z ac av ⊢;exact Ap ⟨⟨by simp only;omega,by simp only;omega,p2,by simp only;omega,by simp only;rw[p1];exact av⟩,by simp only;omega,Z,ac⟩
abbrev PR:=Int×Int
def gN(l:List Int)(i:Nat):Int:=l.getD i 0
def F8(l:List Int)(i v:Int):List Int:=l.set i.toNat (gN l i.toNat+v)
def BN(B:Int)(l:List Int):Prop:=l.length=5/\∀x∈l,-B<=x/\x<=B
theorem KV{i:Nat}(h:i<l.length):gN l i=l[i]:=by unfold gN;rw[f7,d6 h];rfl
variable{B:Int}
theorem BN.bd(h:BN B l){i:Nat}(hi:i<5): -B<=gN l i/\gN l i<=B:=by
 rw[KV (by have:=h.1;omega)];exact h.2 _ (j9 _)
theorem BN.ix(h:BN B l)(K:0<=i)(hi:i<5):ix l i=some (gN l i.toNat):=by
 have:=h.1;rw[KV (show i.toNat<l.length by omega)];exact I7 (m:=i.toNat) (by omega) (d6 _)
theorem BN.Ah{C:Int}(h:BN B l)(O:B<=C):BN C l:=⟨h.1,λx K=>by have:=h.2 x K;omega⟩
variable{v:Int}
theorem BN.add{V:Int}(h:BN B l)(O:0<=i)(hi:i<5)(U: -V<=v)(Y:v<=V):BN (B+V) (F8 l i v):=by
 have hb:=h.bd (i:=i.toNat) (by omega);refine⟨by unfold F8;rw[qa];exact h.1,λx K=>?_⟩;rcases rX K with K | rfl;have:=h.2 x K;omega;omega
theorem I1(h:l.length=5)(K:0<=i)(hi:i<5)(j:Nat):gN (F8 l i v) j=gN l j+if(j:Int)=i then v else 0:=by
 unfold F8 gN;rw[f7,qT,f7,f7];by_cases e:i.toNat=j;rw[d7 e,d7 (by omega),d7 (by omega),e];rfl;rw[d9 e,d9 (by omega),Int.add_zero]
theorem Uz{l':List Int}(h:l.length=5)(U:l'.length=5)(k:∀j,j<5->gN l j=gN l' j):l=l':=by
 refine List.ext_getElem (by omega) λj K O=>?_;rw[← KV K,← KV O];exact k j (by omega)
def Dd(l:List Int)(d:DT):List Int:=F8 (F8 l d.1 d.2.2) d.2.1 (-d.2.2)
def HX(l:List Int)(d:DT):List Int:=F8 (F8 l d.2.1 d.2.2) d.1 (-d.2.2)
def BZ(o:OW):List Int:=o.2.foldl HX (List.replicate 5 0)
theorem Rt(h:BN B l)(a1:0<=d.1)(K:d.1<5)(O:0<=d.2.1)(U:d.2.1<5)(p1: -B<=d.2.2)(p2:d.2.2<=B)(Y:B<=1000000000000):ML F l d=some (Dd l d)/\BN (3*B) (Dd l d):=by
 have g1:=h.add a1 K p1 p2;have g2:=g1.add O U (show -B<= -d.2.2 by omega) (by omega);have k1:=h.bd (i:=d.1.toNat) (by omega);have Z:=g1.bd (i:=d.2.1.toNat) (by omega);refine⟨?_,g2.Ah (by omega)⟩;refine ED ?_;unfold ML;refine Ba (h.ix a1 K) ?_;refine As.E _ V ?_;refine Ba (h.ix a1 K) ?_;refine Ba (g1.ix O U) ?_;refine As.E _ V ?_;refine Ba (g1.ix O U) ?_;exact Ap V
theorem NG(Z:100<F)(h:VO o):f84 F o=some (BZ o)/\BN 200 (BZ o):=by
 have ac:=h.n5;have ag:=h.d8;have:As (f84 F o) (λr=>r=BZ o/\BN 200 r):=by
  unfold f84;refine AJ (S:=λr=>r=BZ o/\BN 200 r) ?_ (λr O=>Ap O);refine DL o.2.length (λi s=>s.2=(i:Int)/\s.1=(o.2.take i).foldl HX (List.replicate 5 0)/\BN (20*i) s.1) ⟨rfl,rfl,rfl,by simp⟩ (by omega) ?_ ?_
  .rintro i ⟨w,c⟩ hi ⟨K,hw,hb⟩;simp only at K hw hb;subst K;let⟨v1,v2,ai,v4,al,v6,am⟩:=h.ds _ (j9 hi);have g1:=hb.add (i:=o.2[i].2.1) (v:=o.2[i].2.2) (V:=10) (by omega) (by omega) (by omega) (by omega);have g2:=g1.add (i:=o.2[i].1) (v:= -o.2[i].2.2) (V:=10) (by omega) (by omega) (by omega) (by omega);have k1:=hb.bd (i:=o.2[i].2.1.toNat) (by omega);have ap:=g1.bd (i:=o.2[i].1.toNat) (by omega);unfold PX;refine B6 (by simp only;omega) (Bj (m:=i) rfl hi ?_);refine Ba (hb.ix (by omega) (by omega)) (As.E _ rfl ?_);refine Ba (hb.ix (by omega) (by omega)) (Ba (g1.ix (by omega) (by omega)) ?_);refine As.E _ rfl (Ba (g1.ix (by omega) (by omega)) ?_);refine As.E ((i+1:Nat):Int) (by simp) (Ap ⟨rfl,?_,g2.Ah (by omega)⟩);simp only;rw[q4,d6 hi,rH,← hw]
   rfl
  .rintro⟨w,c⟩ ⟨K,hw,hb⟩;simp only at K hw hb;subst K;unfold PX;rw[qP] at hw;exact Cb (by simp) (Ap ⟨_,rfl,hw,hb.Ah (by omega)⟩)
 obtain⟨r,U,rfl,Y⟩:=this;exact⟨U,Y⟩
theorem aG{i:Nat}(hi:i<l.length):(l.take (i+1)).sum=(l.take i).sum+l[i]:=by
 rw[q4,d6 hi,List.sum_append];simp only[rD,rE,ux];omega
theorem fI(ag:100<F)(ai:l.length<=20)(hb:∀x∈l,-1000<=x/\x<=1000):f85 F l=some l.sum/\ -20000<=l.sum/\l.sum<=20000:=by
 have:As (f85 F l) (λr=>r=l.sum/\ -20000<=r/\r<=20000):=by
  unfold f85;refine AJ (S:=λr=>r=l.sum/\ -20000<=r/\r<=20000) ?_ (λr Y=>Ap Y);refine DL l.length (λi s=>s.2=(i:Int)/\s.1=(l.take i).sum/\ -(1000*(i:Int))<=s.1/\s.1<=1000*(i:Int)) ⟨V,V,by simp,by simp⟩ (by omega) ?_ ?_;rintro i ⟨w,c⟩ hi ⟨K,hw,O,U⟩;simp only at K hw O U;subst K;have al:=hb _ (j9 hi);unfold P0;refine B6 (by simp only;omega) (Bj (m:=i) V hi ?_);refine As.E _ V (As.E ((i+1:Nat):Int) (by simp) ?_);refine Ap ⟨V,?_,?_,?_⟩;simp only;rw[aG hi,hw];simp only;omega;simp only;omega;rintro⟨w,c⟩ ⟨K,hw,O,U⟩;simp only at K hw O U;subst K;unfold P0;rw[qP] at hw;exact Cb (by simp) (Ap ⟨_,V,hw,by simp only;omega,by simp only;omega⟩)
 obtain⟨r,Z,rfl,ac⟩:=this;exact⟨Z,ac⟩
def VP(n:Nat)(x:PR):Prop:=0<=x.1/\x.1<x.2/\x.2<(n:Int)
def Jc(b:Nat)(k:Nat):List PR:=(List.range k).map λa:Nat=>((a:Int),(b:Int))
def EW(n:Nat):List PR:=(List.range n).flatMap λb=>Jc b b
theorem ZK(b k:Nat):Jc b (k+1)=Jc b k++ [((k:Int),(b:Int))]:=by unfold Jc;rw[uf,qN];rfl
theorem X5(n:Nat):EW (n+1)=EW n++Jc n n:=by unfold EW;rw[uf,List.flatMap_append];simp
theorem UZ{x:PR}(h:x∈EW n):VP n x:=by
 unfold EW Jc at h;let⟨b,hb,h⟩:=List.mem_flatMap.1 h;obtain⟨a,K,rfl⟩:=qK.1 h;have:=qc.1 hb;have:=qc.1 K;exact⟨by simp only;omega,by simp only;omega,by simp only;omega⟩
theorem Uw(b k:Nat):(Jc b k).length=k:=by unfold Jc;simp
theorem Yw(h:n<=5):(EW n).length<=10:=by
 have e:∀n,n<=5->(EW n).length<=n*2:=by
  intro n K
  match n,K with
  | 0,_ | 1,_ | 2,_ | 3,_ | 4,_ | 5,_=>decide
 have:=e n h;omega
theorem dQ(Z:100<F)(ac:o.1.length<=5):f133 F o=some (EW o.1.length):=by
 refine ED ?_;unfold f133;refine AJ (S:=λr=>r=EW o.1.length) ?_ (λr Y=>Ap Y);refine DL o.1.length (λi s=>s.2=(i:Int)/\s.1=EW i/\s.1.length<=10*i) ⟨V,V,by simp⟩ (by omega) ?_ ?_
 .rintro i ⟨w,c⟩ hi ⟨K,hw,U⟩;simp only at K hw U;subst K;unfold O5;refine B6 (by simp only;omega) (AJ (S:=λr=>r=EW i++Jc i i) ?_ ?_)
  .refine DL i (λa s=>s.2=(a:Int)/\s.1=EW i++Jc i a) ⟨V,by simp[Jc,hw]⟩ (by omega) ?_ ?_
   .rintro a ⟨v,c⟩ ag ⟨K,O⟩;simp only at K O;subst K;unfold Pk;refine B6 (by simp only;omega) (Im ?_ ?_);rw[O,← hw,pJ,Uw];omega
    refine As.E ((a+1:Nat):Int) (by simp) (Ap ⟨V,?_⟩);simp only;rw[ZK,O,pE]
   .rintro⟨v,c⟩ ⟨K,O⟩;simp only at K O;subst K;unfold Pk;exact Cb (by simp) (Ap ⟨_,V,O⟩)
  .rintro r rfl;refine As.E ((i+1:Nat):Int) (by simp) (Ap ⟨V,(X5 i).symm,?_⟩);simp only;rw[pJ,Uw,← hw];omega
 .rintro⟨w,c⟩ ⟨K,hw,U⟩;simp only at K hw U;subst K;unfold O5;exact Cb (by simp) (Ap ⟨_,V,hw⟩)
def BR(p:Int)(x:PR):Bool:=decide (x.1=p) || decide (x.2=p)
theorem Tj{α:Type}{p:α->Bool}:∀{l:List α}{a:Nat},l.countP p=1->∀O:a<l.length,p l[a]=true->l.findIdx p=a
 | x::xs,0,_,_,K=>by
  have K:p x=true:=K
  rw[List.findIdx_cons,K];rfl
 | x::xs,a+1,h,O,K=>by
  have K:p (xs[a]'(by simpa using O))=true:=K
  have Y:0<xs.countP p:=s5.2 ⟨_,j9 _,K⟩
  by_cases U:p x=true;rw[List.countP_cons_of_pos U] at h;omega;rw[List.countP_cons_of_neg U] at h;rw[List.findIdx_cons,tp.2 U];simp only[cond_false];rw[Tj h (by simpa using O) K]
def Kj(n:Nat)(l:List PR):Option Nat:=(List.range n).find? λp=>l.countP (BR p)==1
def dP(p:Int)(x:PR)(m:Int):DT:=if 0<m then(x.1+x.2 - p,p,m) else(p,x.1+x.2 - p,-m)
def FI(n:Nat):Nat->List PR->List Int->List DT->Option (List DT)
 | 0,_,w,out=>if w=List.replicate 5 0 then some out else none
 | k+1,l,w,out=>(Kj n l).bind λp=>
   if gN w p=0 then none else
    FI n k (l.eraseIdx (l.findIdx (BR p))) (Dd w (dP p (l.getD (l.findIdx (BR p)) (0,0)) (gN w p))) (out++ [dP p (l.getD (l.findIdx (BR p)) (0,0)) (gN w p)])
def NS:Option (List DT)->Bool×List Int×List DT
 | none=>(true,default)
 | some out=>(false,List.replicate 5 0,out)
theorem ZV{l:List PR}{p:Int}(al:100<F)(am:l.length<=20):As (Pal.iter (Nv F l p) F (0,0,0)) (λr=>r.2=((l.countP (BR p):Nat):Int)/\(r.2=1->r.1=(l.findIdx (BR p):Nat)/\l.findIdx (BR p)<l.length)):=by
 refine DL l.length (λi s=>s.2.2=(i:Int)/\s.2.1=(((l.take i).countP (BR p):Nat):Int)/\(s.2.1≠0->∃a,s.1=((a:Nat):Int)/\∃h:a<l.length,BR p l[a]=true)) ⟨V,by simp,by simp⟩ (by omega) ?_ ?_
 .rintro i ⟨a,m,c⟩ hi ⟨K,hm,O⟩;simp only at K hm O;subst K;have hle:(l.take i).countP (BR p)<=i:=by
   refine qW List.countP_le_length ?_;rw[rS];omega
  unfold Nv;refine B6 (by simp only;omega) (Bj (m:=i) V hi ?_);refine AJ (S:=λc=>c=BR p l[i]) ?_ ?_;unfold BR;refine BB (λh=>Ap (by simp[h])) (λh=>Ap (by simp[h]))
  rintro c rfl;have key:(l.take (i+1)).countP (BR p)=(l.take i).countP (BR p)+if BR p l[i]=true then 1 else 0:=by
   rw[q4,d6 hi,List.countP_append];simp only[rD,List.countP_cons,List.countP_nil,rO]
  refine AJ (S:=λr=>r.2=(((l.take (i+1)).countP (BR p):Nat):Int)/\(r.2≠0->∃a,r.1=((a:Nat):Int)/\∃h:a<l.length,BR p l[a]=true)) ?_ ?_;refine BB (λh=>?_) (λh=>?_);refine LA (((l.take (i+1)).countP (BR p):Nat):Int) ?_ (by omega) ?_ (Ap ⟨V,λ_=>⟨i,V,hi,h⟩⟩);rw[key,d7 h,hm];rfl;rw[key,d7 h];omega;exact Ap ⟨by rw[key,d9 h];exact hm,O⟩;rintro⟨ap,m'⟩ ⟨U,Y⟩;simp only at U Y ⊢;exact As.E ((i+1:Nat):Int) (by simp) (Ap ⟨V,U,Y⟩)
 .rintro⟨a,m,c⟩ ⟨K,hm,O⟩;simp only at K hm O;subst K;rw[qP] at hm;unfold Nv;refine Cb (by simp) (Ap ⟨_,V,hm,λac=>?_⟩);simp only at ac;obtain⟨k,ag,Z,ai⟩:=O (by omega);have:=Tj (p:=BR p) (l:=l) (a:=k) (by omega) Z ai;simp only;rw[this];exact⟨ag,Z⟩
theorem YL{l:List PR}{i:Nat}(hi:i<n)(K:l.countP (BR i)=1)(h:∀p,p<i->l.countP (BR p)≠1):Kj n l=some i:=by
 unfold Kj;rw[rk];exact⟨by simp[K],qc.2 hi,λj O=>by simpa using h j O⟩
theorem YJ{l:List PR}(h:∀p,p<n->l.countP (BR p)≠1):Kj n l=none:=by
 unfold Kj;rw[sj];intro p K;simpa using h p (qc.1 K)
theorem Xa{p:Nat}{x:PR}(U:n<=5)(O:VP n x)(K:BR p x=true)(Y: -B<=m)(Z:m<=B):0<=(dP p x m).1/\(dP p x m).1<5/\0<=(dP p x m).2.1/\(dP p x m).2.1<5/\0<=(dP p x m).2.2/\(dP p x m).2.2<=B:=by
 obtain⟨v1,v2,ac⟩:=O;unfold BR at K;simp at K;unfold dP;split<;>simp only<;>omega
theorem Jv{α:Type}{l:List α}{i:Nat}{d:α}(h:i<l.length):l.getD i d=l[i]:=by rw[f7,d6 h];rfl
theorem Va{F n:Nat}{q:OW}(Z:100<F)(ay:q.1.length=n)(al:n<=5):∀(k N:Nat) (l:List PR) (w:List Int) (out:List DT) (B:Int),l.length=k->k<N->k<=10->(∀x∈l,VP n x)->BN B w->0<=B->B*3^k<=1000000000000->out.length+k<=100->Mx N F l w q out=some (NS (FI n k l w out))
 | 0,N,l,w,out,B,az,a0,_,ac,hw,am,ap,a1=>by
  obtain⟨N,rfl⟩:∃k,N=k+1:=⟨N - 1,by omega⟩
  refine ED ?_
  simp only[Mx]
  unfold NJ FI
  refine B6 (by omega) ?_
  refine BB (λh=>Ap ?_) (λh=>Ap ?_);rw[d9 h];rfl;have h:=rG.1 h;rw[d7 h,h];rfl
 | k+1,N,l,w,out,B,az,a0,bi,ac,hw,am,ap,a1=>by
  obtain⟨N,rfl⟩:∃k,N=k+1:=⟨N - 1,by omega⟩;refine ED ?_;simp only[Mx];unfold NJ;refine Cb (by omega) ?_;have a2:B*3^(k+1)=(3*B)*3^k:=by rw[Int.pow_succ];rw[tZ (3^k) 3,← Int.mul_assoc,tZ B 3]
  have a3:B<=1000000000000:=by
   have ag:(1:Int)<=3^(k+1):=by
    have:(0:Int)<3^(k+1):=Int.pow_pos (by decide);omega
   have:=tF ag am;omega
  refine AJ (S:=λr=>r=Sum.inl (NS (FI n (k+1) l w out))∨(r=Sum.inr ()/\Kj n l=none)) ?_ ?_
  .refine DL n (λi s=>s=(i:Int)/\∀p,p<i->l.countP (BR (p:Nat))≠1) ⟨V,by simp⟩ (by omega) ?_ ?_
   .rintro i s hi ⟨rfl,O⟩;unfold O4;refine B6 (by omega) (AJ (S:=λr=>(r=Sum.inr ()/\l.countP (BR i)≠1)∨r=Sum.inl (NS (FI n (k+1) l w out))) ?_ ?_)
    .refine AJ (ZV Z (by omega)) ?_;rintro⟨a,m⟩ ⟨aq,U⟩;simp only at aq U ⊢;refine BB (λh=>Ap (.inl ⟨V,λag=>h (by rw[aq,ag];rfl)⟩)) (λh=>?_);have h:=rG.1 h;let⟨U,K⟩:=U h;have a4:l.countP (BR i)=1:=by omega
     subst U;have a5:=YL hi a4 O;refine Bj (m:=l.findIdx (BR i)) V K (Bj (m:=l.findIdx (BR i)) V K ?_);have a6:BR i l[l.findIdx (BR i)]=true:=s3;have Y:=ac _ (j9 K);have a7:=Y;obtain⟨x1,x2,bn⟩:=a7;have hb:=hw.bd (i:=i) (by omega);refine As.E (-(i:Int)) V (Ba (hw.ix (by omega) (by omega)) ?_);rw[show Int.toNat (i:Int)=i by omega];refine Ba (fI (l:=[_,_,_]) Z (by simp) (by simp;omega)).1 (As.E (-(gN w i)) V ?_);have av:FI n (k+1) l w out=if gN w i=0 then none else FI n k (l.eraseIdx (l.findIdx (BR i))) (Dd w (dP i l[l.findIdx (BR i)] (gN w i))) (out++ [dP i l[l.findIdx (BR i)] (gN w i)]):=by
      simp only[FI,a5,Option.bind_some,Jv K]
     refine BB (λh=>Ap (.inr ?_)) (λh=>?_);rw[av,d7 (by omega)];rfl
     have aw:=av;rw[d9 (show ¬gN w i=0 by omega)] at aw;rw[aw];refine AJ (S:=λr=>r=dP i l[l.findIdx (BR i)] (gN w i)) ?_ ?_;unfold dP;refine BB (λh=>?_) (λh=>?_);refine As.E (gN w i) (by omega) (Ap ?_);rw[d7 (by omega)];simp only[rE,ux];refine tW ?_ V;simp only;omega;refine Ap ?_;rw[d9 (by omega)];simp only[rE,ux];refine tW V (tW ?_ V);simp only;omega
     rintro d rfl;let⟨a8,e2,a9,bb,bo,be⟩:=Xa al Y a6 hb.1 hb.2;obtain⟨g1,g2⟩:=Rt (F:=F) hw a8 e2 a9 bb (by omega) be a3;refine Ba g1 (As.MQ (by simp;omega) ?_);refine Ba (b:=l.take (l.findIdx (BR i))) (by unfold H0;rw[d7 (by omega)];simp) (As.E ((l.findIdx (BR i)+1:Nat):Int) (by simp) ?_);refine Ba (b:=l.drop (l.findIdx (BR i)+1)) ?_ ?_;unfold H0;rw[d7 (by omega),show Int.toNat (l.length:Int)=l.length by omega,qP,show Int.toNat ((l.findIdx (BR i)+1:Nat):Int)=l.findIdx (BR i)+1 by omega]
     refine As.MQ (by simp;omega) ?_;have he:l.take (l.findIdx (BR i))++l.drop (l.findIdx (BR i)+1)=l.eraseIdx (l.findIdx (BR i)):=(tx _ _).symm;rw[he];have hle:(l.eraseIdx (l.findIdx (BR i))).length=k:=by rw[ss K];omega
     refine Ba (Va Z ay al k N _ _ _ (3*B) hle (by omega) (by omega) (λx Y=>ac x (rC Y)) g2 (by omega) (by rw[← a2];exact ap) (by simp;omega)) ?_;rcases FI n k _ _ _ with _ | r;exact B6 V (Ap (.inr V));exact Cb (by simp[NS]) (Ap (.inr V))
    .rintro r (⟨rfl,h⟩ | rfl);rw[Sum.elim_inr];refine As.E ((i+1:Nat):Int) (by simp) (Ap ⟨V,λp ai=>?_⟩);rcases t6.1 ai with ai | rfl;exact O p ai;exact h;rw[Sum.elim_inl];exact Ap (.inl V)
   .rintro s ⟨rfl,O⟩;unfold O4;exact Cb (by omega) (Ap ⟨_,V,.inr ⟨V,YJ O⟩⟩)
  .rintro r (rfl | ⟨rfl,h⟩);rw[Sum.elim_inl];exact Ap V
   .rw [Sum.elim_inr];refine Ap ?_;simp only[FI,h,Option.bind_none]
    rfl
def BD(d:DT):Prop:= -1000000000000000<=d.1/\d.1<=1000000000000000/\ -1000000000000000<=d.2.1/\d.2.1<=1000000000000000/\ -1000000000000000<=d.2.2/\d.2.2<=1000000000000000
theorem UT{n:Nat}(ac:n<=5):∀(k:Nat) (l:List PR) (w:List Int) (out r:List DT) (B:Int),l.length=k->(∀x∈l,VP n x)->BN B w->0<=B->B*3^k<=1000000000000->(∀d∈out,BD d)->FI n k l w out=some r->(∀d∈r,BD d)/\r.length=out.length+k
 | 0,l,w,out,r,B,am,O,hw,ag,ai,U,h=>by
  unfold FI at h
  split at h;cases h;exact⟨U,V⟩;cases h
 | k+1,l,w,out,r,B,am,O,hw,ag,ai,U,h=>by
  have ap:B*3^(k+1)=(3*B)*3^k:=by rw[Int.pow_succ];rw[tZ (3^k) 3,← Int.mul_assoc,tZ B 3]
  have aq:B<=1000000000000:=by
   have av:(1:Int)<=3^(k+1):=by
    have:(0:Int)<3^(k+1):=Int.pow_pos (by decide);omega
   have:=tF av ag;omega
  unfold FI at h;let⟨p,al,h⟩:=bind_some h;split at h;cases h
  unfold Kj at al;let⟨c1,c2,c3⟩:=rk.1 al;have a2:l.countP (BR p)=1:=by simpa using c1
  have c2:=qc.1 c2;have Y:l.findIdx (BR p)<l.length:=by
   obtain⟨x,K,Z⟩:=s5.1 (show 0<l.countP (BR p) by omega);exact sE ⟨x,K,Z⟩
  rw[Jv Y] at h;have Z:BR p l[l.findIdx (BR p)]=true:=s3;have K:=O _ (j9 Y);have hb:=hw.bd (i:=p) (by omega);let⟨aw,e2,ay,az,a3,a0⟩:=Xa ac K Z hb.1 hb.2;obtain⟨g1,g2⟩:=Rt (F:=0) hw aw e2 ay az (by omega) a0 aq;obtain⟨k1,a1⟩:=UT ac k _ _ _ r (3*B) (by rw[ss Y];omega) (λx K=>O x (rC K)) g2 (by omega) (by rw[← ap];exact ai) (by
   intro d hd
   rcases gM.1 hd with hd | hd;exact U d hd
   .cases aj.1 hd
    refine⟨?_,?_,?_,?_,?_,?_⟩<;>omega) h
  refine⟨k1,?_⟩;rw[a1];simp;omega
end Pal
