/- DebtFewest states that the payments of Fewest are right and in order: a part (6 of 9) of the proof of its row. -/
import Derived.Test.YtmeophcclkejkaaGreatDoorFee
set_option linter.all false
set_option maxRecDepth 100000
namespace Pal
open Go Go.Conc Go.Proofs
variable {J:Judge Tryz.prog}{E:LH}
def Qw(fu_:Nat)(p0:AZ)(K:(List Int)×Int):Option (Bn ((List Int)×Int) ((List Int))):=
 if K.2<((p0.2).length:Int) then(
  (ix p0.2 (K.2)).bind λO=>
  (ix K.1 (O.1)).bind λal=>
  (ix K.1 (O.1)).bind λU=>
  (Au (U - O.2.2)).bind λY=>
  (ix K.1 (O.2.1)).bind λZ=>
  (Au (Z+O.2.2)).bind λac=>
  (Au (K.2+1)).bind λag=>
  some (.more (((K.1.set (Int.toNat O.1) Y).set (Int.toNat O.2.1) ac),ag))
 ) else(
  some (.done K.1)
 )
def Ni(fu_:Nat)(p0:AZ):Option ((List Int)):=
 (IM ((p0.1).length:Int) (0:Int)).bind λK=>
 Option.bind (iter (Qw fu_ p0) fu_ (K,0)) λO=>
 some O
theorem dA{a1:An}{c2:Nat}{be:An}{bi:Nat}{p0:AZ}(e6:Al (rL rI) E a1 c2 (p0.1))(b5:Al Aw E be bi (p0.2)){fu_:Nat}{r:(List Int)}(bn:Ni fu_ p0=some r):AK J 15 [.agg #[.slice a1 (p0.1).length c2,.slice be (p0.2).length bi]] E [] (λw E' B'=>∃(bo:An) (bv:Nat) (g0:Seg),w= .slice bo (r).length bv/\B'=g0/\OL 3 rI E' bo bv g0 (r)):=by
 refine Bi Tryz.func15 λQ e7 cs H b6 ca=>?_;unfold Ni at bn;refine C 2 V (Dp b6 λbw a5 bx a6 cc=>?_);refine C 4 V (B5 0 a6 Tryz.underlying28 Fo Fy ?_);refine JL.ln Tryz.underlying25 V V V ?_;obtain⟨ce,ci,co⟩:=bs bn;refine JS.make (pp:=rI) ci V V V V V Tryz.underlying22 Ay (Dv Tryz.type3) (by decide) CH (by decide) V cc λcp ct cw cy=>?_;obtain⟨bz,c0,c1⟩:=bs co;refine C 7 V (Bt (λL s=>∃(a7:LH) (aq:An) (av:Nat) (aw:Seg),Jn a5 H a7 [aw] [(3,.slice aq (bz).length av)] L s (OL 3 rI a7 aq av aw (bz))) ?_ ?_)
 ·rintro _ _ ⟨a7,aq,av,aw,rfl,rfl,c3,c4,c5⟩;refine C 5 V ?_;obtain rfl:=oi c1;exact AS Tryz.func15 V V (ca (bx.trans c3) V ⟨aq,av,aw,V,(by first | rfl | simp | (simp [Value.cells])),c5⟩ c4)
 ·intro c6;refine JL.block (Cw c0 (λL s Y=>∃(ay:LH) (az:An) (ac:Nat) (a0:Seg),Jn a5 H ay [a0] [(1,.pointer (some ⟨bw,0,none⟩)),(3,.slice az (Y.1).length ac),(4,iV Y.2)] L s (OL 3 rI ay az ac a0 (Y.1))) ⟨a5,(some ⟨cp,0,none⟩),(ce).length,ct,V,V,(Le.refl _),cy,cw⟩ ?_);rintro _ _ Y ⟨ay,az,ac,a0,rfl,rfl,ap,b0,b1⟩ c7 ⟨e8,a8⟩ c8;have b2:=a8;unfold Qw at b2;refine C 4 V (B5 1 (a6.Ag ap) Tryz.underlying28 Hv Jx ?_);refine JL.ln Tryz.underlying26 V V V (C 2 V ?_);refine AU b2 (λc9 dd=>?_) (λc9 dn=>?_)
  ·refine C 5 V (B5 1 (a6.Ag ap) Tryz.underlying28 Hv Jx ?_);obtain⟨O,ea,eb⟩:=bs dd;refine C 1 V (JS.ix (b5.Ag (bx.trans ap)) ea Tryz.underlying26 Bg ?_);rintro ff fk _ ⟨_,_,rfl,rfl,⟨_,_,rfl,rfl,rfl⟩⟩ ec;refine B4 ec DO Bg V V (BQ b0 BP λU ed=>?_);refine BJ 1 ed Bg λee=>?_;refine Cu 1 ee V λef b3 ag a9=>?_;obtain⟨fl,eg,ej⟩:=bs eb;refine JL.done ?_;obtain⟨a2,f77,ek,Z⟩:=WL.of (b1.Ag b3) eg;obtain⟨rfl,rfl⟩:=ek;refine H8 [23,25] [a2] [] mixed V (Bm 0 V V ?_);refine FC (v:= .pointer (some ⟨U,0,none⟩)) 1 true V V (λρ h s' K=>GV (a:=⟨U,0,none⟩) 0 0 Tryz.underlying42 Ay V V V (h _ _ V)) (Km (v:=iV O.1) 2 V (by decide+kernel) V V V (λρ h s' K=>Yl.load A3 (h _ _ V) (At.Jh (j:=0) ag K V)) ?_);refine Bm 3 V V (FC (v:= .pointer (some ⟨U,1,none⟩)) 4 true V V (λρ h s' K=>GV (a:=⟨U,0,none⟩) 0 1 Tryz.underlying42 Ay V V V (h _ _ V)) ?_);refine Km (v:=iV O.2.1) 5 V (by decide+kernel) V V V (λρ h s' K=>Yl.load A3 (h _ _ V) (At.Jh (j:=1) ag K V)) (Bm 6 V V ?_);refine FC (v:= .pointer (some ⟨U,0,none⟩)) 7 true V V (λρ h s' K=>GV (a:=⟨U,0,none⟩) 0 0 Tryz.underlying42 Ay V V V (h _ _ V)) (Km (v:=iV O.1) 8 V (by decide+kernel) V V V (λρ h s' K=>Yl.load A3 (h _ _ V) (At.Jh (j:=0) ag K V)) ?_);obtain⟨el,a3,em⟩:=bs ej;obtain⟨_,rfl,eo⟩:=WL.at Z a3;refine JB.ix 9 Z.2 a3 Tryz.underlying22 Ay ?_;refine JB.val (v:=iV el) 10 false V (by decide+kernel) V V V (λρ h s' K=>have K:=K V;Yl.load A3 (h _ _ V) (Cg 0 a9 V (by simp [AA]) K (eo 0 _ V))) (FC (v:= .pointer (some ⟨U,2,none⟩)) 11 true V V (λρ h s' K=>GV (a:=⟨U,0,none⟩) 0 2 Tryz.underlying42 Ay V V V (h _ _ V)) ?_);refine Km (v:=iV O.2.2) 12 V (by decide+kernel) V V V (λρ h s' K=>Yl.load A3 (h _ _ V) (At.Jh (j:=2) ag K V)) ?_;obtain⟨al,ep,er⟩:=bs em;refine FC 13 true V V (λρ h s' K=>DJ (h _ _ V) (h _ _ V) ep) (Bm 14 V V ?_);refine FC (v:= .pointer (some ⟨U,1,none⟩)) 15 true V V (λρ h s' K=>GV (a:=⟨U,0,none⟩) 0 1 Tryz.underlying42 Ay V V V (h _ _ V)) (Km (v:=iV O.2.1) 16 V (by decide+kernel) V V V (λρ h s' K=>Yl.load A3 (h _ _ V) (At.Jh (j:=1) ag K V)) ?_);obtain⟨eu,a4,ew⟩:=bs er;obtain⟨_,rfl,ex⟩:=WL.at Z a4;refine JB.ix 17 Z.2 a4 Tryz.underlying22 Ay ?_;refine JB.val (v:=iV eu) 18 false V (by decide+kernel) V V V (λρ h s' K=>have K:=K V;Yl.load A3 (h _ _ V) (Cg 0 a9 V (by simp [AA]) K (ex 0 _ V))) (FC (v:= .pointer (some ⟨U,2,none⟩)) 19 true V V (λρ h s' K=>GV (a:=⟨U,0,none⟩) 0 2 Tryz.underlying42 Ay V V V (h _ _ V)) ?_);refine Km (v:=iV O.2.2) 20 V (by decide+kernel) V V V (λρ h s' K=>Yl.load A3 (h _ _ V) (At.Jh (j:=2) ag K V)) ?_;obtain⟨am,ey,eA⟩:=bs ew;refine FC 21 true V V (λρ h s' K=>FY (h _ _ V) (h _ _ V) ey) (JB.ix 22 Z.2 a3 Tryz.underlying22 Ay ?_);have b4:=WL.put (x':=al) (ws':= [iV al]) Z Z.2 a3 V;refine ET 23 0 a9 Ay trivial b4.2 λeC=>?_;refine JB.ix 24 Z.2 a4 Tryz.underlying22 Ay ?_;have bb:=WL.put (x':=am) (ws':= [iV am]) b4.1 Z.2 a4 V;refine ET 25 0 eC Ay trivial bb.2 λeN=>?_;refine JB.fin (by decide+kernel) ?_;have e0:=(bb.1).1;have e1:(((Y.1.set (Int.toNat O.1) al).set (Int.toNat O.2.1) am)).length=(Y.1).length:=(bb.1).2;refine EH (L':= [(1,.pointer (some ⟨bw,0,none⟩)),(3,.slice (some ⟨a2,0,none⟩) (((Y.1.set (Int.toNat O.1) al).set (Int.toNat O.2.1) am)).length ac),(4,iV Y.2)]) ⟨V,by rw [e1];rfl,V,trivial⟩ ?_;obtain⟨e3,e4,e5⟩:=bs eA;refine C 3 V (Bq e4 V V V ?_);refine C 2 V ?_;obtain rfl:=oi e5;exact AB (c8 _ _ (((Y.1.set (Int.toNat O.1) al).set (Int.toNat O.2.1) am),e3) ⟨ef,(some ⟨a2,0,none⟩),ac,[(a2,.cells (Bd (Bd f77 (Int.toNat (O.1)*1) [iV al]) (Int.toNat (O.2.1)*1) [iV am]) 3 (0,0))],V,V,(ap.trans b3),eN,e0⟩ a8) V
  ·refine JL.exit V ?_;obtain rfl:=oi dn;obtain rfl:=c7 _ a8;exact AB (c6 _ _ ⟨ay,az,ac,a0,V,V,ap,b0,b1⟩) V
def MJ(fu_:Nat)(ac:(List Int)×(B8))(K:(List Int)×Int×Nat×(List Int)×Ax×Int):Option (Bn ((List Int)×Int×Nat×(List Int)×Ax×Int) (Ax×B8)):=
 if 0<K.2.2.2.2.2 then(
  (ix ac.1 (K.2.2.2.2.2)).bind λZ=>
  (Au (K.2.2.2.2.2 - 1)).bind λag=>
  (f36 fu_ (K.1,K.2.1,K.2.2.1) ag).bind λY=>
  (ix ac.1 (Y.1)).bind λO=>
  (ix K.2.2.2.1 (Z)).bind λU=>
  (ix K.2.2.2.1 (O)).bind λal=>
  (Au (al+U)).bind λam=>
  (ix K.2.2.2.1 (O)).bind λa0=>
  Option.bind (
   if 0<U then(
    (room K.2.2.2.2.1 (O,Z,U)).bind λap=>
    some ap
   ) else(
    Option.bind (
     if U<0 then(
      (Au (-(U))).bind λaq=>
      (room K.2.2.2.2.1 (Z,O,aq)).bind λav=>
      some av
     ) else(
      some K.2.2.2.2.1
     )
    ) λaw=>
    some aw
   )
  ) λay=>
  (Au (K.2.2.2.2.2 - 1)).bind λaz=>
  some (.more (Y.2.1,Y.2.2.1,Y.2.2.2,(K.2.2.2.1.set (Int.toNat O) am),ay,az))
 ) else(
  some (.done (K.2.2.2.2.1,K.1,K.2.1,K.2.2.1))
 )
def ME(fu_:Nat)(O:Ax×B8)(U:(List Int)×(B8))(K:Ax×Int):Option (Bn (Ax×Int) (Ax)):=
 if K.2<((O.1).length:Int) then(
  (ix U.1 (K.2)).bind λZ=>
  (ix K.1 (Z)).bind λal=>
  (ix U.1 (K.2)).bind λY=>
  (ix O.1 (K.2)).bind λac=>
  (ix K.1 (Y)).bind λam=>
  (Au (K.2+1)).bind λag=>
  some (.more ((K.1.set (Int.toNat Y) ac),ag))
 ) else(
  some (.done K.1)
 )
def Nj(fu_:Nat)(p0:B8)(Z:AZ):Option (Ax×(B8)):=
 (Ni fu_ Z).bind λU=>
 (f49 fu_ p0 ((U).length:Int)).bind λK=>
 (Au (((K.1).length:Int) - 1)).bind λac=>
 Option.bind (iter (MJ fu_ K) fu_ (K.2.1,K.2.2.1,K.2.2.2,U,[],ac)) λO=>
 (IM ((O.1).length:Int) ((0,0,0):Int×Int×Int)).bind λag=>
 (f49 fu_ O.2 ((O.1).length:Int)).bind λY=>
 Option.bind (iter (ME fu_ O Y) fu_ (ag,0)) λal=>
 some (al,Y.2)
theorem ei{bk:Nat}{a1:An}{c2:Nat}{ey:An}{eA:Nat}{eC:An}{eN:Nat}{p0:B8}{a8:AZ}(gV:Al rI E a1 c2 (p0.1))(gW:Al (rL rI) E ey eA (a8.1))(gX:Al Aw E eC eN (a8.2)){fu_:Nat}{r:Ax×(B8)}(e0:Nj fu_ p0 a8=some r):AK J 16 [.pointer (some ⟨bk,0,none⟩),.agg #[.slice ey (a8.1).length eA,.slice eC (a8.2).length eN]] E [(bk,.cells #[.slice a1 (p0.1).length c2,iV p0.2.1,.int .u64 ((p0.2.2:Nat):Int)] 74 (0,0))] (λw E' B'=>∃(e1:An) (e3:Nat) (e4:An) (e5:Nat),w= .slice e1 (r.1).length e3/\B'= [(bk,.cells #[.slice e4 (r.2.1).length e5,iV r.2.2.1,.int .u64 ((r.2.2.2:Nat):Int)] 74 (0,0))]/\Al Aw E' e1 e3 (r.1)/\Al rI E' e4 e5 (r.2.1)):=by
 refine Bi Tryz.func16 λQ jD cs H gY gZ=>?_;unfold Nj at e0;refine C 2 V (Dp gY λjE jF bw g0 g1=>?_);refine C 4 V (B4 g0 Fc CV V V ?_);obtain⟨jG,g3,g4⟩:=bs e0;refine BY (dA (gW.Ag bw) (gX.Ag bw) g3) V V (A1 Tryz.func15 V) g1 ?_;rintro _ jH g5 e6 ⟨g6,g7,_,rfl,rfl,g8⟩ g9;refine C 6 V (JL.ln Tryz.underlying22 V V V ?_);obtain⟨a0,ha,hb⟩:=bs g4;refine Ch 0 (VR (gV.Ag (bw.trans e6)) ha) V V (A1 Tryz.func57 V) g9 V ?_;rintro _ c5 _ e7 ⟨a2,a3,hc,hd,rfl,rfl,e8,he⟩ hf;refine C 10 V (JL.ln Tryz.underlying22 V V V ?_);obtain⟨jI,hg,hj⟩:=bs hb;refine Ck hg V V V ?_;obtain⟨am,hk,hl⟩:=bs hj;refine C 2 V (Bt (λL s=>∃(bx:LH) (a9:An) (bb:Nat) (c6:Seg) (c7:An) (c8:Nat),Jn c5 H bx [[(bk,.cells #[.slice c7 (am.2.1).length c8,iV am.2.2.1,.int .u64 ((am.2.2.2:Nat):Int)] 74 (0,0))],c6] [(0,.pointer (some ⟨bk,0,none⟩)),(7,.slice a9 (am.1).length bb)] L s (OL 42 Aw bx a9 bb c6 (am.1)/\Al rI bx c7 c8 (am.2.1))) ?_ ?_)
 ·rintro _ _ ⟨bx,a9,bb,c6,c7,c8,rfl,rfl,hm,hn,ho,hp⟩;refine JL.seq (Cj 1 ho hn V λjJ ff hq hr=>?_);refine C 2 V (JL.ln Tryz.underlying26 V V V ?_);obtain⟨hs,ht,hu⟩:=bs hl;refine JS.make (pp:=Aw) ht V V V V V Tryz.underlying26 Bg (Dv Tryz.type42) (by decide) BP (by decide) ⟨_,_,V,V,⟨_,_,V,V,V⟩⟩ hr λhv hw hx hy=>C 6 V (JL.ln Tryz.underlying26 V V V ?_);obtain⟨ap,hz,hA⟩:=bs hu;refine Ch 0 (VR (hp.Ag ff) hz) V V (A1 Tryz.func57 V) hy V ?_;rintro _ c9 _ dd ⟨fk,fl,dn,ea,rfl,rfl,hB,hC⟩ hD;obtain⟨fm,hE,hF⟩:=bs hA;refine C 7 V (Bt (λL s=>∃(eb:LH) (bz:An) (b0:Nat) (ec:Seg),Jn c9 H eb [[(bk,.cells #[.slice dn (ap.2.1).length ea,iV ap.2.2.1,.int .u64 ((ap.2.2.2:Nat):Int)] 74 (0,0))],ec] [(12,.slice bz (fm).length b0)] L s (OL 42 Aw eb bz b0 ec (fm))) ?_ ?_)
  ·rintro _ _ ⟨eb,bz,b0,ec,rfl,rfl,fo,hG,hH⟩;refine C 5 V (Cj 1 hH hG V λjK fs hI hJ=>?_);obtain rfl:=oi hF;exact AS Tryz.func16 V V (gZ (((((((bw.trans e6).trans e7).trans hm).trans ff).trans dd).trans fo).trans fs) V ⟨bz,b0,dn,ea,V,V,hI,(hC.Ag (fo.trans fs))⟩ hJ)
  ·intro hK;refine JL.block (Cw hE (λL s al=>∃(be:LH) (b1:An) (a4:Nat) (b2:Seg),Jn c9 H be [[(bk,.cells #[.slice dn (ap.2.1).length ea,iV ap.2.2.1,.int .u64 ((ap.2.2.2:Nat):Int)] 74 (0,0))],b2] [(7,.slice a9 (am.1).length bb),(12,.slice b1 (al.1).length a4),(13,.slice fk (ap.1).length fl),(14,iV al.2)] L s (OL 42 Aw be b1 a4 b2 (al.1))) ⟨c9,(some ⟨hv,0,none⟩),(hs).length,hw,V,V,(Le.refl _),hD,(hx.Ag dd)⟩ ?_);rintro _ _ al ⟨be,b1,a4,b2,rfl,rfl,b3,fv,fw⟩ hL ⟨jL,ed⟩ hM;have fN:=ed;unfold ME at fN;refine C 5 V (JL.ln Tryz.underlying26 V V V ?_);refine C 2 V (AU fN (λhN hO=>?_) (λhN hP=>?_))
   ·obtain⟨jM,jN,hQ⟩:=bs hO;obtain⟨jO,hR,hS⟩:=bs hQ;refine C 3 V ?_;obtain⟨b4,f145,hT,b5⟩:=WL.of fw hR;obtain⟨rfl,rfl⟩:=hT;refine H8 [10] [b4] [] mixed V (Bm 0 V V ?_);refine Bm 1 V V (Bm 2 V V ?_);obtain⟨bi,hU,hV⟩:=bs hS;obtain⟨hW,hX,_,rfl,hY,hZ⟩:=Al.Wg (P:=Tryz.prog) (hB.Ag b3) hU;refine JB.val (v:= .pointer (some ⟨hW,hX,none⟩)) 3 true V (by decide+kernel) V V V (λρ h s' a5=>hZ Tryz.underlying22 Ay (h _ _ V) (h _ _ V)) (Km (v:=iV bi) 4 V (by decide+kernel) V V V (λρ h s' a5=>Yl.load A3 (h _ _ V) (At.Jh (j:=0) hY a5 V)) ?_);refine Bm 5 V V (Bm 6 V V ?_);obtain⟨O,h0,h1⟩:=bs hV;obtain⟨h2,h3,_,⟨_,_,rfl,rfl,⟨_,_,rfl,rfl,rfl⟩⟩,h4,h5⟩:=Al.Wg (P:=Tryz.prog) (hq.Ag (dd.trans b3)) h0;refine JB.val (v:= .pointer (some ⟨h2,h3,none⟩)) 7 true V (by decide+kernel) V V V (λρ h s' a5=>h5 Tryz.underlying26 Bg (h _ _ V) (h _ _ V)) (Km (v:= .agg #[iV O.1,iV O.2.1,iV O.2.2]) 8 V (by decide+kernel) V V V (λρ h s' a5=>IE (vs:= [iV O.1,iV O.2.1,iV O.2.2]) DO Bg (h _ _ V) (At.OF h4 a5)) ?_);obtain⟨jP,ee,h6⟩:=bs h1;obtain⟨_,⟨_,_,rfl,rfl,⟨_,_,rfl,rfl,rfl⟩⟩,jQ⟩:=WL.at b5 ee;refine JB.ix 9 b5.2 ee Tryz.underlying26 Bg ?_;have ef:=WL.put (x':=O) (ws':= [iV O.1,iV O.2.1,iV O.2.2]) b5 b5.2 ee ⟨_,_,V,V,⟨_,_,V,V,V⟩⟩;refine ET 10 1 fv Bg trivial ef.2 λh7=>?_;refine JB.fin (by decide+kernel) ?_;have h8:=(ef.1).1;have h9:((al.1.set (Int.toNat bi) O)).length=(al.1).length:=(ef.1).2;refine EH (L':= [(7,.slice a9 (am.1).length bb),(12,.slice (some ⟨b4,0,none⟩) ((al.1.set (Int.toNat bi) O)).length a4),(13,.slice fk (ap.1).length fl),(14,iV al.2)]) ⟨V,by rw [h9];rfl,V,V,trivial⟩ ?_;obtain⟨ia,ic,ie⟩:=bs h6;refine C 3 V (Bq ic V V V ?_);refine C 2 V ?_;obtain rfl:=oi ie;exact AB (hM _ _ ((al.1.set (Int.toNat bi) O),ia) ⟨be,(some ⟨b4,0,none⟩),a4,[(b4,.cells (Bd f145 (Int.toNat (bi)*3) [iV O.1,iV O.2.1,iV O.2.2]) 42 (0,0))],V,V,b3,h7,h8⟩ ed) V
   ·refine JL.exit V ?_;obtain rfl:=oi hP;obtain rfl:=hL _ ed;exact AB (hK _ _ ⟨be,b1,a4,b2,V,V,b3,fv,fw⟩) V
 ·intro ig;refine JL.block (Cw hk (λL s K=>∃(a6:LH) (b6:An) (ca:Nat) (Z:An) (ac:Nat) (eg:Seg) (aq:An) (av:Nat) (bn:Seg),Jn c5 H a6 [[(bk,.cells #[.slice b6 (K.1).length ca,iV K.2.1,.int .u64 ((K.2.2.1:Nat):Int)] 74 (0,0))],eg,bn] [(0,.pointer (some ⟨bk,0,none⟩)),(5,.slice Z (K.2.2.2.1).length ac),(6,.slice a2 (a0.1).length a3),(7,.slice aq (K.2.2.2.2.1).length av),(8,iV K.2.2.2.2.2)] L s (Al rI a6 b6 ca (K.1)/\OL 3 rI a6 Z ac eg (K.2.2.2.1)/\OL 42 Aw a6 aq av bn (K.2.2.2.2.1))) ⟨c5,hc,hd,g6,g7,g5,none,0,[],V,V,(Le.refl _),hf,he,(g8.Ag e7),OL.nil⟩ ?_);rintro _ _ K ⟨a6,b6,ca,Z,ac,eg,aq,av,bn,rfl,rfl,cc,gc,ge,ej,ce⟩ ih ⟨jR,ek⟩ ii;have gg:=ek;unfold MJ at gg;refine C 6 V (AU gg (λij ik=>?_) (λij il=>?_))
  ·refine C 4 V (Ff 12 λaw=>?_);refine A6 aw V [0,1] V ?_;obtain⟨az,io,iq⟩:=bs ik;refine Er 2 (e8.Ag cc) io aw Tryz.underlying22 Ay ?_;rintro ir iu _ rfl iv;refine Dw 3 aw 0 iv A3 V V V V (A6 aw V [4,5,6] V ?_);obtain⟨gh,iw,iy⟩:=bs iq;refine AL 7 aw V V (λρ h s' a5=>DJ (h _ _ V) (h _ _ V) iw) ?_;obtain⟨ag,iz,iA⟩:=bs iy;refine Qe (i:=8) (vs:= [.pointer (some ⟨bk,0,none⟩),iV gh]) 0 (λ_ h=>by cases h) (Kv ge iz) (by decide+kernel) V V V J8 V gc V ?_;rintro _ bo _ ay ⟨el,em,rfl,rfl,iB⟩ eo;obtain⟨U,iC,iD⟩:=bs iA;refine Er 9 (e8.Ag (cc.trans ay)) iC aw Tryz.underlying22 Ay ?_;rintro iE iF _ rfl iG;refine Dw 10 aw 0 iG A3 V V V V (Di 11 aw V V ?_);refine Dl [12] ?_;obtain⟨a7,iH,iI⟩:=bs iD;refine C 6 V (JN 1 (ej.Ag ay) iH V V V V V V Tryz.underlying22 Ay ?_);rintro iJ iK f223 _ iL rfl iM jS jT jU jV;refine Am (v:=iV a7) V (λρ h=>Yl.load A3 (h _ _ V) (BV (j:=1) eo iL (iM 0 _ V))) ?_;obtain⟨gl,iN,iO⟩:=bs iI;refine C 8 V (JN 1 (ej.Ag ay) iN V V V V V V Tryz.underlying22 Ay ?_);rintro iP iQ f234 _ iR rfl iS jW jX jY jZ;refine Am (v:=iV gl) V (λρ h=>Yl.load A3 (h _ _ V) (BV (j:=1) eo iR (iS 0 _ V))) ?_;obtain⟨Y,iT,iU⟩:=bs iO;refine C 1 V (Bq iT V V V ?_);obtain⟨j0,iW,iX⟩:=bs iU;refine JN 1 (ej.Ag ay) iW V V V V V V Tryz.underlying22 Ay ?_;rintro ci bv ep _ iY rfl j1 iZ i0 j2 j3;refine JS.store (v:=iV Y) (off:=bv) 1 V V V eo V V Ay (by simp [Value.cells,CP]) iY (by have:=iZ;simp only [Rp.n,rK,rN,rB,rP,rL] at this;show _+1<=_;omega) λer=>?_;have i1:=i0 (Y) [iV Y] V;have co:(K.2.2.2.1.set (Int.toNat U) Y).length=(K.2.2.2.1).length:=List.length_set;refine EH (L':= [(0,.pointer (some ⟨bk,0,none⟩)),(5,.slice Z ((K.2.2.2.1.set (Int.toNat U) Y)).length ac),(6,.slice a2 (a0.1).length a3),(7,.slice aq (K.2.2.2.2.1).length av),(8,iV K.2.2.2.2.2),(24,iV K.2.2.2.2.2),(25,.bool (decide (0<K.2.2.2.2.2))),(28,.slice a2 (a0.1).length a3),(29,iV K.2.2.2.2.2),(30,.pointer (some ⟨ir,iu,none⟩)),(31,iV az),(32,.slice a2 (a0.1).length a3),(33,.pointer (some ⟨bk,0,none⟩)),(34,iV K.2.2.2.2.2),(35,iV gh),(36,iV ag.1),(37,.pointer (some ⟨iE,iF,none⟩)),(38,iV U),(9,iV az),(10,iV U),(39,.slice Z ((K.2.2.2.1.set (Int.toNat U) Y)).length ac),(40,iV az),(41,.pointer (some ⟨iJ,iK,none⟩)),(42,iV a7),(11,iV a7),(43,.slice Z ((K.2.2.2.1.set (Int.toNat U) Y)).length ac),(44,iV U),(45,.slice Z ((K.2.2.2.1.set (Int.toNat U) Y)).length ac),(46,iV U),(47,.pointer (some ⟨iP,iQ,none⟩)),(48,iV gl),(49,iV a7),(50,iV Y),(51,.pointer (some ⟨ci,bv,none⟩))]) ⟨V,by rw [co];rfl,V,V,V,V,V,V,V,V,V,V,V,V,V,V,V,V,V,V,by rw [co];rfl,V,V,V,V,by rw [co];rfl,V,by rw [co];rfl,V,V,V,V,V,V,trivial⟩ ?_;obtain⟨eu,i3,i4⟩:=bs iX;refine C 6 V (Bt (λL s=>∃(cp:LH) (ct:An) (cw:Nat) (cy:Seg),Jn bo H cp [[(bk,.cells #[.slice el (ag.2.1).length em,iV ag.2.2.1,.int .u64 ((ag.2.2.2:Nat):Int)] 74 (0,0))],[(ci,.cells (Bd ep bv [iV Y]) 3 (0,0))],cy] [(0,.pointer (some ⟨bk,0,none⟩)),(5,.slice Z ((K.2.2.2.1.set (Int.toNat U) Y)).length ac),(6,.slice a2 (a0.1).length a3),(7,.slice ct (eu).length cw),(8,iV K.2.2.2.2.2)] L s (OL 42 Aw cp ct cw cy (eu))) ?_ ?_)
   ·rintro _ _ ⟨cp,ct,cw,cy,rfl,rfl,ew,i5,i6⟩;obtain⟨i7,i8,i9⟩:=bs i4;refine C 3 V (Ck i8 V V V ?_);refine C 2 V ?_;obtain rfl:=oi i9;exact AB (ii _ _ (ag.2.1,ag.2.2.1,ag.2.2.2,(K.2.2.2.1.set (Int.toNat U) Y),eu,i7) ⟨cp,el,em,Z,ac,[(ci,.cells (Bd ep bv [iV Y]) 3 (0,0))],ct,cw,cy,V,V,((cc.trans ay).trans ew),i5,(iB.Ag ew),(i1.Ag ew),i6⟩ ek) V
   ·intro gt;refine AU i3 (λja jb=>?_) (λja jc=>?_)
    ·refine C 5 V (Am (v:= .agg #[iV U,iV az,iV a7]) V (λρ h=>CZ [(0,1),(1,1),(2,1)] h BP Tryz.underlying42 ⟨V,AM Tryz.type3,V,AM Tryz.type3,V,AM Tryz.type3,trivial⟩ V V) ?_);obtain⟨j4,jd,je⟩:=bs jb;refine JS.app (pp:=Aw) (v:= .agg #[iV U,iV az,iV a7]) (a:=aq) (c:=av) 2 jd V V V V (λ_=>V) V (λ_=>V) V V V Tryz.underlying26 Tryz.underlying26 Tryz.underlying26 Bg (Dv Tryz.type42) BP V (by decide) (by decide) (by decide) (by decide) (ce.Ag ay) ⟨_,_,V,V,⟨_,_,V,V,V⟩⟩ er V λj5 jf jg jh ji jj=>C 2 V ?_;obtain rfl:=oi je;exact AB (gt _ _ ⟨bo,jf,jg,jh,V,V,(Le.refl _),jj,ji⟩) V
    ·obtain⟨gE,jk,jl⟩:=bs jc;refine C 5 V (Bt (λL s=>∃(c0:LH) (c1:An) (c3:Nat) (c4:Seg),Jn bo H c0 [[(bk,.cells #[.slice el (ag.2.1).length em,iV ag.2.2.1,.int .u64 ((ag.2.2.2:Nat):Int)] 74 (0,0))],[(ci,.cells (Bd ep bv [iV Y]) 3 (0,0))],c4] [(0,.pointer (some ⟨bk,0,none⟩)),(5,.slice Z ((K.2.2.2.1.set (Int.toNat U) Y)).length ac),(6,.slice a2 (a0.1).length a3),(7,.slice c1 (gE).length c3),(8,iV K.2.2.2.2.2)] L s (OL 42 Aw c0 c1 c3 c4 (gE))) ?_ ?_)
     ·rintro _ _ ⟨c0,c1,c3,c4,rfl,rfl,jm,jo,jp⟩;obtain rfl:=oi jl;exact AB (gt _ _ ⟨c0,c1,c3,c4,V,V,jm,jo,jp⟩) V
     ·intro gO;refine AU jk (λjq jr=>?_) (λjq js=>?_)
      ·obtain⟨ex,jt,ju⟩:=bs jr;refine C 5 V (Am (v:=iV ex) V (λρ h=>Hz (h _ _ V) jt) ?_);refine Am (v:= .agg #[iV az,iV U,iV ex]) V (λρ h=>CZ [(0,1),(1,1),(2,1)] h BP Tryz.underlying42 ⟨V,AM Tryz.type3,V,AM Tryz.type3,V,AM Tryz.type3,trivial⟩ V V) ?_;obtain⟨j6,jv,jw⟩:=bs ju;refine JS.app (pp:=Aw) (v:= .agg #[iV az,iV U,iV ex]) (a:=aq) (c:=av) 2 jv V V V V (λ_=>V) V (λ_=>V) V V V Tryz.underlying26 Tryz.underlying26 Tryz.underlying26 Bg (Dv Tryz.type42) BP V (by decide) (by decide) (by decide) (by decide) (ce.Ag ay) ⟨_,_,V,V,⟨_,_,V,V,V⟩⟩ er V λj7 jx jy jz jA jB=>C 2 V ?_;obtain rfl:=oi jw;exact AB (gO _ _ ⟨bo,jx,jy,jz,V,V,(Le.refl _),jB,jA⟩) V
      ·refine JL.skip ?_;obtain rfl:=oi js;exact AB (gO _ _ ⟨bo,aq,av,bn,V,V,(Le.refl _),er,(ce.Ag ay)⟩) V
  ·refine JL.exit V (JS.drop 1 gc V λjC=>?_);obtain rfl:=oi il;obtain rfl:=ih _ ek;exact AB (ig _ _ ⟨a6,aq,av,bn,b6,ca,V,V,cc,jC,ce,ge⟩) V
end Pal
namespace Pal
abbrev z5:List Int:=List.replicate 5 0
def GD(n:Nat)(d:DT):Prop:=0<=d.1/\d.1<(n:Int)/\0<=d.2.1/\d.2.1<(n:Int)/\d.1≠d.2.1/\1<=d.2.2/\d.2.2<=72
theorem bT{F n:Nat}{d:DT}(O:n<1000)(h:GD n d):f86 F d (n:Int) 72=some 0:=by
 obtain⟨U,Y,Z,ac,K,ag,al⟩:=h;show f88 F (n:Int) d 72=some 0;refine CW ?_;unfold f88;refine Bw ((n:Int) - 1) V (by omega) (by omega) (Bc (K6 _ _ _ _) ?_);refine Bc (b:=false) ?_ ?_
 ·rw [if_neg (by simp;omega)];refine CW (Bw ((n:Int) - 1) V (by omega) (by omega) (Bc (K6 _ _ _ _) (Az ?_)));simp;omega
 refine Cb (by simp) (Cb K ?_);exact Bc (K6 _ _ _ _) (Cb (by simp;omega) (Az V))
def eD(d:DT):Nat:=(max d.1 d.2.1 - 1).toNat+4*(min d.1 d.2.1).toNat
theorem Ro{n:Nat}{d:DT}(K:n<=5)(h:GD n d):eD d<20:=by
 obtain⟨O,U,Y,Z,_⟩:=h;unfold eD;omega
theorem T4{F n:Nat}{d:DT}(ac:n<=5)(h:GD n d):f106 F d.1 d.2.1=some (2 ^ eD d):=by
 obtain⟨O,U,Y,Z,K,_⟩:=h;obtain⟨x,y,p⟩:=d;simp only at O U Y Z K;have key:∀a b:Fin 5,a≠b->f106 0 ((a.val:Nat):Int) ((b.val:Nat):Int)=some (2 ^ eD (((a.val:Nat):Int),((b.val:Nat):Int),0)):=by decide+kernel
 obtain⟨a,rfl⟩:∃a:Nat,x=(a:Int):=⟨x.toNat,by omega⟩;obtain⟨b,rfl⟩:∃b:Nat,y=(b:Int):=⟨y.toNat,by omega⟩;exact key ⟨a,by omega⟩ ⟨b,by omega⟩ (λe=>K (by rw [Fin.mk.injEq] at e;omega))
theorem V3{n:Nat}{d d':DT}(Y:n<=5)(h:GD n d)(K:GD n d')(e:eD d=eD d'):(d.1=d'.1/\d.2.1=d'.2.1)∨(d.1=d'.2.1/\d.2.1=d'.1):=by
 obtain⟨Z,ac,ag,al,O,_⟩:=h;obtain⟨am,g2,ap,aq,U,_⟩:=K;unfold eD at e;rcases Int.lt_or_gt_of_ne O with k | k <;> rcases Int.lt_or_gt_of_ne U with k' | k'
 ·rw [Int.max_eq_right (by omega),Int.min_eq_left (by omega),Int.max_eq_right (by omega),Int.min_eq_left (by omega)] at e;omega
 ·rw [Int.max_eq_right (by omega),Int.min_eq_left (by omega),Int.max_eq_left (by omega),Int.min_eq_right (by omega)] at e;omega
 ·rw [Int.max_eq_left (by omega),Int.min_eq_right (by omega),Int.max_eq_right (by omega),Int.min_eq_left (by omega)] at e;omega
 ·rw [Int.max_eq_left (by omega),Int.min_eq_right (by omega),Int.max_eq_left (by omega),Int.min_eq_right (by omega)] at e;omega
def GA(l:List DT):Nat:=l.foldl (λm d=>m ||| 2 ^ eD d) 0
theorem Ya(l:List DT)(d:DT):GA (l++ [d])=GA l ||| 2 ^ eD d:=by unfold GA;rw [List.foldl_append];rfl
theorem TQ(l:List DT)(k:Nat):(GA l).testBit k=true↔k∈l.map eD:=by
 have:∀(l:List DT) (m:Nat),(l.foldl (λm d=>m ||| 2 ^ eD d) m).testBit k=true↔m.testBit k=true∨k∈l.map eD:=by
  intro l
  induction l with
  | nil=>simp
  | cons d l K=>
   intro m;rw [List.foldl_cons,K,Nat.testBit_or,Nat.testBit_two_pow,List.map_cons,List.mem_cons];simp only [Bool.or_eq_true,decide_eq_true_eq];constructor
   ·rintro((h | h) | h)
    ·exact .inl h
    ·exact .inr (.inl h.symm)
    ·exact .inr (.inr h)
   ·rintro(h | h | h)
    ·exact .inl (.inl h)
    ·exact .inl (.inr h.symm)
    ·exact .inr h
 rw [GA,this];simp
theorem Ue{n:Nat}(K:n<=5){l:List DT}(h:∀d∈l,GD n d):GA l<2 ^ 20:=by
 refine Nat.lt_pow_two_of_testBit _ λi hi=>?_;rcases hb:(GA l).testBit i with _ | _
 ·rfl
 ·obtain⟨d,hd,e⟩:=List.mem_map.1 ((TQ l i).1 hb);have:=Ro K (h d hd);omega
theorem bE{F n:Nat}{l:List DT}{d:DT}(U:n<=5)(Z:∀d∈l,GD n d)(h:GD n d):f136 F (GA l) d.1 d.2.1=some (decide (eD d∈l.map eD)):=by
 have ac:(2:Nat) ^ eD d<2 ^ 20:=Nat.pow_lt_pow_right (by decide) (Ro U h);have hm:=Ue U Z;refine CW ?_;unfold f136;refine Bc (T4 U h) ?_;refine Bc (b:=GA l&&& 2 ^ eD d) (by unfold OT;rw [if_pos (by omega)]) (Az ?_);have e:(GA l&&& 2 ^ eD d=0)↔¬(GA l).testBit (eD d)=true:=by
  constructor
  ·intro O K;have:(GA l&&& 2 ^ eD d).testBit (eD d)=true:=by rw [Nat.testBit_and,K,Nat.testBit_two_pow];simp
   rw [O,Nat.zero_testBit] at this;cases this
  ·intro O;refine Nat.eq_of_testBit_eq λi=>?_;rw [Nat.testBit_and,Nat.testBit_two_pow,Nat.zero_testBit];by_cases hi:eD d=i
   ·subst hi;simp at O;rw [O];rfl
   ·simp [hi]
 rw [TQ] at e;apply decide_eq_decide.2;constructor
 ·intro K;exact Classical.byContradiction λY=>K (by rw [e.2 Y])
 ·intro K Y;exact e.1 (by omega) K
theorem aF{F n:Nat}{l:List DT}{d:DT}(K:n<=5)(O:∀d∈l,GD n d)(h:GD n d):Nf F (GA l) d.1 d.2.1=some (GA (l++ [d])):=by
 have U:(2:Nat) ^ eD d<2 ^ 20:=Nat.pow_lt_pow_right (by decide) (Ro K h);have hm:=Ue K O;refine CW ?_;unfold Nf;refine Bc (T4 K h) ?_;refine Bc (b:=GA l ||| 2 ^ eD d) (by unfold O3;rw [if_pos (by omega)]) (Az (Ya l d).symm)
theorem BN.pay{B:Int}{w:List Int}{n:Nat}{d:DT}(h:BN B w)(U:n<=5)(g:GD n d):BN (B+144) (Cv w d):=by
 obtain⟨K,Y,O,Z,ac,ag,al⟩:=g;exact((h.add (i:=d.1) (v:=d.2.2) (V:=72) K (by omega) (by omega) (by omega)).add (i:=d.2.1) (v:= -d.2.2) (V:=72) O (by omega) (by omega) (by omega)).Ag (by omega)
theorem Sw{α:Type} [DecidableEq α] {x:List α}{i:Nat}(hi:i<x.length):(x.take (i+1)).Nodup↔(x.take i).Nodup/\x[i] ∉ x.take i:=by
 rw [List.take_add_one,List.getElem?_eq_getElem hi,Option.toList_some,List.nodup_append];constructor
 ·rintro⟨K,_,O⟩;exact⟨K,λh=>O _ h _ (List.mem_singleton.2 V) V⟩
 ·rintro⟨K,O⟩;exact⟨K,by simp,λa U b hb e=>O (by rw [List.mem_singleton] at hb;subst hb;subst e;exact U)⟩
theorem aj{F:Nat}{o:OW}{x:List DT}(am:100<F)(h:VO o)(Y:∀d∈x,GD o.1.length d)(aw:x.length<=8):
  Nh F o x=some (if(x.map eD).Nodup then(if x.foldl Cv (Bv o)=z5 then none else some 9) else some 4):=by
 have Z:=h.n5;refine CW ?_;unfold Nh;refine Cb (by omega) ?_;obtain⟨a1,ap⟩:=K5 am h;refine Bc a1 ?_;refine BA (S:=λr=>(r=Sum.inl (some 4)/\¬(x.map eD).Nodup)∨(r=Sum.inr (x.foldl Cv (Bv o))/\(x.map eD).Nodup)) ?_ ?_
 ·refine Em x.length (λi s=>s=((x.take i).foldl Cv (Bv o),GA (x.take i),(i:Int))/\((x.map eD).take i).Nodup/\BN (200+144*i) ((x.take i).foldl Cv (Bv o))) ⟨V,.nil,ap.Ag (by omega)⟩ (by omega) ?_ ?_
  ·rintro i _ hi ⟨rfl,K,hb⟩;unfold Ov;refine Da (by simp only;omega) (CO (m:=i) V hi ?_);have O:=Y _ (List.getElem_mem hi);have ac:∀d∈x.take i,GD o.1.length d:=λd hd=>Y d (List.mem_of_mem_take hd);refine Bc (bT (by omega) O) (Cb (by simp) ?_);refine Bc (bE Z ac O) ?_;have ag:i<(x.map eD).length:=by simpa using hi
   have al:(x.map eD)[i]=eD x[i]:=by simp
   rw [List.map_take];refine C9 (λhm=>Az ?_) (λhm=>?_)
   ·refine .inl ⟨V,λaq=>?_⟩;have:=((Sw ag).1 (aq.sublist (List.take_sublist _ _))).2;rw [al] at this;exact this (of_decide_eq_true hm)
   ·refine Bc (aF Z ac O) ?_;obtain⟨ay,g2,az,a0,a2,a3,a4⟩:=O;obtain⟨av,_⟩:=QD (F:=F) (d:=x[i]) hb (by omega) (by omega) (by omega) (by omega) (by omega) (by omega) (by omega);refine Bc av (Bw ((i+1:Nat):Int) (by simp) (by omega) (by omega) ?_);refine Az ⟨?_,(Sw ag).2 ⟨K,by rw [al];simpa using hm⟩,?_⟩
    ·rw [List.take_add_one,List.getElem?_eq_getElem hi,Option.toList_some,List.foldl_append];rfl
    ·rw [List.take_add_one,List.getElem?_eq_getElem hi,Option.toList_some,List.foldl_append];exact(BN.pay hb Z (Y _ (List.getElem_mem hi))).Ag (by omega)
  ·rintro _ ⟨rfl,K,hb⟩;unfold Ov;refine Cb (by simp only;omega) (Az ⟨_,V,.inr ⟨?_,?_⟩⟩)
   ·rw [List.take_length]
   ·rwa [List.take_of_length_le (by simp)] at K
 ·rintro r (⟨rfl,K⟩ | ⟨rfl,K⟩)
  ·rw [if_neg K];exact Az V
  ·rw [if_pos K];simp only [Sum.elim_inr];by_cases U:x.foldl Cv (Bv o)=z5
   ·rw [if_pos U];exact Cb (λh=>h U) (Az V)
   ·rw [if_neg U];exact Da U (Az V)
theorem bh{F:Nat}{o:OW}{x:List DT}(K:100<F)(h:VO o)(O:∀d∈x,GD o.1.length d)(U:x.length<=8):
  Nk F o x=some (if(x.map eD).Nodup then(if x.foldl Cv (Bv o)=z5 then 0 else 9) else 4):=by
 refine CW ?_;unfold Nk;refine Bc (O7 K h) (Cb (by simp) ?_);refine Bc (aj K h O U) (Bc (b:=if(x.map eD).Nodup then(if x.foldl Cv (Bv o)=z5 then 0 else 9) else 4) ?_ (Az V))
 split
 ·split
  ·show Pt F=some 0
   rfl
  ·rfl
 ·rfl
def cN(j:Nat)(d:DT):Int:=(if(j:Int)=d.2.1 then d.2.2 else 0)+(if(j:Int)=d.1 then -d.2.2 else 0)
theorem MF{w:List Int}{d:DT}(h:w.length=5):(Cv w d).length=5:=by unfold Cv EL;rw [List.length_set,List.length_set];exact h
theorem QH{w:List Int}{d:DT}{n:Nat}(h:w.length=5)(U:n<=5)(g:GD n d)(j:Nat):gN (Cv w d) j=gN w j - cN j d:=by
 obtain⟨K,Y,O,Z,_⟩:=g;unfold Cv cN;rw [He (by unfold EL;rw [List.length_set];exact h) O (by omega),He h K (by omega)];split <;> split <;> omega
theorem MD{n:Nat}(K:n<=5):∀(x:List DT) (w:List Int),w.length=5->(∀d∈x,GD n d)->(x.foldl Cv w).length=5/\∀j,gN (x.foldl Cv w) j=gN w j - (x.map (cN j)).sum
 | [],w,h,_=>⟨h,by simp⟩
 | d::x,w,h,O=>by
  obtain⟨U,Y⟩:=MD K x (Cv w d) (MF h) (λe he=>O e (List.mem_cons_of_mem _ he))
  refine⟨U,λj=>?_⟩
  rw [List.foldl_cons,Y,QH h K (O d List.mem_cons_self),List.map_cons,List.sum_cons];omega
theorem Rj(j:Nat):gN z5 j=0:=by
 unfold gN;rw [List.getD_eq_getElem?_getD,List.getElem?_replicate];split <;> rfl
theorem Zx{l l':List Int}(h:l.Perm l'):l.sum=l'.sum:=by
 induction h with
 | nil=>rfl
 | cons _ _ K=>rw [List.sum_cons,List.sum_cons,K]
 | swap a b l=>simp only [List.sum_cons];omega
 | trans _ _ a b=>exact a.trans b
theorem XD{n:Nat}{w:List Int}{x y:List DT}(K:n<=5)(hw:w.length=5)(O:∀d∈x,GD n d)(U:x.Perm y):x.foldl Cv w=y.foldl Cv w:=by
 obtain⟨a1,Y⟩:=MD K x w hw O;obtain⟨Z,ac⟩:=MD K y w hw (λd hd=>O d (U.mem_iff.2 hd));refine Ob a1 Z λj _=>?_;rw [Y,ac,Zx (U.map (cN j))]
def S5(w:List Int):Int:=CB w λ_=>true
theorem b9{w:List Int}{d:DT}{n:Nat}(h:w.length=5)(U:n<=5)(g:GD n d):S5 (Cv w d)=S5 w:=by
 obtain⟨K,Y,O,Z,_⟩:=g;unfold S5 Cv;rw [LJ (by unfold EL;rw [List.length_set];exact h) O (by omega),LJ h K (by omega)];simp;omega
theorem QM(A:Nat->Bool):CB z5 A=0:=by unfold CB;simp [Rj]
theorem Rt{o:OW}(h:VO o)(A:Nat->Bool): -72<=CB (Bv o) A/\CB (Bv o) A<=72:=by
 have O:=h.d8;have:∀l:List DT,(∀d∈l,VD o.1.length d)-> -(9*(l.length:Int))<=(l.map (s1 A)).sum/\(l.map (s1 A)).sum<=9*l.length:=by
  intro l
  induction l with
  | nil=>simp
  | cons d l K=>
   intro hd;have:=K λe he=>hd e (List.mem_cons_of_mem _ he);obtain⟨_,_,_,_,_,U,Y⟩:=hd d List.mem_cons_self;rw [List.map_cons,List.sum_cons,List.length_cons];have: -9<=s1 A d/\s1 A d<=9:=by unfold s1;split <;> split <;> omega
   omega
 have k:=this o.2 h.ds;have e:=Qa A o.2 z5 h.Wj V;rw [QM] at e;show -72<=CB (o.2.foldl Gk z5) A/\CB (o.2.foldl Gk z5) A<=72;omega
theorem gB{o:OW}(h:VO o):S5 (Bv o)=0:=by
 have:∀l:List DT,(l.map (s1 λ_=>true)).sum=0:=by
  intro l
  induction l with
  | nil=>rfl
  | cons d l K=>rw [List.map_cons,List.sum_cons,K];unfold s1;simp;omega
 unfold S5 Bv;rw [Qa _ _ _ h.Wj rfl,QM,this];rfl
open Go Go.Conc Go.Proofs
end Pal
namespace Pal
structure PI (n:Nat) (K:List Nat) (w:List Int) (i:Nat) (m:List Int) (out:List DT):Prop where
 ml:m.length=n
 gd:∀d∈out,GD n d
 Wm:∀k,i<k->k<n->gN (out.foldl Cv w) (K.getD k 0)=0
 rest:∀k,k<=i->k<n->gN m (K.getD k 0)=gN (out.foldl Cv w) (K.getD k 0)
 sub:∀A,∃B,CB (out.foldl Cv w) A=CB w B
 pl:∀d∈out,∃k j,i<k/\k<n/\j<k/\((d.1=((K.getD k 0:Nat):Int)/\d.2.1=((K.getD j 0:Nat):Int))∨(d.1=((K.getD j 0:Nat):Int)/\d.2.1=((K.getD k 0:Nat):Int)))
 nd:(out.map eD).Nodup
 ol:out.length+i+1<=n
def Jq(out:List DT)(u v:Nat)(z:Int):List DT:=if 0<z then out++ [((u:Int),(v:Int),z)] else if z<0 then out++ [((v:Int),(u:Int),-z)] else out
theorem PI.step{n:Nat}{K:List Nat}{w:List Int}{i j:Nat}{m:List Int}{out:List DT}(h:PI n K w i m out)(ag:n<=5)(hw:w.length=5)(hb:∀A,-72<=CB w A/\CB w A<=72)(U:PN n K)(be:0<i)(hi:i<n)(ay:j<i):
  PI n K w (i - 1) (m.set (K.getD j 0) (gN m (K.getD j 0)+gN m (K.getD i 0))) (Jq out (K.getD j 0) (K.getD i 0) (gN m (K.getD i 0))):=by
 have bi:=U.get hi;have hu:=U.get (show j<n by omega);have a6:K.getD j 0≠K.getD i 0:=λe=>by have:=U.inj (by omega) hi e;omega
 have al:=h.rest i (Nat.le_refl _) hi;have e2:=h.rest j (by omega) (by omega);obtain⟨az,bn⟩:=MD ag out w hw h.gd;have bo: -72<=gN m (K.getD i 0)/\gN m (K.getD i 0)<=72:=by
  obtain⟨B,am⟩:=h.sub λx=>x==K.getD i 0;rw [N4 (by omega)] at am;rw [al,am];exact hb B
 have O:∀d∈Jq out (K.getD j 0) (K.getD i 0) (gN m (K.getD i 0)),GD n d:=by
  intro d hd;unfold Jq at hd;split at hd
  ·rcases List.mem_append.1 hd with hd | hd
   ·exact h.gd d hd
   ·rw [List.mem_singleton] at hd;subst hd;unfold GD;simp only;omega
  ·split at hd
   ·rcases List.mem_append.1 hd with hd | hd
    ·exact h.gd d hd
    ·rw [List.mem_singleton] at hd;subst hd;unfold GD;simp only;omega
   ·exact h.gd d hd
 have aq:∀k,gN ((Jq out (K.getD j 0) (K.getD i 0) (gN m (K.getD i 0))).foldl Cv w) k=if k=K.getD i 0 then 0 else if k=K.getD j 0 then gN (out.foldl Cv w) (K.getD j 0)+gN (out.foldl Cv w) (K.getD i 0) else gN (out.foldl Cv w) k:=by
  intro k;unfold Jq at O ⊢;rw [← al];split
  ·rename_i Y;rw [if_pos Y] at O;have g:=O _ (List.mem_append_right _ List.mem_cons_self);rw [List.foldl_append,List.foldl_cons,List.foldl_nil,QH az ag g];unfold cN;simp only;by_cases k1:k=K.getD i 0
   ·subst k1;rw [if_pos rfl,if_neg (by omega),if_pos rfl];omega
   ·rw [if_neg (by omega),if_neg k1];by_cases Z:k=K.getD j 0
    ·subst Z;rw [if_pos rfl,if_pos rfl];omega
    ·rw [if_neg (by omega),if_neg Z];omega
  ·split
   ·rename_i av Y;rw [if_neg av,if_pos Y] at O;have g:=O _ (List.mem_append_right _ List.mem_cons_self);rw [List.foldl_append,List.foldl_cons,List.foldl_nil,QH az ag g];unfold cN;simp only;by_cases k1:k=K.getD i 0
    ·subst k1;rw [if_neg (by omega),if_pos rfl,if_pos rfl];omega
    ·by_cases Z:k=K.getD j 0
     ·subst Z;rw [if_pos rfl,if_neg (by omega),if_neg k1,if_pos rfl];omega
     ·rw [if_neg (by omega),if_neg (by omega),if_neg k1,if_neg Z];omega
   ·have Y:gN m (K.getD i 0)=0:=by omega
    by_cases k1:k=K.getD i 0
    ·subst k1;rw [if_pos rfl,← al,Y]
    ·rw [if_neg k1];by_cases Z:k=K.getD j 0
     ·subst Z;rw [if_pos rfl,Y];omega
     ·rw [if_neg Z]
 have a7:∀d:DT,GD n d->(d.1=((K.getD i 0:Nat):Int)/\d.2.1=((K.getD j 0:Nat):Int)∨d.1=((K.getD j 0:Nat):Int)/\d.2.1=((K.getD i 0:Nat):Int))->eD d ∉ out.map eD:=by
  intro d hd a0 hm;obtain⟨d',a2,e⟩:=List.mem_map.1 hm;obtain⟨k,l,a8,ap,a3,a4⟩:=h.pl d' a2;have a1:K.getD k 0≠K.getD i 0:=λe=>by have:=U.inj ap hi e;omega
  have bv:K.getD k 0≠K.getD j 0:=λe=>by have:=U.inj ap (by omega) e;omega
  have:=V3 ag (h.gd d' a2) hd e;omega
 refine⟨by rw [List.length_set];exact h.ml,O,λk a9 ac=>?_,λk a9 ac=>?_,λA=>?_,λd hd=>?_,?_,?_⟩
 ·rw [aq];by_cases a5:k=i
  ·subst a5;rw [if_pos rfl]
  ·rw [if_neg (λe=>a5 (U.inj ac hi e)),if_neg (λe=>by have:=U.inj ac (show j<n by omega) e;omega)];exact h.Wm k (by omega) ac
 ·rw [aq,if_neg (λe=>by have:=U.inj ac hi e;omega)];by_cases aw:k=j
  ·subst aw;rw [if_pos rfl,← al,← e2];unfold gN;rw [List.getD_eq_getElem?_getD,List.getElem?_set_self (by rw [h.ml];exact hu)];rfl
  ·rw [if_neg (λe=>aw (U.inj ac (by omega) e)),Rb (λe=>aw (U.inj ac (by omega) e.symm))];exact h.rest k (by omega) ac
 ·obtain⟨B,am⟩:=h.sub λx=>if x=K.getD i 0 then A (K.getD j 0) else A x
  exact⟨B,(SP (p:=K.getD i 0) (o:=K.getD j 0) (by omega) (by omega) a6 aq A).trans am⟩
 ·unfold Jq at hd;have old:d∈out->_:=λhd=>let ⟨k,l,a8,ap,a3,a4⟩:=h.pl d hd;(⟨k,l,by omega,ap,a3,a4⟩:∃k j,i - 1<k/\k<n/\j<k/\((d.1=((K.getD k 0:Nat):Int)/\d.2.1=((K.getD j 0:Nat):Int))∨(d.1=((K.getD j 0:Nat):Int)/\d.2.1=((K.getD k 0:Nat):Int))));split at hd
  ·rcases List.mem_append.1 hd with hd | hd
   ·exact old hd
   ·rw [List.mem_singleton] at hd;subst hd;exact⟨i,j,by omega,hi,ay,.inr ⟨V,V⟩⟩
  ·split at hd
   ·rcases List.mem_append.1 hd with hd | hd
    ·exact old hd
    ·rw [List.mem_singleton] at hd;subst hd;exact⟨i,j,by omega,hi,ay,.inl ⟨V,V⟩⟩
   ·exact old hd
 ·have add:∀d:DT,GD n d->(d.1=((K.getD i 0:Nat):Int)/\d.2.1=((K.getD j 0:Nat):Int)∨d.1=((K.getD j 0:Nat):Int)/\d.2.1=((K.getD i 0:Nat):Int))->((out++ [d]).map eD).Nodup:=by
   intro d hd a0;rw [List.map_append,List.nodup_append];refine⟨h.nd,by simp,λa bb b hb e=>?_⟩;simp at hb;subst hb;subst e;exact a7 d hd a0 bb
  unfold Jq at O ⊢;split
  ·rename_i Y;rw [if_pos Y] at O;exact add _ (O _ (List.mem_append_right _ List.mem_cons_self)) (.inr ⟨V,V⟩)
  ·split
   ·rename_i av Y;rw [if_neg av,if_pos Y] at O;exact add _ (O _ (List.mem_append_right _ List.mem_cons_self)) (.inl ⟨V,V⟩)
   ·exact h.nd
 ·have:=h.ol;unfold Jq;split
  ·rw [List.length_append,List.length_singleton];omega
  ·split
   ·rw [List.length_append,List.length_singleton];omega
   ·omega
theorem PI.fin{n:Nat}{U:List Nat}{o:OW}{m:List Int}{out:List DT}(h:PI n U (Bv o) 0 m out)(Z:VO o)(am:o.1.length=n)(hw:(Bv o).length=5)(ap:U.Perm (List.range n)):out.foldl Cv (Bv o)=z5:=by
 have aq:n<=5:=am▸Z.n5;have a1:2<=n:=am▸Z.n2;obtain⟨ay,az⟩:=MD aq out (Bv o) hw h.gd;have a2:U.length=n:=by rw [ap.length_eq];simp
 have O:S5 (out.foldl Cv (Bv o))=0:=by
  have:∀(l:List DT) (w:List Int),w.length=5->(∀d∈l,GD n d)->S5 (l.foldl Cv w)=S5 w:=by
   intro l
   induction l with
   | nil=>exact λ_ _ _=>rfl
   | cons d l ac=>exact λw hw Y=>(ac _ (MF hw) λe he=>Y e (List.mem_cons_of_mem _ he)).trans (b9 hw aq (Y d List.mem_cons_self))
  rw [this _ _ hw h.gd,gB Z]
 have K:∀j,j<5->j≠U.getD 0 0->gN (out.foldl Cv (Bv o)) j=0:=by
  intro j av ag;rcases Nat.lt_or_ge j n with aw | aw
  ·obtain⟨k,a0,e⟩:=List.getElem_of_mem (ap.mem_iff.2 (List.mem_range.2 aw));have al:U.getD k 0=j:=(H5 a0).trans e;have a3:k≠0:=λe=>ag (by rw [e] at al;exact al.symm);rw [← al];exact h.Wm k (by omega) (by omega)
  ·rw [az,Qs Z j (by omega)];have:∀l:List DT,(∀d∈l,GD n d)->(l.map (cN j)).sum=0:=by
    intro l
    induction l with
    | nil=>exact λ_=>rfl
    | cons d l ac=>
     intro Y;obtain⟨a4,g2,a5,a6,_⟩:=Y d List.mem_cons_self;rw [List.map_cons,List.sum_cons,ac λe he=>Y e (List.mem_cons_of_mem _ he)];unfold cN;rw [if_neg (by omega),if_neg (by omega)];rfl
   rw [this out h.gd];rfl
 refine Ob ay V λj av=>?_;rw [Rj];by_cases ag:j=U.getD 0 0
 ·unfold S5 CB at O;simp only [if_true] at O;obtain rfl | rfl | rfl | rfl | rfl:j=0∨j=1∨j=2∨j=3∨j=4:=by omega
  ·rw [K 1 (by omega) (by omega),K 2 (by omega) (by omega),K 3 (by omega) (by omega),K 4 (by omega) (by omega)] at O;omega
  ·rw [K 0 (by omega) (by omega),K 2 (by omega) (by omega),K 3 (by omega) (by omega),K 4 (by omega) (by omega)] at O;omega
  ·rw [K 1 (by omega) (by omega),K 0 (by omega) (by omega),K 3 (by omega) (by omega),K 4 (by omega) (by omega)] at O;omega
  ·rw [K 1 (by omega) (by omega),K 2 (by omega) (by omega),K 0 (by omega) (by omega),K 4 (by omega) (by omega)] at O;omega
  ·rw [K 1 (by omega) (by omega),K 2 (by omega) (by omega),K 3 (by omega) (by omega),K 0 (by omega) (by omega)] at O;omega
 ·exact K j av ag
theorem bC(F:Nat)(o:OW):Ni F o=f55 F o:=by
 have e:Qw F o=OX F o:=by funext s;rfl
 unfold f55 Ni;rw [e]
structure RP (o:OW) (x:List DT):Prop where
 gd:∀d∈x,GD o.1.length d
 nd:(x.map eD).Nodup
 z:x.foldl Cv (Bv o)=z5
 len:x.length+1<=o.1.length
theorem RP.perm{o:OW}{x y:List DT}(h:RP o x)(K:x.Perm y)(O:VO o)(hw:(Bv o).length=5):RP o y:=
 ⟨λd hd=>h.gd d (K.mem_iff.2 hd),(K.map eD).nodup_iff.1 h.nd,(XD O.n5 hw h.gd K).symm.trans h.z,by rw [← K.length_eq];exact h.len⟩
theorem Ri{l:List Int}{j:Nat}(h:j<l.length):ix l (j:Int)=some (gN l j):=by
 refine Jf (m:=j) V ?_;rw [List.getElem?_eq_getElem h,Kp h]
theorem Yi{F k:Nat}{o:OW}{b aw:HQ}{K:List Nat}(ay:100<F)(h:VO o)(hb:BG k b)(az:k<2000)(U:PN o.1.length K)(al:K.Perm (List.range o.1.length)):
  BO (Pal.iter (MJ F (K.map (λi:Nat=>(i:Int)),aw)) F (b.1,b.2.1,b.2.2,(Bv o).take o.1.length,[],((o.1.length - 1:Nat):Int))) (λr=>RP o r.1/\BG (k+5) r.2):=by
 obtain⟨_,Y⟩:=K5 ay h;have a0:=h.n5;have a7:=h.n2;refine Em (o.1.length - 1) (λt s=>∃i,i=o.1.length - 1 - t/\s.2.2.2.2.2=(i:Int)/\BG (k+t) (s.1,s.2.1,s.2.2.1)/\PI o.1.length K (Bv o) i s.2.2.2.1 s.2.2.2.2.1) ⟨_,V,by simp,hb,?_⟩ (by omega) ?_ ?_
 ·refine⟨by rw [List.length_take,Y.1];omega,λd hd=>absurd hd List.not_mem_nil,λk a1 am=>by omega,λk a1 am=>?_,λA=>⟨A,V⟩,λd hd=>absurd hd List.not_mem_nil,.nil,by simp;omega⟩;have az:=U.get am;rw [List.foldl_nil,Kp (by rw [List.length_take,Y.1];omega),Kp (by rw [Y.1];omega),List.getElem_take]
 ·rintro t ⟨l,z,a2,m,out,c⟩ a8 ⟨i,hi,Z,ac,O⟩;simp only at Z ac O;subst Z;have a3:0<i:=by omega
  have ag:i<o.1.length:=by omega
  unfold MJ;refine Da (by simp only;omega) ?_;simp only;have a9:K.length=o.1.length:=by rw [al.length_eq];simp
  have ap:∀q,q<o.1.length->ix (K.map λi:Nat=>(i:Int)) (q:Int)=some ((K.getD q 0:Nat):Int):=λq aq=>by
   refine Jf (m:=q) V ?_;rw [List.getElem?_map,List.getElem?_eq_getElem (by omega),Option.map_some,H5 (by omega)]
  refine Bc (ap i ag) (Bw ((i:Int) - 1) V (by omega) (by omega) ?_);refine BA (Kt ac (by omega) (by omega)) ?_;rintro⟨j,bb⟩ ⟨a4,a5,g2⟩;simp only at a4 a5 g2 ⊢;obtain⟨j,rfl⟩:∃q:Nat,j=(q:Int):=⟨j.toNat,by omega⟩;have a6:j<i:=by omega
  refine Bc (ap j (by omega)) ?_;have be:=U.get ag;have hu:=U.get (show j<o.1.length by omega);have bi:=O.ml;have bd:∀q,q<=i-> -72<=gN m (K.getD q 0)/\gN m (K.getD q 0)<=72:=λq aq=>by
   obtain⟨B,av⟩:=O.sub λx=>x==K.getD q 0;have bn:=U.get (show q<o.1.length by omega);rw [N4 (by omega)] at av;rw [O.rest q aq (by omega),av];exact Rt h B
  have bo:=bd i (Nat.le_refl _);have bv:=bd j (by omega);refine Bc (Ri (by omega)) ?_;refine Bc (Ri (by omega)) ?_;refine Bw _ V (by omega) (by omega) ?_;refine Bc (Ri (by omega)) ?_;have bw:=O.ol;refine Bc (b:=Jq out (K.getD j 0) (K.getD i 0) (gN m (K.getD i 0))) ?_ ?_
  ·unfold Jq;split
   ·exact CW (Kf (by omega) (Az V))
   ·split
    ·exact CW (Bc (CW (Bw _ V (by omega) (by omega) (Kf (by omega) (Az V)))) (Az V))
    ·rfl
  refine Bw ((i - 1:Nat):Int) (by omega) (by omega) (by omega) (Az ⟨i - 1,by omega,V,g2,?_⟩);simp only [Int.toNat_natCast];exact O.step a0 Y.1 (Rt h) U a3 ag a6
 ·rintro⟨l,z,a2,m,out,c⟩ ⟨i,hi,Z,ac,O⟩;simp only at Z ac O;subst Z;obtain rfl:i=0:=by omega
  unfold MJ;refine Cb (by simp) (Az ⟨_,V,⟨O.gd,O.nd,O.fin h V Y.1 al,by have:=O.ol;omega⟩,ac.Ag (by omega)⟩)
theorem Yg{F:Nat}{out:List DT}{K:List Nat}{b ap:HQ}(av:100<F)(aw:out.length<=5)(ag:PN out.length K)(al:K.Perm (List.range out.length)):
  BO (Pal.iter (ME F (out,b) (K.map (λi:Nat=>(i:Int)),ap)) F (List.replicate out.length (0,0,0),0)) (λr=>out.Perm r):=by
 have ay:K.length=out.length:=by rw [al.length_eq];simp
 refine Em out.length (λt s=>s.2=(t:Int)/\s.1.length=out.length/\∀q,q<t->s.1[K.getD q 0]? =out[q]?) ⟨V,by simp,λq O=>by omega⟩ (by omega) ?_ ?_
 ·rintro t ⟨l,c⟩ Z ⟨U,ac,Y⟩;simp only at U ac Y;subst U;unfold ME;refine Da (by simp only;omega) ?_;simp only;have hu:=ag.get Z;have am:ix (K.map λi:Nat=>(i:Int)) (t:Int)=some ((K.getD t 0:Nat):Int):=by
   refine Jf (m:=t) V ?_;rw [List.getElem?_map,List.getElem?_eq_getElem (by omega),Option.map_some,H5 (by omega)]
  refine Bc am (CO (m:=K.getD t 0) V (by omega) ?_);refine Bc am (CO (m:=t) V Z ?_);refine CO (m:=K.getD t 0) V (by omega) (Bw ((t+1:Nat):Int) (by simp) (by omega) (by omega) ?_);refine Az ⟨V,by simp [ac],λq O=>?_⟩;simp only [Int.toNat_natCast];by_cases e:q=t
  ·subst e;rw [List.getElem?_set_self (by omega),List.getElem?_eq_getElem Z]
  ·rw [List.getElem?_set_ne (λk=>e (ag.inj Z (by omega) k).symm)];exact Y q (by omega)
 ·rintro⟨l,c⟩ ⟨U,ac,Y⟩;simp only at U ac Y;subst U;unfold ME;refine Cb (by simp) (Az ⟨_,V,?_⟩);simp only;have aq:out=K.map λp=>l.getD p (0,0,0):=by
   refine List.ext_getElem? λq=>?_;rcases Nat.lt_or_ge q out.length with O | O
   ·have:=ag.get O;rw [← Y q O,List.getElem?_eq_getElem (show K.getD q 0<l.length by omega),List.getElem?_map,List.getElem?_eq_getElem (show q<K.length by omega),Option.map_some,← H5 (l:=K) (d:=0) (by omega),H5 (l:=l) (by omega)]
   ·rw [List.getElem?_eq_none O,List.getElem?_eq_none (by simp;omega)]
  have e2:(List.range out.length).map (λp=>l.getD p (0,0,0))=l:=by
   refine List.ext_getElem? λq=>?_;rcases Nat.lt_or_ge q out.length with O | O
   ·rw [List.getElem?_map,List.getElem?_range O,Option.map_some,H5 (by omega),List.getElem?_eq_getElem (by omega)]
   ·rw [List.getElem?_eq_none (by simp;omega),List.getElem?_eq_none (by omega)]
  rw [aq];refine(al.map _).trans ?_;rw [e2]
theorem bH{F k:Nat}{o:OW}{b:HQ}(K:100<F)(h:VO o)(hb:BG k b)(ay:k<900):BO (Nj F b o) (λr=>RP o r.1/\BG (k+20) r.2):=by
 obtain⟨_,U⟩:=K5 K h;have al:=h.n5;have az:=h.n2;have hlen:((Bv o).take o.1.length).length=o.1.length:=by rw [List.length_take,U.1];omega
 unfold Nj;refine Bc ((bC F o).trans (eH K h)) ?_;rw [hlen];refine BA (UR K hb (by omega) al) ?_;rintro⟨a0,a1⟩ ⟨am,ap,Y,rfl,Z⟩;simp only at Z ⊢;have a2:am.length=o.1.length:=by rw [Y.length_eq];simp
 refine Bw ((o.1.length - 1:Nat):Int) (by simp;omega) (by omega) (by omega) (BA (Yi K h Z (by omega) ap Y) ?_);rintro⟨out,a3⟩ ⟨O,ac⟩;simp only at O ac ⊢;have a4:=O.len;refine Bc (b:=List.replicate out.length (0,0,0)) (by unfold IM;rw [if_pos (by omega)];simp) (BA (UR K ac (by omega) (by omega)) ?_);rintro⟨pl,a5⟩ ⟨a6,aq,av,rfl,ag⟩;simp only at ag ⊢;refine BA (Yg K (by omega) aq av) ?_;intro l aw;exact Az ⟨O.perm aw h U.1,ag.Ag (by omega)⟩
def BB(l:List Int):Int:=l.foldl (λm x=>max m (x+1)) 0
theorem Oa(l:List Int)(k:Int):BB (l++ [k])=max (BB l) (k+1):=by unfold BB;rw [List.foldl_append];rfl
def RG(l:List Int):Prop:=0<=BB l/\BB l<=(l.length:Int)/\∀x∈l,0<=x/\x<BB l
theorem RG.nil:RG []:=⟨Int.le_refl _,Int.le_refl _,λx K=>by cases K⟩
theorem RG.snoc{l:List Int}{k:Int}(h:RG l)(Y:0<=k)(Z:k<=BB l):RG (l++ [k]):=by
 obtain⟨ac,ag,O⟩:=h;have U:((l++ [k]).length:Int)=(l.length:Int)+1:=by simp
 unfold RG;rw [Oa,U];refine⟨by omega,by omega,λx K=>?_⟩;rcases List.mem_append.1 K with K | K
 ·have:=O x K;omega
 ·cases List.mem_singleton.1 K;omega
def Eh:Nat->List Int->List (List Int)
 | 0,l=> [l]
 | j+1,l=>(List.range ((BB l).toNat+1)).flatMap λk:Nat=>Eh j (l++ [(k:Int)])
theorem Q2:∀(j:Nat) (l:List Int),RG l->∀x∈Eh j l,RG x/\x.length=l.length+j
 | 0,l,h,x,K=>by cases List.mem_singleton.1 K;exact⟨h,rfl⟩
 | j+1,l,h,x,K=>by
  obtain⟨k,O,K⟩:=List.mem_flatMap.1 K
  have O:=List.mem_range.1 O
  have Y:=h.1
  obtain⟨U,g2⟩:=Q2 j _ (h.snoc (k:=(k:Int)) (by omega) (by omega)) x K
  exact⟨U,by rw [g2];simp;omega⟩
theorem Z6{F:Nat}{l:List Int}(Y:100<F)(h:RG l)(Z:l.length<=20):f101 F l=some (BB l):=by
 obtain⟨ac,ag,U⟩:=h;refine CW ?_;unfold f101;refine BA (S:=λr=>r=BB l) ?_ (by rintro r rfl;exact Az rfl);refine Em l.length (λi s=>s.2=(i:Int)/\s.1=BB (l.take i)) ⟨V,V⟩ (by omega) ?_ ?_
 ·rintro i ⟨m,z⟩ hi ⟨K,O⟩;simp only at K O;subst K;subst O;have al:=U _ (List.getElem_mem hi);unfold Ow
  dsimp only;refine Da (by omega) (CO (m:=i) V hi ?_);refine Bw _ V (by omega) (by omega) (Bw ((i+1:Nat):Int) (by simp) (by omega) (by omega) ?_);refine Az ⟨V,?_⟩;simp only;rw [List.take_add_one,List.getElem?_eq_getElem hi,Option.toList_some,Oa]
 ·rintro⟨m,z⟩ ⟨K,O⟩;simp only at K O;subst K;subst O;unfold Ow
  dsimp only;exact Cb (by omega) (Az ⟨_,V,by rw [List.take_length]⟩)
def GI(w l:List Int)(g:Int):Nat->Int
 | 0=>0
 | i+1=>GI w l g i+if l.getD i 0=g then gN w i else 0
def sm(w l:List Int)(g:Int):Int:=GI w l g l.length
theorem Uz(w l:List Int)(k g:Int):∀i,i<=l.length->GI w (l++ [k]) g i=GI w l g i
 | 0,_=>rfl
 | i+1,h=>by
  show GI w (l++ [k]) g i+_=GI w l g i+_
  rw [Uz w l k g i (by omega),List.getD_eq_getElem?_getD,List.getElem?_append_left (by omega),← List.getD_eq_getElem?_getD]
theorem Z5(w l:List Int)(k g:Int):sm w (l++ [k]) g=sm w l g+if k=g then gN w l.length else 0:=by
 unfold sm;rw [List.length_append,List.length_singleton];show GI w (l++ [k]) g l.length+_=_;rw [Uz w l k g _ (Nat.le_refl _),List.getD_eq_getElem?_getD,List.getElem?_append_right (Nat.le_refl _),Nat.sub_self]
 rfl
theorem TS{w l:List Int}{g:Int}(h:∀x∈l,x≠g):∀i,i<=l.length->GI w l g i=0
 | 0,_=>rfl
 | i+1,hi=>by
  show GI w l g i+_=0
  rw [TS h i (by omega),if_neg,Int.add_zero]
  rw [H5 (by omega)]
  exact h _ (List.getElem_mem _)
def Jo(w l:List Int):Prop:=∀g:Nat,(g:Int)<BB l->sm w l g=0
noncomputable def Eg(w:List Int)(b l:List Int):List Int:=open Classical in if Jo w l/\BB b<BB l then l else b
theorem dG(w b l:List Int):Eg w b l=l∨Eg w b l=b:=by
 unfold Eg;split
 ·exact .inl V
 ·exact .inr V
noncomputable def Gw(o:OW):List Int:=(Eh o.1.length []).foldl (Eg (Bv o)) []
theorem TH{l:List Int}{i:Nat}(hi:i<l.length):BB (l.take (i+1))=max (BB (l.take i)) (l[i]+1):=by
 rw [List.take_add_one,List.getElem?_eq_getElem hi,Option.toList_some,Oa]
theorem UW{F:Nat}{l:List Int}(ac:100<F)(h:RG l)(U:0<l.length)(ag:l.length<=20):f98 F l=some (BB l - 1):=by
 obtain⟨al,am,Y⟩:=h;refine CW ?_;unfold f98;refine Cb (by omega) (CO (m:=0) V U ?_);have Z:BB (l.take 1)=l[0]+1:=by
  have ap:=Y _ (List.getElem_mem U);rw [TH U];show(max 0 (l[0]+1):Int)=_;omega
 refine BA (S:=λr=>r=BB l - 1) ?_ (by rintro r rfl;exact Az rfl);refine Em (l.length - 1) (λi s=>s.2=((i+1:Nat):Int)/\s.1=BB (l.take (i+1)) - 1) ⟨V,by rw [Z];simp only;omega⟩ (by omega) ?_ ?_
 ·rintro i ⟨m,z⟩ hi ⟨K,O⟩;simp only at K O;subst K;subst O;unfold OO
  dsimp only;refine Da (by omega) (CO (m:=i+1) V (by omega) ?_);refine Bw ((i+1+1:Nat):Int) (by simp) (by omega) (by omega) (Az ⟨V,?_⟩);simp only;rw [TH (i:=i+1) (by omega)];omega
 ·rintro⟨m,z⟩ ⟨K,O⟩;simp only at K O;subst K;subst O;unfold OO
  dsimp only;rw [show l.length - 1+1=l.length by omega,List.take_length];exact Cb (by omega) (Az ⟨_,V,V⟩)
theorem dH{F:Nat}{b l:List Int}(U:100<F)(h:RG l)(O:0<l.length)(Y:l.length<=20)(hb:RG b)(Z:b.length<=20):
  f96 F (b,decide (b≠ [])) l=some (if BB b<BB l then(l,decide (l≠ [])) else(b,decide (b≠ []))):=by
 have ac:0<BB l:=by
  have:=h.2.2 _ (List.getElem_mem O);omega
 have ag:l≠ []:=by rintro rfl;simp at O
 refine CW ?_;unfold f96;refine BA (S:=λq=>q=decide (BB b<BB l)) ?_ ?_
 ·refine C9 (λK=>Az ?_) (λK=>?_)
  ·have:b= []:=by simpa using K
   subst this;exact(decide_eq_true (show BB []<BB l from ac)).symm
  ·have al:b≠ []:=by simpa using K
   have am:0<b.length:=Nat.pos_of_ne_zero λe=>al (List.eq_nil_of_length_eq_zero e);unfold f97;refine Bc (b:=decide (BB b - 1<BB l - 1)) ?_ (Az (decide_eq_decide.2 (by omega)));rw [UW U h O Y,Option.bind_some,UW U hb am Z,Option.bind_some]
 ·rintro q rfl;refine BA (S:=λr=>r=if BB b<BB l then(l,decide (l≠ [])) else(b,decide (b≠ []))) ?_ (by rintro r rfl;exact Az rfl)
  refine C9 (λK=>Az ?_) (λK=>Az ?_)
  ·rw [if_pos (of_decide_eq_true K),decide_eq_true ag]
  ·rw [if_neg (λk=>K (decide_eq_true k))]
theorem US{F:Nat}{o:OW}{w:List Int}(al:100<F)(ap:2<=o.1.length)(aq:o.1.length<=5)(hw:BN 200 w):∀(j N:Nat) (l S b:List Int),j<N->l.length+j=o.1.length->RG l->BN (200*(l.length:Int)) S->(∀g:Nat,g<5->gN S g=sm w l g)->RG b->b.length<=20->
  L4 N F l S (BB l) o (b,decide (b≠ [])) w=some ((Eh j l).foldl (Eg w) b,decide ((Eh j l).foldl (Eg w) b≠ []))
 | 0,N+1,l,S,b,_,av,h,U,Z,hb,ag=>by
  show La (L4 N F) F l S (BB l) o (b,decide (b≠ [])) w=_
  have K:S=List.replicate 5 0↔Jo w l:=by
   constructor
   ·intro e g ac;have:=h.2.1;rw [← Z g (by omega),e];unfold gN;rw [List.getD_eq_getElem?_getD,List.getElem?_replicate];split <;> rfl
   ·intro k;refine Ob U.1 (by simp) λg ac=>?_;rw [Z g ac,show gN (List.replicate 5 (0:Int)) g=0 by unfold gN;rw [List.getD_eq_getElem?_getD,List.getElem?_replicate];split <;> rfl];rcases Int.lt_or_le (g:Int) (BB l) with aw | a4
    ·exact k g aw
    ·exact TS (λx O=>by have:=h.2.2 x O;omega) _ (Nat.le_refl _)
  refine CW ?_;unfold La;refine Da (by omega) (BA (S:=λr=>r=(Eg w b l,decide (Eg w b l≠ []))) ?_ (by rintro r rfl;exact Az rfl));refine C9 (λhe=>?_) (λhe=>Az ?_)
  ·refine Bc (dH al h (by omega) (by omega) hb ag) (Az ?_);unfold Eg;by_cases hm:BB b<BB l
   ·rw [if_pos hm,if_pos ⟨K.1 he,hm⟩]
   ·rw [if_neg hm,if_neg (λk=>hm k.2)]
  ·unfold Eg;rw [if_neg (λk=>he (K.2 k.1))]
 | j+1,N+1,l,S,b,a5,av,h,U,Z,hb,ag=>by
  have a6:=h.1;have a7:=h.2.1;have a8:=hw.bd (show l.length<5 by omega);show La (L4 N F) F l S (BB l) o (b,decide (b≠ [])) w=_;have ay:∀i,i<=(BB l).toNat+1->RG (((List.range i).flatMap λk:Nat=>Eh j (l++ [(k:Int)])).foldl (Eg w) b)/\(((List.range i).flatMap λk:Nat=>Eh j (l++ [(k:Int)])).foldl (Eg w) b).length<=20:=by
   intro i hi;have:∀(L:List (List Int)) (b:List Int),(∀x∈L,RG x/\x.length<=20)->(RG b/\b.length<=20)->RG (L.foldl (Eg w) b)/\(L.foldl (Eg w) b).length<=20:=by
    intro L
    induction L with
    | nil=>intro b _ hb;exact hb
    | cons x L az=>
     intro b O hb;rw [List.foldl_cons];refine az _ (λy a0=>O y (List.mem_cons_of_mem _ a0)) ?_;rcases dG w b x with e | e <;> rw [e]
     ·exact O x List.mem_cons_self
     ·exact hb
   refine this _ b (λx O=>?_) ⟨hb,ag⟩;obtain⟨k,am,O⟩:=List.mem_flatMap.1 O;have am:=List.mem_range.1 am;obtain⟨a1,g2⟩:=Q2 j _ (h.snoc (k:=(k:Int)) (by omega) (by omega)) x O;exact⟨a1,by rw [g2];simp;omega⟩
  refine CW ?_;unfold La;refine Cb (by omega) (Bw _ rfl (by omega) (by omega) ?_);refine BA (S:=λr=>r=((Eh (j+1) l).foldl (Eg w) b,decide ((Eh (j+1) l).foldl (Eg w) b≠ []))) ?_ (by rintro r rfl;exact Az rfl);refine Em ((BB l).toNat+1) (λi s=>s.2.2=(i:Int)/\s.1=((List.range i).flatMap λk:Nat=>Eh j (l++ [(k:Int)])).foldl (Eg w) b/\s.2.1=decide (s.1≠ [])) ⟨rfl,rfl,rfl⟩ (by omega) ?_ ?_
  ·rintro i ⟨m,q,z⟩ hi ⟨K,hm,Y⟩;simp only at K hm;change q=decide (m≠ []) at Y;obtain⟨r1,r2⟩:=ay i (by omega);subst K;subst Y;rw [← hm] at r1 r2;have a9:=U.bd (show i<5 by omega);have a2:S.set i (gN S i+gN w l.length)=EL S (i:Int) (gN w l.length):=by unfold EL;rw [show Int.toNat (i:Int)=i by omega]
   unfold OM
   dsimp only;refine Da (by omega) (Bc (U.ix (by omega) (by omega)) ?_);refine Bc (hw.ix (by omega) (by omega)) ?_;rw [show Int.toNat (i:Int)=i by omega,show Int.toNat (l.length:Int)=l.length by omega];refine Bw _ rfl (by omega) (by omega) (Bc (U.ix (by omega) (by omega)) ?_);refine Bw ((i+1:Nat):Int) (by simp) (by omega) (by omega) (BO.No (by simp;omega) ?_);rw [a2,show max (BB l) (((i+1:Nat):Int))=BB (l++ [(i:Int)]) by rw [Oa];simp];have a3:(((l++ [(i:Int)]).length:Nat):Int)=(l.length:Int)+1:=by simp
   refine Bc (US al ap aq hw j N (l++ [(i:Int)]) (EL S (i:Int) (gN w l.length)) m (by omega) (by simp;omega) (h.snoc (by omega) (by omega)) ((U.add (V:=200) (by omega) (by omega) (by omega) (by omega)).Ag (by rw [a3];omega)) (λg ac=>?_) r1 r2) ?_
   ·rw [He U.1 (by omega) (by omega),Z g ac,Z5];by_cases e:(g:Int)=(i:Int)
    ·rw [if_pos e,if_pos e.symm]
    ·rw [if_neg e,if_neg (λk=>e k.symm)]
   ·refine Bw ((i+1:Nat):Int) (by simp) (by omega) (by omega) (Az ⟨rfl,?_,rfl⟩);simp only;rw [List.range_succ,List.flatMap_append,List.foldl_append,← hm];simp only [List.flatMap_cons,List.flatMap_nil,List.append_nil]
  ·rintro⟨m,q,z⟩ ⟨K,hm,Y⟩;simp only at K hm;change q=decide (m≠ []) at Y;subst K;subst Y;subst hm;unfold OM
   dsimp only;exact Cb (by omega) (Az ⟨_,rfl,rfl⟩)
theorem eS{F:Nat}{o:OW}(U:4000<F)(h:VO o):f52 F o=some (Gw o,0):=by
 have K:=h.n5;obtain⟨hw,hb⟩:=K5 (F:=F) (by omega) h;refine CW ?_;unfold f52;refine Bc (O7 (by omega) h) ?_;refine Cb (by simp) ?_;refine Bc hw ?_;have:=US (F:=F) (by omega) h.n2 K hb o.1.length F [] (List.replicate 5 0) [] (by omega) (by simp) RG.nil ⟨by simp,λx O=>by have:=List.eq_of_mem_replicate O;omega⟩ (λg Y=>by unfold gN sm GI;rw [List.getD_eq_getElem?_getD,List.getElem?_replicate];split <;> rfl) RG.nil (by simp);refine Bc (b:=(Gw o,decide (Gw o≠ []))) this (Az V)
theorem Vz{a v:Int}(K:0<=a)(O:a<5):(if((0:Nat):Int)=a then v else 0)+(if((1:Nat):Int)=a then v else 0)+(if((2:Nat):Int)=a then v else 0)+(if((3:Nat):Int)=a then v else 0)+(if((4:Nat):Int)=a then v else 0)=v:=by
 have:a=0∨a=1∨a=2∨a=3∨a=4:=by omega
 rcases this with rfl | rfl | rfl | rfl | rfl <;> simp
def Lr(w:List Int):Int:=gN w 0+gN w 1+gN w 2+gN w 3+gN w 4
theorem Z7{w:List Int}{d:DT}(h:w.length=5)(a1:0<=d.1)(K:d.1<5)(O:0<=d.2.1)(U:d.2.1<5):Lr (Gk w d)=Lr w:=by
 unfold Lr;rw [MS h a1 K O U,MS h a1 K O U,MS h a1 K O U,MS h a1 K O U,MS h a1 K O U];have Y:=Vz (v:=d.2.2) O U;have Z:=Vz (v:= -d.2.2) a1 K;omega
theorem bf{o:OW}(h:VO o):Lr (Bv o)=0:=by
 have Z:=h.n5;have:∀(l:List DT) (w:List Int),(∀d∈l,VD o.1.length d)->w.length=5->Lr w=0->Lr (l.foldl Gk w)=0:=by
  intro l
  induction l with
  | nil=>intro w _ _ hw;exact hw
  | cons d l O=>
   intro w hd K hw;obtain⟨v1,v2,U,v4,-⟩:=hd d List.mem_cons_self;rw [List.foldl_cons];exact O _ (λx Y=>hd x (List.mem_cons_of_mem _ Y)) (T6 K) (by rw [Z7 K v1 (by omega) U (by omega),hw])
 exact this _ _ h.ds (by simp) (by decide)
theorem Ql:∀(j:Nat) (l:List Int),l++List.replicate j 0∈Eh j l
 | 0,l=>by simp [Eh]
 | j+1,l=>List.mem_flatMap.2 ⟨0,List.mem_range.2 (by omega),by
   have:=Ql j (l++ [((0:Nat):Int)])
   rw [List.replicate_succ,show l++(0:Int)::List.replicate j 0=(l++ [((0:Nat):Int)])++List.replicate j 0 by simp]
   exact this⟩
theorem Tk{o:OW}(h:VO o):Jo (Bv o) (List.replicate o.1.length 0)/\0<BB (List.replicate o.1.length 0):=by
 have ac:=h.n2;have ag:=h.n5;have O:=Qs h;have Y:=bf h;unfold Lr at Y;generalize Bv o=w at*;generalize o.1.length=n at*;have:n=2∨n=3∨n=4∨n=5:=by omega
 have Z:=O 2;have U:=O 3;have e2:=O 4;rcases this with rfl | rfl | rfl | rfl <;> refine⟨λg K=>?_,by decide⟩
 ·have:g=0:=by change (g:Int)<1 at K;omega
  subst this;show(0:Int)+gN w 0+gN w 1=0;have:=Z (by omega);have:=U (by omega);have:=e2 (by omega);omega
 ·have:g=0:=by change (g:Int)<1 at K;omega
  subst this;show(0:Int)+gN w 0+gN w 1+gN w 2=0;have:=U (by omega);have:=e2 (by omega);omega
 ·have:g=0:=by change (g:Int)<1 at K;omega
  subst this;show(0:Int)+gN w 0+gN w 1+gN w 2+gN w 3=0;have:=e2 (by omega);omega
 ·have:g=0:=by change (g:Int)<1 at K;omega
  subst this;show(0:Int)+gN w 0+gN w 1+gN w 2+gN w 3+gN w 4=0;omega
theorem gk(w b l:List Int):BB b<=BB (Eg w b l)/\(Jo w l->BB l<=BB (Eg w b l)):=by
 unfold Eg;split
 ·rename_i h;exact⟨Int.le_of_lt h.2,λ_=>Int.le_refl _⟩
 ·rename_i h;exact⟨Int.le_refl _,λK=>Int.not_lt.1 λk=>h ⟨K,k⟩⟩
theorem MI{w l:List Int}(K:Jo w l):∀(L:List (List Int)) (b:List Int),BB b<=BB (L.foldl (Eg w) b)/\(l∈L->BB l<=BB (L.foldl (Eg w) b))
 | [],b=>⟨Int.le_refl _,λh=>by cases h⟩
 | x::L,b=>by
  rw [List.foldl_cons]
  obtain⟨O,g2⟩:=MI K L (Eg w b x)
  obtain⟨k1,U⟩:=gk w b x
  refine⟨Int.le_trans k1 O,λh=>?_⟩
  rcases List.mem_cons.1 h with rfl | h
  ·exact Int.le_trans (U K) O
  ·exact g2 h
theorem YD{o:OW}(h:VO o):Gw o≠ []:=by
 obtain⟨K,U⟩:=Tk h;have O:=(MI K (Eh o.1.length []) []).2 (by simpa using Ql o.1.length []);intro e;unfold Gw at e;rw [e] at O;have:BB []=0:=V;omega
theorem VC{w:List Int}{p o:Nat}{x:PR}(hw:w.length=5)(ag:p<5)(al:o<5)(Y:o≠p)(ac:x.1+x.2 - (p:Int)=o)(j:Nat):gN (Cv w (dP p x (gN w p))) j=if j=p then 0 else if j=o then gN w o+gN w p else gN w j:=by
 have Z:∀i v,(EL w i v).length=5:=λi v=>by unfold EL;rw [List.length_set];exact hw
 unfold dP;rw [ac];unfold Cv;by_cases h:0<gN w p
 ·rw [if_pos h];simp only;rw [He (Z _ _) (by omega) (by omega),He hw (by omega) (by omega)];have O:((j:Int)=(p:Int))=(j=p):=propext ⟨by omega,by omega⟩;have U:((j:Int)=(o:Int))=(j=o):=propext ⟨by omega,by omega⟩;simp only [O,U];by_cases K:j=p
  ·subst K;rw [if_neg (Ne.symm Y),if_pos rfl,if_pos rfl];omega
  ·rw [if_neg K,if_neg K];by_cases e2:j=o
   ·subst e2;rw [if_pos rfl,if_pos rfl];omega
   ·rw [if_neg e2,if_neg e2];omega
 ·rw [if_neg h];simp only;rw [He (Z _ _) (by omega) (by omega),He hw (by omega) (by omega)];have O:((j:Int)=(p:Int))=(j=p):=propext ⟨by omega,by omega⟩;have U:((j:Int)=(o:Int))=(j=o):=propext ⟨by omega,by omega⟩;simp only [O,U];by_cases K:j=p
  ·subst K;rw [if_pos rfl,if_neg (Ne.symm Y),if_pos rfl];omega
  ·rw [if_neg K,if_neg K];by_cases e2:j=o
   ·subst e2;rw [if_pos rfl,if_pos rfl];omega
   ·rw [if_neg e2,if_neg e2];omega
theorem W9{α:Type}{l:List α}{i:Nat}(h:i<l.length):(l[i]::l.eraseIdx i).Perm l:=by
 rw [List.eraseIdx_eq_take_drop_succ];refine List.perm_middle.symm.trans ?_;rw [← List.drop_eq_getElem_cons h,List.take_append_drop]
def Np(d:DT):PR:=(min d.1 d.2.1,max d.1 d.2.1)
theorem cT{n p:Nat}{x:PR}{m:Int}(O:VP n x)(K:BF p x=true):Np (dP p x m)=x:=by
 obtain⟨v1,v2,U⟩:=O;unfold BF at K;simp at K;obtain⟨Y,x2⟩:=x;simp only at v1 v2 U K;unfold Np dP;split <;> simp only [Prod.mk.injEq] <;> omega
theorem Sa{n:Nat}:∀(k:Nat) (l:List PR) (w:List Int) (out r:List DT),l.length=k->(∀x∈l,VP n x)->EK n k l w out=some r->(r.map Np).Perm (out.map Np++l)
 | 0,l,w,out,r,Z,U,h=>by
  unfold EK at h
  split at h
  ·cases h
   rw [List.length_eq_zero_iff.1 Z,List.append_nil]
  ·cases h
 | k+1,l,w,out,r,Z,U,h=>by
  unfold EK at h;obtain⟨p,ac,h⟩:=bind_some h;split at h
  ·cases h
  unfold IP at ac;obtain⟨c1,c2,c3⟩:=List.find?_range_eq_some.1 ac;have ag:l.countP (BF p)=1:=by simpa using c1
  have O:l.findIdx (BF p)<l.length:=by
   obtain⟨x,K,Y⟩:=List.countP_pos_iff.1 (show 0<l.countP (BF p) by omega);exact List.findIdx_lt_length_of_exists ⟨x,K,Y⟩
  rw [H5 O] at h;have Y:BF p l[l.findIdx (BF p)]=true:=List.findIdx_getElem;have K:=U _ (List.getElem_mem O);have:=Sa k _ _ _ r (by rw [List.length_eraseIdx_of_lt O];omega) (λx K=>U x (List.mem_of_mem_eraseIdx K)) h;refine this.trans ?_;rw [List.map_append,List.map_singleton,cT K Y,List.append_assoc];exact List.Perm.append_left _ (W9 O)
theorem P0:∀{m:Nat} {l c:List PR},c∈GU m l->c.Sublist l
 | 0,l,c,h=>by
  rw [show GU 0 l= [[]] by cases l <;> rfl] at h
  cases List.mem_singleton.1 h
  exact List.nil_sublist _
 | m+1,[],c,h=>by cases h
 | m+1,y::ys,c,h=>by
  rcases List.mem_append.1 h with h | h
  ·obtain⟨O,K,rfl⟩:=List.mem_map.1 h
   exact(P0 K).cons_cons y
  ·exact(P0 h).cons y
theorem WK{n:Nat}(h:n<=5):(DR n).Nodup:=by
 match n,h with
 | 0,_ | 1,_ | 2,_ | 3,_ | 4,_ | 5,_=>decide
theorem bm:∀l:List (List DT),l≠ []->MZ l∈l:=by
 have:∀l:List (List DT),l= []∨((l.foldl Hg ([],false)).1∈l/\(l.foldl Hg ([],false)).2=true):=by
  refine ML (.inl V) λl x h=> .inr ?_;rw [List.foldl_append];show(Hg _ x).1∈l++ [x]/\(Hg _ x).2=true;rcases h with rfl | ⟨K,O⟩
  ·exact⟨by simp [Hg],V⟩
  ·unfold Hg;split
   ·exact⟨by simp,V⟩
   ·exact⟨List.mem_append_left _ K,O⟩
 intro l U;rcases this l with h | ⟨h,_⟩
 ·exact absurd h U
 ·exact h
def Nt(l:List Int)(g:Int)(v:Nat):Bool:=decide (v<l.length)&&decide (l.getD v 0=g)
theorem Qz{w l:List Int}{g:Int}(K:l.length<=5):sm w l g=CB w (Nt l g):=by
 unfold sm CB Nt
 match l,K with
 | [],_=>simp [GI]
 | [a],_=>simp [GI]
 | [a,b],_=>simp [GI]
 | [a,b,c],_=>simp [GI]
 | [a,b,c,d],_=>simp [GI]
 | [a,b,c,d,e],_=>simp [GI]
def HP(l:List Int)(a b:Nat):List Int:=
 if l.getD a 0=l.getD b 0 then l else
  l.map λc=>if c=max (l.getD a 0) (l.getD b 0) then min (l.getD a 0) (l.getD b 0) else if max (l.getD a 0) (l.getD b 0)<c then c - 1 else c
def gz(n:Nat):Bool:=(Eh n []).all λl=>(List.range n).all λa=>(List.range n).all λb=>
 decide (HP l a b∈Eh n [])&&decide (BB l - 1<=BB (HP l a b))&&decide ((HP l a b).getD a 0=(HP l a b).getD b 0)&&
  (List.range n).all λu=>(List.range n).all λv=> !decide (l.getD u 0=l.getD v 0) || decide ((HP l a b).getD u 0=(HP l a b).getD v 0)
theorem bO:∀n,2<=n->n<=5->gz n=true:=by
 intro n K O;obtain rfl | rfl | rfl | rfl:n=2∨n=3∨n=4∨n=5:=by omega
 ·decide+kernel
 ·decide+kernel
 ·decide+kernel
 ·decide+kernel
theorem cB{n a b:Nat}{l:List Int}(K:2<=n)(O:n<=5)(U:l∈Eh n [])(Y:a<n)(hb:b<n):
  HP l a b∈Eh n []/\BB l - 1<=BB (HP l a b)/\(HP l a b).getD a 0=(HP l a b).getD b 0/\∀u v,u<n->v<n->l.getD u 0=l.getD v 0->(HP l a b).getD u 0=(HP l a b).getD v 0:=by
 have h:=List.all_eq_true.1 (List.all_eq_true.1 (List.all_eq_true.1 (bO n K O) l U) a (List.mem_range.2 Y)) b (List.mem_range.2 hb);simp only [Bool.and_eq_true,decide_eq_true_eq] at h;obtain⟨⟨⟨k1,Z⟩,ac⟩,ag⟩:=h;refine⟨k1,Z,ac,λu v hu al e=>?_⟩;have:=List.all_eq_true.1 (List.all_eq_true.1 ag u (List.mem_range.2 hu)) v (List.mem_range.2 al);simp only [Bool.or_eq_true,Bool.not_eq_true',decide_eq_false_iff_not,decide_eq_true_eq] at this;exact this.resolve_left (λk=>k e)
def RL(n:Nat):List Int:=(List.range n).map λi:Nat=>(i:Int)
theorem UP:∀n,2<=n->n<=5->RL n∈Eh n []/\BB (RL n)=n:=by
 intro n K O;obtain rfl | rfl | rfl | rfl:n=2∨n=3∨n=4∨n=5:=by omega
 ·decide+kernel
 ·decide+kernel
 ·decide+kernel
 ·decide+kernel
theorem S9{n:Nat}(K:2<=n)(O:n<=5):∀(x:List DT),(∀d∈x,GD n d)->∃l,l∈Eh n []/\(n:Int) - x.length<=BB l/\∀d∈x,l.getD d.1.toNat 0=l.getD d.2.1.toNat 0
 | [],_=>⟨RL n,(UP n K O).1,by rw [(UP n K O).2];simp,λd hd=>by cases hd⟩
 | d::x,U=>by
  obtain⟨l,k1,al,Y⟩:=S9 K O x λe he=>U e (List.mem_cons_of_mem _ he)
  obtain⟨am,g2,ap,aq,_⟩:=U d List.mem_cons_self
  obtain⟨Z,av,ac,ag⟩:=cB K O k1 (show d.1.toNat<n by omega) (show d.2.1.toNat<n by omega)
  refine⟨HP l d.1.toNat d.2.1.toNat,Z,by rw [List.length_cons];omega,λe he=>?_⟩
  rcases List.mem_cons.1 he with rfl | he
  ·exact ac
  ·obtain⟨aw,ay,az,a0,_⟩:=U e (List.mem_cons_of_mem _ he);exact ag _ _ (by omega) (by omega) (Y e he)
theorem SJ{n:Nat}{A:Nat->Bool}(U:n<=5):∀(x:List DT) (w:List Int),w.length=5->(∀d∈x,GD n d)->(∀d∈x,A d.1.toNat=A d.2.1.toNat)->CB (x.foldl Cv w) A=CB w A
 | [],_,_,_,_=>rfl
 | d::x,w,hw,K,O=>by
  obtain⟨Y,g2,Z,ac,_⟩:=K d List.mem_cons_self
  rw [List.foldl_cons,SJ U x _ (MF hw) (λe he=>K e (List.mem_cons_of_mem _ he)) λe he=>O e (List.mem_cons_of_mem _ he)]
  unfold Cv
  rw [LJ (by unfold EL;rw [List.length_set];exact hw) Z (by omega),LJ hw Y (by omega),O d List.mem_cons_self]
  split <;> omega
theorem LR{n:Nat}{l:List Int}(h:l∈Eh n []):l.length=n/\RG l:=by
 have:=Q2 n [] RG.nil l h;exact⟨by simpa using this.2,this.1⟩
theorem Q0{o:OW}{x:List DT}(h:VO o)(hw:(Bv o).length=5)(K:RP o x):(o.1.length:Int) - x.length<=BB (Gw o):=by
 have O:=h.n5;have U:=h.n2;obtain⟨l,k1,Y,Z⟩:=S9 U O x K.gd;obtain⟨ag,_⟩:=LR k1;have ac:Jo (Bv o) l:=λg al=>by
  rw [Qz (by omega),← SJ O x (Bv o) hw K.gd λd hd=>?_,K.z,QM];obtain⟨am,g2,ap,aq,_⟩:=K.gd d hd;unfold Nt;rw [Z d hd,decide_eq_true (show d.1.toNat<l.length by omega),decide_eq_true (show d.2.1.toNat<l.length by omega)]
 exact Int.le_trans Y ((MI ac (Eh o.1.length []) []).2 k1)
def L8(A:Nat)(v:Nat):Bool:=A.testBit v
def FN(n:Nat)(l:List Int)(g:Int):Nat:=(List.range n).foldl (λm v=>if l.getD v 0=g then m ||| 2 ^ v else m) 0
def Ma(n:Nat)(l:List Int):List PR:=(List.range n).filterMap λv=>let f:=l.findIdx λc=>decide (c=l.getD v 0);if f<v then some ((f:Int),(v:Int)) else none
def Na(n:Nat)(l:List Int):Nat->List PR->List Nat->Bool
 | 0,_,M=>(List.range 5).all λv=>decide (M.getD v 0=0) || (decide (v<n)&&decide (M.getD v 0=FN n l (l.getD v 0)))
 | k+1,C,M=>match IP n C with
  | none=>false
  | some p=>let x:=C.getD (C.findIdx (BF p)) (0,0);let q:=(x.1+x.2 - (p:Int)).toNat
   decide (M.getD p 0≠0)&&decide (M.getD p 0&&& FN n l (l.getD p 0)=M.getD p 0)&&decide (M.getD p 0≠FN n l (l.getD p 0))&&decide (M.getD p 0<32)&&decide (p<n)&&decide (q<n)&&decide (q≠p)&&decide (x.1+x.2 - (p:Int)=(q:Int))&&decide (M.getD q 0&&& M.getD p 0=0)&&
    Na n l k (C.eraseIdx (C.findIdx (BF p))) ((M.set q (M.getD q 0 ||| M.getD p 0)).set p 0)
def M0(n:Nat):List Nat:=(List.range 5).map λv=>if v<n then 2 ^ v else 0
def Lf(n:Nat)(l:List Int)(A:Nat):List Int:=
 let r:=(List.range n).map λv:Nat=>if A.testBit v then(9:Int) else l.getD v 0
 (r.foldl (λ(s:List Int×List Int) c=>if c∈s.1 then(s.1,s.2++ [((s.1.findIdx λy=>decide (y=c):Nat):Int)]) else(s.1++ [c],s.2++ [((s.1.length:Nat):Int)])) ([],[])).2
def gG(n:Nat):Bool:=(Eh n []).all λl=>
 decide (Ma n l∈GU (n - (BB l).toNat) (DR n))&&Na n l (Ma n l).length (Ma n l) (M0 n)&&
 (List.range 32).all λA=>(List.range n).all λv=>
  !(decide (A≠0)&&decide (A&&& FN n l (l.getD v 0)=A)&&decide (A≠FN n l (l.getD v 0))) ||
   (decide (Lf n l A∈Eh n [])&&decide (BB (Lf n l A)=BB l+1)&&
    (List.range 5).all λg=>decide (FN n (Lf n l A) g=A) || decide (FN n (Lf n l A) g=FN n l (l.getD v 0) ^^^ A) || decide (FN n (Lf n l A) g=0) || (List.range n).any λu=>decide (FN n (Lf n l A) g=FN n l (l.getD u 0)))
theorem ab:∀n,2<=n->n<=5->gG n=true:=by
 intro n K O;obtain rfl | rfl | rfl | rfl:n=2∨n=3∨n=4∨n=5:=by omega
 ·decide+kernel
 ·decide+kernel
 ·decide+kernel
 ·decide+kernel
open Go Go.Conc Go.Proofs
def MM(fu_:Nat)(O:Ax×Int)(K:Int):Option (Bn (Int) ((Bool)⊕(Unit))):=
 if K<((O.1).length:Int) then(
  (ix O.1 (K)).bind λU=>
  (Au (K - 1)).bind λY=>
  (ix O.1 (Y)).bind λZ=>
  Option.bind (
   if U.1<Z.1 then(
    some true
   ) else(
    (ix O.1 (K)).bind λac=>
    (Au (K - 1)).bind λag=>
    (ix O.1 (ag)).bind λal=>
    if ac.1=al.1 then(
     (ix O.1 (K)).bind λam=>
     (Au (K - 1)).bind λap=>
     (ix O.1 (ap)).bind λaq=>
     some (decide (am.2.1<=aq.2.1))
    ) else(
     some false
    )
   )
  ) λav=>
  if av=true then(
   some (.done (Sum.inl false))
  ) else(
   (Au (K+1)).bind λaw=>
   some (.more aw)
  )
 ) else(
  some (.done (Sum.inr ()))
 )
def Pk(fu_:Nat)(p0:List Int):Option (Bool):=
 (f20 fu_ p0).bind λac=>
 (f31 fu_ ac 5 8).bind λK=>
 (f22 fu_ K.1).bind λO=>
 (f52 fu_ K.1).bind λU=>
 (f24 fu_ K.1).bind λZ=>
 Option.bind (
  if O.2≠0 then(
   some true
  ) else(
   some (decide (U.2≠0))
  )
 ) λag=>
 Option.bind (
  if ag=true then(
   some true
  ) else(
   some (decide (Z.2≠0))
  )
 ) λal=>
 Option.bind (
  if al=true then(
   some true
  ) else(
   some (decide (Z.1<1))
  )
 ) λam=>
 Option.bind (
  if am=true then(
   some true
  ) else(
   some (decide (((U.1).length:Int)≠((K.1.1).length:Int)))
  )
 ) λap=>
 Option.bind (
  if ap=true then(
   some true
  ) else(
   some (decide (((K.1.1).length:Int)<((O.1).length:Int)))
  )
 ) λaq=>
 Option.bind (
  if aq=true then(
   some true
  ) else(
   (Nk fu_ K.1 O.1).bind λav=>
   some (decide (av≠0))
  )
 ) λaw=>
 if aw=true then(
  some false
 ) else(
  Option.bind (iter (MM fu_ O) fu_ 1) λay=>
  Sum.elim (λr=>some r) (λa4=>
  (f101 fu_ U.1).bind λaz=>
  (Au (((U.1).length:Int) - az)).bind λa0=>
  Option.bind (
   if((O.1).length:Int)=a0 then(
    (Nj fu_ K.2 K.1).bind λY=>
    some (decide (((O.1).length:Int)<=((Y.1).length:Int)),Y.2.1,Y.2.2.1,Y.2.2.2)
   ) else(
    some (false,K.2.1,K.2.2.1,K.2.2.2)
   )
  ) λa1=>
  Option.bind (
   if a1.1=true then(
    (f18 fu_).bind λa2=>
    some a2
   ) else(
    some false
   )
  ) λa3=>
  some a3
  ) ay
 )
theorem Zr{E H:LH}{a1:An}{c2:Nat}{p0:List Int}(er:GE E)(eu:Al rI E a1 c2 (p0)){fu_:Nat}{r:Bool}(b5:Pk fu_ p0=some r):(Hc Tryz.prog).ok (MG Tryz.prog (λv _=>v= .bool r)) (G (Frame.enter Tryz.prog 8 ([.slice a1 (p0).length c2]:Lv_).toArray .normal) []) (mk E H []):=by
 refine Yj Tryz.func8 V V (Nat.le_of_ble_eq_true V) ?_;have ew:Aq E H [[]]:=trivial;unfold Pk at b5;obtain⟨iW,ex,ey⟩:=bs b5;refine C 7 V (BY (fC eu ex) V V (A1 Tryz.func10 V) ew ?_);rintro _ iX _ eA ⟨al,iY,iZ,rfl,rfl,eC⟩ eN;obtain⟨O,e0,e1⟩:=bs ey;refine C 5 V (Ch 1 (fq eC e0) V V (A1 Tryz.func11 V) eN V ?_);rintro _ i0 _ e3 ⟨i1,i3,i4,i5,ay,az,rfl,rfl,bi,bn,b6⟩ e4;refine BQ e4 Ka λa0 e5=>?_;refine BJ 2 e5 CV λe6=>?_;refine Cu 2 e6 V λi6 av a9 e7=>C 3 V (B4 a9 Fc CV V V ?_);obtain⟨a2,e8,ff⟩:=bs e1;refine BY (VF (bi.Ag av) (bn.Ag av) e8) V V (A1 Tryz.func36 V) e7 ?_;rintro _ i7 _ ap ⟨a3,a4,rfl,rfl,bb⟩ fk;refine C 8 V (B4 (a9.Ag ap) Fc CV V V ?_);obtain⟨a5,fl,fm⟩:=bs ff;refine BY (fQ (bi.Ag (av.trans ap)) (bn.Ag (av.trans ap)) fl) V V (A1 Tryz.func37 V) fk ?_;rintro _ i8 _ U ⟨a6,a7,rfl,rfl,fo⟩ fs;refine C 8 V (B4 (a9.Ag (ap.trans U)) Fc CV V V ?_);obtain⟨bx,fv,fw⟩:=bs fm;refine Cs (VS (bi.Ag ((av.trans ap).trans U)) (bn.Ag ((av.trans ap).trans U)) fv) V V (A1 Tryz.func38 V) fs λi9 Y ca=>?_;obtain⟨fN,gc,ge⟩:=bs fw;refine C 12 V (Fq 6 30 [[(al,.cells #[.slice ay (O.2.1).length az,iV O.2.2.1,.int .u64 ((O.2.2.2:Nat):Int)] 74 (0,0))]] [(3,.pointer (some ⟨al,0,none⟩)),(4,.pointer (some ⟨a0,0,none⟩)),(5,.slice a3 (a2.1).length a4),(7,.slice a6 (a5.1).length a7),(9,iV bx.1),(10,iV bx.2),(36,.bool fN)] (λja Z cc=>?_) (λce=>?_))
 ·obtain⟨gg,gh,gl⟩:=bs ge;refine C 1 V (Fq 10 26 [[(al,.cells #[.slice ay (O.2.1).length az,iV O.2.2.1,.int .u64 ((O.2.2.2:Nat):Int)] 74 (0,0))]] [(3,.pointer (some ⟨al,0,none⟩)),(4,.pointer (some ⟨a0,0,none⟩)),(5,.slice a3 (a2.1).length a4),(7,.slice a6 (a5.1).length a7),(9,iV bx.1),(40,.bool gg)] (λjb ac ci=>?_) (λco=>?_))
  ·obtain⟨gt,gE,gO⟩:=bs gl;refine C 1 V (Fq 14 22 [[(al,.cells #[.slice ay (O.2.1).length az,iV O.2.2.1,.int .u64 ((O.2.2.2:Nat):Int)] 74 (0,0))]] [(3,.pointer (some ⟨al,0,none⟩)),(4,.pointer (some ⟨a0,0,none⟩)),(5,.slice a3 (a2.1).length a4),(7,.slice a6 (a5.1).length a7),(44,.bool gt)] (λjc ag cp=>?_) (λct=>?_))
   ·obtain⟨gV,gW,gX⟩:=bs gO;refine C 1 V (Fq 22 14 [[(al,.cells #[.slice ay (O.2.1).length az,iV O.2.2.1,.int .u64 ((O.2.2.2:Nat):Int)] 74 (0,0))]] [(3,.pointer (some ⟨al,0,none⟩)),(4,.pointer (some ⟨a0,0,none⟩)),(5,.slice a3 (a2.1).length a4),(7,.slice a6 (a5.1).length a7),(52,.bool gV)] (λjd am cw=>?_) (λcy=>?_))
    ·obtain⟨gY,gZ,g0⟩:=bs gX;refine C 1 V (Fq 30 6 [[(al,.cells #[.slice ay (O.2.1).length az,iV O.2.2.1,.int .u64 ((O.2.2.2:Nat):Int)] 74 (0,0))]] [(3,.pointer (some ⟨al,0,none⟩)),(4,.pointer (some ⟨a0,0,none⟩)),(5,.slice a3 (a2.1).length a4),(7,.slice a6 (a5.1).length a7),(60,.bool gY)] (λc0 aq c1=>?_) (λc3=>?_))
     ·obtain⟨g1,g3,g4⟩:=bs g0;refine C 1 V (Hx [] (λL s=>∃(bz:LH),Jm c0 H bz [[(al,.cells #[.slice ay (O.2.1).length az,iV O.2.2.1,.int .u64 ((O.2.2.2:Nat):Int)] 74 (0,0))]] [(3,.pointer (some ⟨al,0,none⟩)),(4,.pointer (some ⟨a0,0,none⟩)),(5,.slice a3 (a2.1).length a4),(7,.slice a6 (a5.1).length a7),(66,.bool g1)] L s) ?_ ?_)
      ·rintro _ _ ⟨bz,rfl,rfl,aw,c4⟩;refine JL.done (Cx g4 (λg5 g6=>?_) (λg5 g7=>?_))
       ·refine C 4 V (JS.drop 0 c4 V λje=>?_);obtain rfl:=oi g6;exact IB V (JO.end (v:= .bool false) V (by decide+kernel) Tryz.func8 V V V)
       ·obtain⟨c5,g8,c6⟩:=bs g7;refine C 6 V (Bt (λL s=>∃(c7:Unit) (c8:LH),c5=Sum.inr c7/\Jm bz H c8 [[(al,.cells #[.slice ay (O.2.1).length az,iV O.2.2.1,.int .u64 ((O.2.2.2:Nat):Int)] 74 (0,0))]] [(3,.pointer (some ⟨al,0,none⟩)),(4,.pointer (some ⟨a0,0,none⟩)),(5,.slice a3 (a2.1).length a4),(7,.slice a6 (a5.1).length a7)] L s) ?_ ?_)
        ·rintro _ _ ⟨c7,c8,rfl,rfl,rfl,be,g9⟩;have ha:=elim_inr c6;refine C 3 V (JL.ln Tryz.underlying26 V V V ?_);refine C 1 V (JL.ln Tryz.underlying22 V V V ?_);obtain⟨jf,hb,hc⟩:=bs ha;refine C 1 V (Cs (cM (fo.Ag (((((((Y.trans Z).trans ac).trans ag).trans am).trans aq).trans aw).trans be)) hb) V V (A1 Tryz.func39 V) g9 λc9 bo dd=>?_);obtain⟨jg,hd,he⟩:=bs hc;refine Ck hd V V V ?_;obtain⟨dn,hf,hg⟩:=bs he;refine C 2 V (Hx [17,18,19,20] (λL s=>∃(b0:LH) (ea:An) (eb:Nat),Jn c9 H b0 [] [(129,.bool dn.1)] L s (Al rI b0 ea eb (dn.2.1))) ?_ ?_)
         ·rintro _ _ ⟨b0,ea,eb,rfl,rfl,jh,ec,ji⟩;obtain⟨ed,hj,hk⟩:=bs hg;refine C 1 V (Fq 20 1 [] [(132,.bool ed)] (λjj jk jl=>?_) (λee=>?_))
          ·refine C 2 V ?_;obtain rfl:=oi hk;exact IB V (JO.end (v:= .bool ed) V (by decide+kernel) Tryz.func8 V V V)
          ·refine EA 130 hj (λhl hm=>?_) (λhl hn=>?_)
           ·obtain⟨jm,ho,hp⟩:=bs hm;refine Cs (fR ho) V V (A1 Tryz.func21 V) ec λjo hq hr=>C 1 V ?_;obtain rfl:=oi hp;exact ee hq hr V
           ·refine C 2 V ?_;obtain rfl:=oi hn;exact ee (Le.refl _) ec V
         ·intro ef;refine Je 121 hf (λhs ht=>?_) (λhs hu=>?_)
          ·refine C 1 V (B4 (a9.Ag ((((((((((ap.trans U).trans Y).trans Z).trans ac).trans ag).trans am).trans aq).trans aw).trans be).trans bo)) Fc CV V V ?_);obtain⟨jp,hv,hw⟩:=bs ht;refine Ch 0 (ei (b6.Ag (((((((((((av.trans ap).trans U).trans Y).trans Z).trans ac).trans ag).trans am).trans aq).trans aw).trans be).trans bo)) (bi.Ag (((((((((((av.trans ap).trans U).trans Y).trans Z).trans ac).trans ag).trans am).trans aq).trans aw).trans be).trans bo)) (bn.Ag (((((((((((av.trans ap).trans U).trans Y).trans Z).trans ac).trans ag).trans am).trans aq).trans aw).trans be).trans bo)) hv) V V (A1 Tryz.func16 V) dd V ?_;rintro _ hx _ hy ⟨jq,jr,hz,hA,rfl,rfl,js,hB⟩ hC;refine JL.ln Tryz.underlying26 V V V (C 1 V ?_);refine JL.ln Tryz.underlying26 V V V (C 2 V ?_);refine JS.drop 0 hC V λhD=>?_;obtain rfl:=oi hw;exact AB (ef _ _ ⟨hx,hz,hA,V,V,hy,hD,hB⟩) V
          ·refine C 8 V (JS.drop 0 dd V λhE=>?_);obtain rfl:=oi hu;exact AB (ef _ _ ⟨c9,ay,az,V,V,(Le.refl _),hE,(b6.Ag (((((((((((av.trans ap).trans U).trans Y).trans Z).trans ac).trans ag).trans am).trans aq).trans aw).trans be).trans bo))⟩) V
        ·intro hF;refine JL.block (Ee g8 (λbv=> [[(al,.cells #[.slice ay (O.2.1).length az,iV O.2.2.1,.int .u64 ((O.2.2.2:Nat):Int)] 74 (0,0))]]) (λbv=> [(3,.pointer (some ⟨al,0,none⟩)),(4,.pointer (some ⟨a0,0,none⟩)),(5,.slice a3 (a2.1).length a4),(7,.slice a6 (a5.1).length a7),(11,iV bv)]) (Le.refl _) c4 ?_);rintro bv eg a8 b1 ej ⟨jt,bw⟩ hG;have ek:=bw;unfold MM at ek;refine C 5 V (JL.ln Tryz.underlying26 V V V ?_);refine C 2 V (AU ek (λhH hI=>?_) (λhH hJ=>?_))
         ·refine C 4 V (Ff 40 λK=>?_);refine A6 K V [0,1] V ?_;obtain⟨hK,hL,hM⟩:=bs hI;refine Er 2 (bb.Ag ((((((((U.trans Y).trans Z).trans ac).trans ag).trans am).trans aq).trans aw).trans a8)) hL K Tryz.underlying26 Bg ?_;rintro ju jv _ ⟨_,_,rfl,rfl,⟨_,_,rfl,rfl,rfl⟩⟩ hN;refine JG.fd 3 K Tryz.underlying42 Ay V V V V (Dw 4 K 0 hN A3 V V V V ?_);refine A6 K V [5,6] V ?_;obtain⟨jw,hO,hP⟩:=bs hM;refine AL 7 K V V (λρ h s' el=>DJ (h _ _ V) (h _ _ V) hO) ?_;obtain⟨hQ,hR,hS⟩:=bs hP;refine Er 8 (bb.Ag ((((((((U.trans Y).trans Z).trans ac).trans ag).trans am).trans aq).trans aw).trans a8)) hR K Tryz.underlying26 Bg ?_;rintro jx jy _ ⟨_,_,rfl,rfl,⟨_,_,rfl,rfl,rfl⟩⟩ hT;refine JG.fd 9 K Tryz.underlying42 Ay V V V V (Dw 10 K 0 hT A3 V V V V ?_);refine A6 K V [11,12] V ?_;obtain⟨hU,em,hV⟩:=bs hS;refine Gr 0 #[true,true,true,true,true,true,true,true,true,true,true,true,true,true,true,true,true,true,true,true,true,true,true,true,true,true,true,true,true,true,true,true,true,true,true,true,true,true,true,true] (λL s=>L= [(3,.pointer (some ⟨al,0,none⟩)),(4,.pointer (some ⟨a0,0,none⟩)),(5,.slice a3 (a2.1).length a4),(7,.slice a6 (a5.1).length a7),(11,iV bv),(112,.bool hU)]/\s=Ak eg H [[(al,.cells #[.slice ay (O.2.1).length az,iV O.2.2.1,.int .u64 ((O.2.2.2:Nat):Int)] 74 (0,0))]]) ?_ ?_
          ·rintro _ _ ⟨rfl,rfl⟩;refine AQ.fin (by decide+kernel) (Cx hV (λhW hX=>?_) (λhW hY=>?_))
           ·refine C 4 V (JS.drop 0 b1 V λjz=>?_);obtain rfl:=oi hX;obtain rfl:=ej _ bw;have hZ:=elim_inl c6;obtain rfl:=oi hZ;exact IB V (JO.end (v:= .bool false) V (by decide+kernel) Tryz.func8 V V V)
           ·obtain⟨h0,h1,h2⟩:=bs hY;refine C 4 V (Bq h1 V V V ?_);refine C 2 V ?_;obtain rfl:=oi h2;exact hG h0 a8 b1 V bw
          ·intro b2;refine GN (q:=hK.1<hQ.1) (i:=85) V (λb3=>?_) (λb3=>?_)
           ·have h3:=ip em b3;refine A6 K V [13,14,15,16,17,18,19,20,21,22,23,24,25,26,27,28,29,30,31,32,33,34,35,36,37,38,39] V ?_;obtain rfl:=oi h3;refine Ec ?_ (b2 _ _ ⟨V,V⟩);exact⟨V,V,V,V,V,V,trivial⟩
           ·have h4:=im em b3;refine A6 K V [13,14] V ?_;obtain⟨h5,h6,h7⟩:=bs h4;refine Er 15 (bb.Ag ((((((((U.trans Y).trans Z).trans ac).trans ag).trans am).trans aq).trans aw).trans a8)) h6 K Tryz.underlying26 Bg ?_;rintro jA jB _ ⟨_,_,rfl,rfl,⟨_,_,rfl,rfl,rfl⟩⟩ h8;refine JG.fd 16 K Tryz.underlying42 Ay V V V V ?_;refine Dw 17 K 0 h8 A3 V V V V ?_;refine A6 K V [18,19] V ?_;obtain⟨jC,h9,ia⟩:=bs h7;refine AL 20 K V V (λρ h s' el=>DJ (h _ _ V) (h _ _ V) h9) ?_;obtain⟨ic,ie,eo⟩:=bs ia;refine Er 21 (bb.Ag ((((((((U.trans Y).trans Z).trans ac).trans ag).trans am).trans aq).trans aw).trans a8)) ie K Tryz.underlying26 Bg ?_;rintro jD jE _ ⟨_,_,rfl,rfl,⟨_,_,rfl,rfl,rfl⟩⟩ ig;refine JG.fd 22 K Tryz.underlying42 Ay V V V V ?_;refine Dw 23 K 0 ig A3 V V V V ?_;refine A6 K V [24,25] V ?_;refine GN (q:=h5.1=ic.1) (i:=98) V (λb4=>?_) (λb4=>?_)
            ·have ih:=ip eo b4;refine A6 K V [26,27] V ?_;obtain⟨jF,ii,ij⟩:=bs ih;refine Er 28 (bb.Ag ((((((((U.trans Y).trans Z).trans ac).trans ag).trans am).trans aq).trans aw).trans a8)) ii K Tryz.underlying26 Bg ?_;rintro jG jH _ ⟨_,_,rfl,rfl,⟨_,_,rfl,rfl,rfl⟩⟩ ik;refine JG.fd 29 K Tryz.underlying42 Ay V V V V ?_;refine Dw 30 K 1 ik A3 V V V V ?_;refine A6 K V [31,32] V ?_;obtain⟨jI,il,io⟩:=bs ij;refine AL 33 K V V (λρ h s' el=>DJ (h _ _ V) (h _ _ V) il) ?_;obtain⟨jJ,iq,ir⟩:=bs io;refine Er 34 (bb.Ag ((((((((U.trans Y).trans Z).trans ac).trans ag).trans am).trans aq).trans aw).trans a8)) iq K Tryz.underlying26 Bg ?_;rintro jK jL _ ⟨_,_,rfl,rfl,⟨_,_,rfl,rfl,rfl⟩⟩ iu;refine JG.fd 35 K Tryz.underlying42 Ay V V V V ?_;refine Dw 36 K 1 iu A3 V V V V ?_;refine A6 K V [37,38,39] V ?_;obtain rfl:=oi ir;refine Ec ?_ (b2 _ _ ⟨V,V⟩);exact⟨V,V,V,V,V,V,trivial⟩
            ·have iv:=im eo b4;refine A6 K V [26,27,28,29,30,31,32,33,34,35,36,37,38,39] V ?_;obtain rfl:=oi iv;refine Ec ?_ (b2 _ _ ⟨V,V⟩);exact⟨V,V,V,V,V,V,trivial⟩
         ·refine JL.exit V ?_;obtain rfl:=oi hJ;have iw:c5=(Sum.inr ()):=(ej _ bw).symm;exact AB (hF _ _ ⟨(),eg,iw,V,V,a8,b1⟩) V
      ·intro ep;refine EA 61 g3 (λiy iz=>?_) (λiy iA=>?_)
       ·refine C 5 V ?_;obtain rfl:=oi iz;exact AB (ep _ _ ⟨c0,V,V,(Le.refl _),c1⟩) V
       ·refine B4 (a9.Ag (((((((ap.trans U).trans Y).trans Z).trans ac).trans ag).trans am).trans aq)) Fc CV V V ?_;obtain⟨jM,iB,iC⟩:=bs iA;refine C 1 V (Cs (cu (er.Ag ((((((((((eA.trans e3).trans av).trans ap).trans U).trans Y).trans Z).trans ac).trans ag).trans am).trans aq)) (bi.Ag ((((((((av.trans ap).trans U).trans Y).trans Z).trans ac).trans ag).trans am).trans aq)) (bn.Ag ((((((((av.trans ap).trans U).trans Y).trans Z).trans ac).trans ag).trans am).trans aq)) (bb.Ag ((((((U.trans Y).trans Z).trans ac).trans ag).trans am).trans aq)) iB) V V (A1 Tryz.func18 V) c1 λiD iE iF=>?_);refine C 2 V ?_;obtain rfl:=oi iC;exact AB (ep _ _ ⟨iD,V,V,iE,iF⟩) V
     ·refine EA 53 gZ (λiG iH=>?_) (λiG iI=>?_)
      ·refine C 7 V ?_;obtain rfl:=oi iH;exact c3 (Le.refl _) cw V
      ·refine C 1 V (JL.ln Tryz.underlying26 V V V ?_);refine B5 0 (a9.Ag ((((((ap.trans U).trans Y).trans Z).trans ac).trans ag).trans am)) Tryz.underlying28 Fo Fy ?_;refine JL.ln Tryz.underlying25 V V V (C 2 V ?_);obtain rfl:=oi iI;exact c3 (Le.refl _) cw V
    ·refine EA 45 gW (λiJ iK=>?_) (λiJ iL=>?_)
     ·refine C 7 V ?_;obtain rfl:=oi iK;exact cy (Le.refl _) cp V
     ·refine C 1 V (JL.ln Tryz.underlying22 V V V ?_);refine B5 0 (a9.Ag (((((ap.trans U).trans Y).trans Z).trans ac).trans ag)) Tryz.underlying28 Fo Fy ?_;refine JL.ln Tryz.underlying25 V V V (C 2 V ?_);obtain rfl:=oi iL;exact cy (Le.refl _) cp V
   ·refine EA 41 gE (λiM iN=>?_) (λiM iO=>?_)
    ·refine C 3 V ?_;obtain rfl:=oi iN;exact ct (Le.refl _) ci V
    ·refine C 3 V ?_;obtain rfl:=oi iO;exact ct (Le.refl _) ci V
  ·refine EA 37 gh (λiP iQ=>?_) (λiP iR=>?_)
   ·refine C 3 V ?_;obtain rfl:=oi iQ;exact co (Le.refl _) cc V
   ·refine C 3 V ?_;obtain rfl:=oi iR;exact co (Le.refl _) cc V
 ·refine Je 33 gc (λiS iT=>?_) (λiS iU=>?_)
  ·refine C 3 V ?_;obtain rfl:=oi iT;exact ce (Le.refl _) ca V
  ·refine C 3 V ?_;obtain rfl:=oi iU;exact ce (Le.refl _) ca V
end Pal
namespace Pal
theorem TM{P:Nat->Prop} [DecidablePred P] (k:Nat):∀n:Nat,((List.range n).foldl (λm v=>if P v then m ||| 2 ^ v else m) 0).testBit k=(decide (k<n)&&decide (P k))
 | 0=>by simp
 | n+1=>by
  rw [List.range_succ,List.foldl_append,List.foldl_cons,List.foldl_nil]
  have O:=TM (P:=P) k n
  by_cases K:P n
  ·rw [if_pos K,Nat.testBit_or,O,Nat.testBit_two_pow]
   by_cases e:n=k
   ·subst e;simp [K]
   ·have:decide (k<n)=decide (k<n+1):=decide_eq_decide.2 (by omega);simp [e,this]
  ·rw [if_neg K,O];by_cases e:n=k
   ·subst e;simp [K]
   ·have:decide (k<n)=decide (k<n+1):=decide_eq_decide.2 (by omega);rw [this]
theorem Tv{w:List Int}{A B:Nat->Bool}(h:∀v,v<5->A v=B v):CB w A=CB w B:=by
 unfold CB;rw [h 0 (by omega),h 1 (by omega),h 2 (by omega),h 3 (by omega),h 4 (by omega)]
abbrev HM(w:List Int)(A:Nat):Int:=CB w (L8 A)
theorem Tx{n:Nat}{w l:List Int}{g:Int}(K:l.length=n):HM w (FN n l g)=CB w (Nt l g):=by
 refine Tv λv _=>?_;unfold L8 FN Nt;rw [TM (P:=λv=>l.getD v 0=g),K]
theorem NY(w:List Int):HM w 0=0:=by
 show CB w (L8 0)=0;unfold CB L8;simp
theorem TT{w:List Int}{A B:Nat}(h:A&&& B=0):HM w (A ||| B)=HM w A+HM w B:=by
 have hb:∀i,¬(A.testBit i=true/\B.testBit i=true):=λi hi=>by
  have:=congrArg (λx=>Nat.testBit x i) h;simp only [Nat.testBit_and,Nat.zero_testBit] at this;rw [hi.1,hi.2] at this;cases this
 have one:∀i (x:Int),(if(A ||| B).testBit i=true then x else 0)=(if A.testBit i=true then x else 0)+(if B.testBit i=true then x else 0):=λi x=>by
  have k:=hb i;rw [Nat.testBit_or];revert k;cases A.testBit i <;> cases B.testBit i <;> simp
 unfold HM CB L8;rw [one 0,one 1,one 2,one 3,one 4];omega
theorem Uk{n:Nat}{l w0:List Int}(ap:n<=5)(Z:∀A v,v<n->A≠0->A&&& FN n l (l.getD v 0)=A->A≠FN n l (l.getD v 0)->A<32->HM w0 A≠0)(ac:∀v,v<n->HM w0 (FN n l (l.getD v 0))=0):
  ∀(k:Nat) (C:List PR) (M:List Nat) (w:List Int) (out:List DT),w.length=5->M.length=5->(∀j,j<5->gN w j=HM w0 (M.getD j 0))->Na n l k C M=true->∃r,EK n k C w out=some r
 | 0,C,M,w,out,hw,ag,K,h=>by
  refine⟨out,?_⟩
  unfold EK
  rw [if_pos]
  refine Ob hw (by simp) λj O=>?_
  rw [K j O,Rj]
  unfold Na at h
  have:=List.all_eq_true.1 h j (List.mem_range.2 O)
  simp only [Bool.or_eq_true,Bool.and_eq_true,decide_eq_true_eq] at this
  rcases this with e | ⟨U,e⟩
  ·rw [e,NY]
  ·rw [e,ac j U]
 | k+1,C,M,w,out,hw,ag,K,h=>by
  unfold Na at h;unfold EK;rcases al:IP n C with _ | p
  ·rw [al] at h;cases h
  ·rw [al] at h;simp only [Bool.and_eq_true,decide_eq_true_eq] at h;obtain⟨⟨⟨⟨⟨⟨⟨⟨⟨U,aq⟩,av⟩,aw⟩,ay⟩,a4⟩,az⟩,a0⟩,am⟩,a1⟩:=h;rw [Option.bind_some];have a2:gN w p≠0:=by rw [K p (by omega)];exact Z _ p ay U aq av aw
   rw [if_neg a2];generalize C.getD (C.findIdx (BF p)) (0,0)=x at*;refine Uk ap Z ac k _ _ _ _ (MF hw) (by simp [ag]) (λj O=>?_) a1;have a3:=VC (w:=w) (p:=p) (o:=(x.1+x.2 - (p:Int)).toNat) (x:=x) hw (by omega) (by omega) az a0 j;rw [a3];by_cases Y:j=p
   ·subst Y;rw [if_pos rfl,List.getD_eq_getElem?_getD,List.getElem?_set_self (by simp;omega)];exact(NY w0).symm
   ·rw [if_neg Y,List.getD_eq_getElem?_getD,List.getElem?_set_ne (λe=>Y e.symm)];by_cases e2:j=(x.1+x.2 - (p:Int)).toNat
    ·rw [if_pos e2,← e2,List.getElem?_set_self (by omega),Option.getD_some,K j O,K p (by omega)];rw [← e2] at am;exact(TT am).symm
    ·rw [if_neg e2,List.getElem?_set_ne (λe=>e2 e.symm),← List.getD_eq_getElem?_getD];exact K j O
theorem T8{w:List Int}:∀(L:List (List Int)) (b:List Int),L.foldl (Eg w) b=b∨(L.foldl (Eg w) b∈L/\Jo w (L.foldl (Eg w) b))
 | [],b=> .inl rfl
 | x::L,b=>by
  rw [List.foldl_cons]
  rcases T8 (w:=w) L (Eg w b x) with h | ⟨K,O⟩
  ·rw [h]
   unfold Eg;split
   ·rename_i U;exact .inr ⟨List.mem_cons_self,U.1⟩
   ·exact .inl V
  ·exact .inr ⟨List.mem_cons_of_mem _ K,O⟩
theorem OB{o:OW}(h:VO o):Gw o∈Eh o.1.length []/\Jo (Bv o) (Gw o):=by
 rcases T8 (w:=Bv o) (Eh o.1.length []) [] with e | e
 ·exact absurd e (YD h)
 ·exact e
theorem du{A C:Nat}(h:A&&& C=A):A ||| (C ^^^ A)=C/\A&&& (C ^^^ A)=0:=by
 have hb:∀i,A.testBit i=true->C.testBit i=true:=λi hi=>by
  have:=congrArg (λx=>Nat.testBit x i) h;simp only [Nat.testBit_and] at this;rw [hi] at this;simpa using this
 constructor
 ·refine Nat.eq_of_testBit_eq λi=>?_;rw [Nat.testBit_or,Nat.testBit_xor];have k:=hb i;revert k;cases A.testBit i <;> cases C.testBit i <;> simp
 ·refine Nat.eq_of_testBit_eq λi=>?_;rw [Nat.testBit_and,Nat.testBit_xor,Nat.zero_testBit];have k:=hb i;revert k;cases A.testBit i <;> cases C.testBit i <;> simp
theorem Zu{o:OW}(h:VO o)(hw:(Bv o).length=5):∃s,s∈Df o.1.length (Bv o) (λ_=>true) (o.1.length - (BB (Gw o)).toNat) [] (DR o.1.length):=by
 have Y:=h.n5;have am:=h.n2;obtain⟨Z,ap⟩:=OB h;obtain⟨aq,av⟩:=LR Z;have aw:∀l,l∈Eh o.1.length []->Jo (Bv o) l->BB l<=BB (Gw o):=λl k1 ay=>(MI ay (Eh o.1.length []) []).2 k1;have az:=Qs h;have hC:=List.all_eq_true.1 (ab _ am Y) _ Z;simp only [Bool.and_eq_true,decide_eq_true_eq] at hC;obtain⟨⟨a0,a2⟩,a3⟩:=hC;generalize bv:o.1.length=n at*;generalize bw:Gw o=l at*;generalize Bv o=w at*;have O:∀v,v<n->HM w (FN n l (l.getD v 0))=0:=λv U=>by
  rw [Tx aq,← Qz (by omega)];have a4:l.getD v 0∈l:=by rw [H5 (by omega)];exact List.getElem_mem _
  obtain⟨g0,bx⟩:=av.2.2 _ a4;have:=ap (l.getD v 0).toNat (by omega)
  rwa [Int.toNat_of_nonneg g0] at this
 have a5:∀A v,v<n->A≠0->A&&& FN n l (l.getD v 0)=A->A≠FN n l (l.getD v 0)->A<32->HM w A≠0:=by
  intro A v U a1 ac a6 a7 ag;have K:=List.all_eq_true.1 (List.all_eq_true.1 a3 A (List.mem_range.2 a7)) v (List.mem_range.2 U);rw [decide_eq_true a1,decide_eq_true ac,decide_eq_true a6] at K;simp only [Bool.and_true,Bool.not_true,Bool.false_or,Bool.and_eq_true,decide_eq_true_eq] at K;obtain⟨⟨s1,s2⟩,a8⟩:=K;obtain⟨sl,a9⟩:=LR s1;have bb:Jo w (Lf n l A):=λg bz=>by
   have be:g<5:=by have:=a9.2.1;omega
   have K:=List.all_eq_true.1 a8 g (List.mem_range.2 be);simp only [Bool.or_eq_true,decide_eq_true_eq] at K;rw [Qz (by omega),← Tx sl];rcases K with((e | e) | e) | e
   ·rw [e,ag]
   ·obtain⟨bi,x2⟩:=du ac;have:=TT (w:=w) x2;rw [bi,O v U,ag] at this;rw [e];omega
   ·rw [e,NY]
   ·obtain⟨u,hu,e⟩:=List.any_eq_true.1 e;rw [decide_eq_true_eq] at e;rw [e,O u (List.mem_range.1 hu)]
  have:=aw _ s1 bb;omega
 have bn:∀j,j<5->gN w j=HM w ((M0 n).getD j 0):=λj al=>by
  unfold M0;rw [List.getD_eq_getElem?_getD,List.getElem?_map,List.getElem?_range al,Option.map_some,Option.getD_some];split
  ·have e:HM w (2 ^ j)=CB w (λi=>i==j):=Tv λi hi=>by
    unfold L8;rw [Nat.testBit_two_pow];show decide (j=i)=(i==j);by_cases e:i=j
    ·subst e;simp
    ·rw [decide_eq_false (λk=>e k.symm)];exact(beq_false_of_ne e).symm
   rw [e,N4 al]
  ·rw [NY];exact az j (by omega)
 obtain⟨r,bo⟩:=Uk Y a5 O (Ma n l).length (Ma n l) (M0 n) w [] hw (by unfold M0;simp) bn a2;refine⟨Ez r,List.mem_filterMap.2 ⟨Ma n l,?_,?_⟩⟩
 ·rw [List.filter_eq_self.2 λ_ _=>rfl];exact a0
 ·rw [List.nil_append];unfold IY;rw [bo];rfl
theorem Sc{n:Nat}{w0:List Int}(am:n<=5)(hb:∀A,-72<=CB w0 A/\CB w0 A<=72):∀(k:Nat) (l:List PR) (w:List Int) (out r:List DT),l.length=k->(∀x∈l,VP n x)->w.length=5->(∀A,∃B,CB w A=CB w0 B)->EK n k l w out=some r->
  ∃s,r=out++s/\s.length=k/\(∀d∈s,GD n d)/\s.foldl Cv w=z5
 | 0,l,w,out,r,ap,Y,hw,Z,h=>by
  unfold EK at h
  split at h
  ·rename_i e;cases h;exact⟨[],by simp,V,λd hd=>(by cases hd),e⟩
  ·cases h
 | k+1,l,w,out,r,ap,Y,hw,Z,h=>by
  unfold EK at h;obtain⟨p,ag,h⟩:=bind_some h;split at h
  ·cases h
  rename_i a1;unfold IP at ag;obtain⟨c1,c2,c3⟩:=List.find?_range_eq_some.1 ag;have c2:p<n:=List.mem_range.1 (by first | exact c2 | exact List.mem_range.2 c2)
  have a2:l.countP (BF p)=1:=by simpa using c1
  have ac:l.findIdx (BF p)<l.length:=by
   obtain⟨x,K,O⟩:=List.countP_pos_iff.1 (show 0<l.countP (BF p) by omega);exact List.findIdx_lt_length_of_exists ⟨x,K,O⟩
  rw [H5 ac] at h;have O:BF p l[l.findIdx (BF p)]=true:=List.findIdx_getElem;have K:=Y _ (List.getElem_mem ac);generalize l[l.findIdx (BF p)]=x at h O K;obtain⟨v1,v2,a3⟩:=K;have aq:x.1+x.2 - (p:Int)=((x.1+x.2 - (p:Int)).toNat:Nat)/\(x.1+x.2 - (p:Int)).toNat<n/\(x.1+x.2 - (p:Int)).toNat≠p:=by
   unfold BF at O;simp only [Bool.or_eq_true,decide_eq_true_eq] at O;omega
  obtain⟨av,a4,al⟩:=aq;have hm: -72<=gN w p/\gN w p<=72:=by
   obtain⟨B,U⟩:=Z λx=>x==p;rw [N4 (by omega)] at U;rw [U];exact hb B
  have aw:GD n (dP p x (gN w p)):=by
   unfold dP GD;split
   ·simp only;omega
   ·simp only;omega
  obtain⟨s,ay,e2,az,a0⟩:=Sc am hb k _ _ _ r (by rw [List.length_eraseIdx_of_lt ac];omega) (λx K=>Y x (List.mem_of_mem_eraseIdx K)) (MF hw) (λA=>by
   obtain⟨B,U⟩:=Z λj=>if j=p then A (x.1+x.2 - (p:Int)).toNat else A j
   exact⟨B,(SP (p:=p) (o:=(x.1+x.2 - (p:Int)).toNat) (by omega) (by omega) al (λj=>VC hw (by omega) (by omega) al av j) A).trans U⟩) h
  refine⟨dP p x (gN w p)::s,by rw [ay];simp,by simp [e2],λd hd=>?_,by rw [List.foldl_cons];exact a0⟩;rcases List.mem_cons.1 hd with rfl | hd
  ·exact aw
  ·exact az d hd
theorem Sm(l:List DT):(Ez l).Perm l:=by
 have ins:∀(d:DT) (l:List DT),(Gl d l).Perm (d::l):=by
  intro d l
  induction l with
  | nil=>exact List.Perm.refl _
  | cons z K O=>
   unfold Gl;split
   ·exact List.Perm.refl _
   ·exact(O.cons z).trans (List.Perm.swap d z K)
 refine ML (P:=λl=>(Ez l).Perm l) (List.Perm.refl _) (λl d h=>?_) l;rw [Mr];exact(ins d _).trans ((h.cons d).trans (List.perm_append_singleton d l).symm)
theorem SZ{o:OW}{m:Nat}{s:List DT}(h:VO o)(hw:(Bv o).length=5)(hm:m<o.1.length)(K:s∈Df o.1.length (Bv o) (λ_=>true) m [] (DR o.1.length)):RP o s/\KL s/\s.length=m:=by
 have O:=h.n5;unfold Df at K;obtain⟨c,Z,K⟩:=List.mem_filterMap.1 K;rw [List.nil_append] at K;unfold IY at K;obtain⟨r,ac,rfl⟩:=Option.map_eq_some_iff.1 K;have ag:=P0 Z;have aq:=(Mt (x:=(0,0)) Z).1;have al:∀x∈c,VP o.1.length x:=λx av=>Qk (List.mem_filter.1 (ag.subset av)).1;have aw:c.Nodup:=((WK O).filter _).sublist ag;have am:=Sa c.length c (Bv o) [] r V al ac;rw [List.map_nil,List.nil_append] at am;obtain⟨s,ap,e2,U,ay⟩:=Sc O (Rt h) c.length c (Bv o) [] r rfl al hw (λA=>⟨A,rfl⟩) ac;rw [List.nil_append] at ap;subst ap;have az:RP o r:=⟨U,by
  have a0:=am.nodup_iff.2 aw
  refine List.pairwise_map.2 ((List.pairwise_map.1 a0).imp_of_mem λ{a b} a1 hb a2 e=>a2 ?_)
  have:=V3 O (U a a1) (U b hb) e
  unfold Np
  rcases this with⟨k1,Y⟩ | ⟨k1,Y⟩
  ·rw [k1,Y]
  ·rw [k1,Y,Int.min_comm,Int.max_comm],ay,by omega⟩
 exact⟨az.perm (Sm r).symm h hw,Tf r,by rw [(Sm r).length_eq,e2,aq]⟩
theorem eF{o:OW}(h:VO o)(hw:(Bv o).length=5):HS o≠ []/\∀s∈HS o,RP o s/\KL s/\(s.length:Int)=o.1.length - BB (Gw o):=by
 have aw:=h.n2;obtain⟨ay,K⟩:=Zu h hw;obtain⟨ac,ag⟩:=Tk h;have az:0<BB (Gw o):=by
  have:=(MI ac (Eh o.1.length []) []).2 (by simpa using Ql o.1.length []);exact Int.lt_of_lt_of_le ag this
 have U:o.1.length - (BB (Gw o)).toNat<o.1.length:=by omega
 obtain⟨al,_,a0⟩:=SZ h hw U K;have Y:HS o≠ []:=by
  intro e;unfold HS FW at e;rcases O:((List.range o.1.length).map λm=>Df o.1.length (Bv o) (λ_=>true) m [] (DR o.1.length)).find? λl=> !l.isEmpty with _ | L
  ·have:=List.find?_eq_none.1 O _ (List.mem_map.2 ⟨_,List.mem_range.2 U,V⟩);rcases Z:Df o.1.length (Bv o) (λ_=>true) (o.1.length - (BB (Gw o)).toNat) [] (DR o.1.length) with _ | ⟨a,b⟩
   ·rw [Z] at K;cases K
   ·rw [Z] at this;simp at this
  ·rw [O] at e;have:=List.find?_some O;rw [Option.getD_some] at e;rw [e] at this;simp at this
 refine⟨Y,?_⟩;rcases T7 (n:=o.1.length) (w:=Bv o) (P:=λ_=>true) with e | ⟨m,hm,e,am⟩
 ·exact absurd e Y
 intro s ap;have aq:s∈Df o.1.length (Bv o) (λ_=>true) m [] (DR o.1.length):=by rw [← e];exact ap
 obtain⟨r1,r2,r3⟩:=SZ h hw hm aq;refine⟨r1,r2,?_⟩;have a1:=Q0 h hw r1;have a2:=Q0 h hw al;have av:=(LR (OB h).1).2.2.1;rw [(LR (OB h).1).1] at av;have hle:m<=o.1.length - (BB (Gw o)).toNat:=by
  refine Nat.le_of_not_lt λk=>?_;have:=am _ k;rw [this] at K;cases K
 have:=r1.len;omega
theorem Yw{F:Nat}{o:OW}{s:List DT}{e:Int}(ag:100<F)(h:VO o)(U:RP o s)(ac:KL s):BO (Pal.iter (MM F (s,e)) F 1) (λr=>r=Sum.inr ()):=by
 have al:=h.n5;have am:=U.len;refine Em s.length (λt z=>z=((t+1:Nat):Int)) V (by omega) ?_ ?_
 ·rintro t _ K rfl;unfold MM
  dsimp only;refine C9 (λap=>?_) (λ_=>Az V);have O:t+1<s.length:=by omega
  refine CO (m:=t+1) V O (Bw (t:Int) (by omega) (by omega) (by omega) ?_);refine CO (m:=t) V K ?_;have Y:=List.pairwise_iff_getElem.1 ac t (t+1) K O (by omega);have aq:¬(s[t+1].1=s[t].1/\s[t+1].2.1=s[t].2.1):=λZ=>by
   have:=List.pairwise_iff_getElem.1 U.nd t (t+1) (by simpa using K) (by simpa using O) (by omega);refine this ?_;rw [List.getElem_map,List.getElem_map];unfold eD;rw [Z.1,Z.2]
  unfold Hp at Y;rw [decide_eq_false_iff_not] at Y;refine Bc (b:=false) ?_ ?_
  ·rw [if_neg (by omega)];refine CW (CO (m:=t+1) V O ?_);refine Bw (t:Int) (by omega) (by omega) (by omega) (CO (m:=t) V K ?_);refine C9 (λhe=>?_) (λ_=>Az V);refine CO (m:=t+1) V O (Bw (t:Int) (by omega) (by omega) (by omega) ?_);refine CO (m:=t) V K (Az ?_);rw [decide_eq_false_iff_not];omega
  refine Cb (by simp) (Bw ((t+1+1:Nat):Int) (by omega) (by omega) (by omega) ?_);exact Az V
 ·rintro _ rfl;unfold MM;exact Cb (by simp only;omega) (Az ⟨_,V,V⟩)
theorem ao{F:Nat}(am:4000<F)(ap:f18 F=some true)(Wc:List Int):Pk F Wc=some true:=by
 refine CW ?_;unfold Pk;refine BA (S:=λb=>BG 0 b) ?_ ?_
 ·unfold f20;exact Az ⟨Int.le_refl 0,Int.le_refl 0⟩
 intro b aq;refine BA (bZ (k:=0) (pm:=5) (dm:=8) (by omega) aq (by omega) (by omega) (by omega) (by omega)) ?_;rintro⟨o,b⟩ ⟨U,_,_,Y⟩;have h:VO o:=U;have hb:BG 100 b:=Y.Ag (by omega);clear U Y;simp only;obtain⟨_,Z⟩:=K5 (F:=F) (by omega) h;have a0:=h.n5;have a1:=h.n2;obtain⟨ac,av⟩:=eF h Z.1;obtain⟨K,aw,hlen⟩:=av _ (bm _ ac);obtain⟨ay,_⟩:=OB h;obtain⟨az,O⟩:=LR ay;have a2:=K.len;refine Bc (di (by omega) h) (Bc (eS am h) ?_);refine Bc (eL (by omega) h) ?_;simp only;generalize MZ (HS o)=s at*;refine Bc (b:=false) (by rw [if_neg (by simp)];rfl) (Bc (b:=false) (by rw [if_neg (by simp)];rfl) ?_);refine Bc (b:=false) ?_ ?_
 ·rw [if_neg (by simp)];have:0<(HS o).length:=List.length_pos_iff.2 ac;simp;omega
 refine Bc (b:=false) (by rw [if_neg (by simp)];simp [az]) (Bc (b:=false) (by rw [if_neg (by simp)];simp;omega) ?_);refine Bc (b:=false) ?_ ?_
 ·rw [if_neg (by simp)];refine CW (Bc (bh (by omega) h K.gd (by omega)) (Az ?_));rw [if_pos K.nd,if_pos K.z];rfl
 refine Cb (by simp) (BA (Yw (by omega) h K aw) ?_);rintro _ rfl;simp only [Sum.elim_inr];refine Bc (Z6 (by omega) O (by omega)) ?_;have:=O.1;have:=O.2.1;refine Bw ((s.length:Nat):Int) (by omega) (by omega) (by omega) (BA (S:=λr=>r.1=true) ?_ ?_)
 ·refine Da V (BA (bH (by omega) h hb (by omega)) ?_);rintro⟨own,a3⟩ ⟨ag,_⟩;simp only at ag ⊢;refine Az ?_;have:=Q0 h Z.1 ag;simp;omega
 ·rintro⟨t,_⟩ al;simp only at al;subst al;refine Bc (b:=true) ?_ (Az V);rw [if_pos rfl];exact CW (Bc ap (Az V))
end Pal
