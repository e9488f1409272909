/- ToothChecks. Part 5 of 8. -/
import Derived.Test.YtboibffcmhheiaaGreatDoorTkc
import Derived.Test.YtboibffcmhheiaaGreatDoorTkd
set_option linter.all false
set_option maxRecDepth 100000
namespace Pal
open Go Go.Conc Go.Proofs
open Go.Proofs.Tryz
variable {J:Judge Tryz.prog}{E:LH}
def J3(fuel:Nat)(U:Int×(A3))(V:(List (List Int))×(List (List Int))×(List Int)×Int×Nat×Int)(K:(List Int)×Int×Nat×(List Int)×Int):Option (AH ((List Int)×Int×Nat×(List Int)×Int) ((List Int)×A3)):= Option.bind (if 0<K.2.2.2.2 then(some (decide (1<U.1))) else(some false)) fun Z=> if Z=true then((Ac (V.2.2.2.2.2 - 1)).bind fun aa=> (f41 fuel (K.1,K.2.1,K.2.2.1) (max (0) (aa))).bind fun Y=> (f97 fuel Y.2 6).bind fun x322=> Option.bind (if x322.1=true then((Ac (U.1 - 1)).bind fun ab=> (f41 fuel x322.2 ab).bind fun ac=> some ac) else(some (Y.1,x322.2.1,x322.2.2.1,x322.2.2.2))) fun O=> Option.bind (if O.1≠V.2.2.2.2.2 then((f98 fuel K.2.2.2.1 O.1).bind fun ae=> some ae) else(some K.2.2.2.1)) fun x339=> (Ac (K.2.2.2.2 - 1)).bind fun ag=> some (.more (O.2.1,O.2.2.1,O.2.2.2,x339,ag))) else(some (.done (K.2.2.2.1,K.1,K.2.1,K.2.2.1)))
def JX(fuel:Nat)(O:Int×(A3))(K:(List (List Int))×(List (List Int))×(List Int)×Int×Nat×Int):Option (AH ((List (List Int))×(List (List Int))×(List Int)×Int×Nat×Int) ((List Int)×Int×Nat×JW2)):= if K.2.2.2.2.2<O.1 then((Ac (O.1 - 1)).bind fun ab=> (Ac (K.2.2.2.2.2+1)).bind fun ac=> (f97 fuel (K.2.2.1,K.2.2.2.1,K.2.2.2.2.1) 3).bind fun U=> Option.bind (if U.1=true then((Ac (O.1 - 1)).bind fun ah=> (f96 fuel U.2 K.2.2.2.2.2 ah).bind fun x428=> (f98 fuel ([min (ab) (ac)]:List Int) x428.1).bind fun ai=> some (ai,x428.2.1,x428.2.2.1,x428.2.2.2)) else(some (([min (ab) (ac)]:List Int),U.2.1,U.2.2.1,U.2.2.2))) fun ae=> (f97 fuel ae.2 8).bind fun V=> Option.bind (if V.1=true then((Ac (O.1 - 1)).bind fun aj=> (f41 fuel V.2 aj).bind fun Y=> some (([Y.1]:List Int),Y.2.1,Y.2.2.1,Y.2.2.2)) else(some (ae.1,V.2.1,V.2.2.1,V.2.2.2))) fun ag=> (f99 fuel ag.2 ([0,1,1,2]:List Int)).bind fun Z=> Option.bind (iter (J3 fuel O K) fuel (Z.2.1,Z.2.2.1,Z.2.2.2,[],Z.1)) fun aa=> (Cj K.1 ([ag.1]:List (List Int))).bind fun ak=> (Cj K.2.1 ([aa.1]:List (List Int))).bind fun al=> (Ac (K.2.2.2.2.2+1)).bind fun am=> some (.more (ak,al,aa.2.1,aa.2.2.1,aa.2.2.2,am))) else(some (.done (K.2.2.1,K.2.2.2.1,K.2.2.2.2.1,K.1,K.2.1)))
def f39(fuel:Nat)(p0:A3)(p1:Int):Option ((JW2)×(A3)):= (f96 fuel p0 1 p1).bind fun K=> Option.bind (iter (JX fuel K) fuel ([],[],K.2.1,K.2.2.1,K.2.2.2,0)) fun O=> some (O.2.2.2,(O.1,O.2.1,O.2.2.1))
theorem VZ{O:Nat}{a1:OAd}{c2:Nat}{p0:A3}{p1:Int}(h3:LsR rI E a1 c2 (p0.1)){fuel:Nat}{r:(JW2)×(A3)}(hD:f39 fuel p0 p1=some r):Al J 39 [pV O 0,iV p1] E [(O,.cells #[sV a1 p0.1 c2,iV p0.2.1,.int .u64 ((p0.2.2:Nat):Int)] 92 (0,0))] (fun w E' B'=>∃(bC:OAd) (bD:Nat) (bE:OAd) (bF:Nat) (bG:OAd) (bH:Nat),w= .agg #[sV bC r.1.1 bD,sV bE r.1.2 bF]∧B'= [(O,.cells #[sV bG r.2.1 bH,iV r.2.2.1,.int .u64 ((r.2.2.2:Nat):Int)] 92 (0,0))]∧LsR (rL rI) E' bC bD (r.1.1)∧LsR (rL rI) E' bE bF (r.1.2)∧LsR rI E' bG bH (r.2.1)):=by
 refine Av func39 rfl rfl fun Q gm cs H hN cJ=>?_;unfold f39 at hD;refine zg 2 rfl ?_;refine JS.alloc rfl rfl rfl hN q_zeroOf_oftype24 fun V cK=>?_;refine zg 3 rfl ?_;refine JS.alloc rfl rfl rfl cK q_zeroOf_oftype24 fun U cM=>?_;obtain⟨am,cN,cO⟩:=bs hD;refine zg 5 rfl ?_;refine JSclL_ 0 (LZ h3 cN) rfl rfl KS cM rfl ?_;rintro _ a8 _ cP ⟨bI,bJ,rfl,rfl,h17⟩ cQ;refine Bm (S':= [[(O,.cells #[sV bI am.2.1 bJ,iV am.2.2.1,.int .u64 ((am.2.2.2:Nat):Int)] 92 (0,0))],[(V,.cells #[.slice none 0 0,.slice none 0 0] 24 (0,0))],[(U,.cells #[.slice none 0 0,.slice none 0 0] 24 (0,0))]]) rfl cQ fun hN18=>?_;obtain⟨Z,cR,hD40⟩:=bs cO;refine zg 7 rfl ?_;refine JLjoin_ (fun L s=>∃(E41:LH) (aO:OAd) (aP:Nat) (an:OAd) (ao:Nat) (a9:Seg) (a52:OAd) (c53:Nat) (ba:Seg),Jn a8 H E41 [[(O,.cells #[sV aO Z.1 aP,iV Z.2.1,.int .u64 ((Z.2.2.1:Nat):Int)] 92 (0,0))],[(V,.cells #[.slice none 0 0,.slice none 0 0] 24 (0,0))],[(U,.cells #[sV an Z.2.2.2.1 ao,sV a52 Z.2.2.2.2 c53] 24 (0,0))],a9,ba] [(4,pV V 0),(5,pV U 0)] L s (LsR rI E41 aO aP (Z.1)∧OL 28 (rL rI) E41 an ao a9 (Z.2.2.2.1)∧OL 28 (rL rI) E41 a52 c53 ba (Z.2.2.2.2))) ?_ ?_
 ·rintro _ _ ⟨E41,aO,aP,an,ao,a9,a52,c53,ba,rfl,rfl,hle42,hN43,cT,cV,h54⟩;refine zg 2 rfl ?_;refine Ae rfl (fun ρ h=>A2 (vs:= [sV an Z.2.2.2.1 ao,sV a52 Z.2.2.2.2 c53]) q_aggT_ofunderlying24 q_szOf_oftype24 (h _ _ rfl) (DT (off:=0) 2 hN43 rfl rfl)) ?_;refine JSst_ (v:= .agg #[sV an Z.2.2.2.1 ao,sV a52 Z.2.2.2.2 c53]) (off:=0) 1 hN43 q_szOf_oftype24 rfl rfl rfl rfl fun cW=>?_;refine JL.done ?_;refine JSfreezeL_ 3 cV cW rfl fun E58 hle59 cX cY=>?_;refine JSfreezeL_ 4 (h54.moq hle59) cY rfl fun gn bb cZ c0=>?_;refine Bm (S':= [[(O,.cells #[sV aO Z.1 aP,iV Z.2.1,.int .u64 ((Z.2.2.1:Nat):Int)] 92 (0,0))],[(V,.cells #[sV an Z.2.2.2.1 ao,sV a52 Z.2.2.2.2 c53] 24 (0,0))],[(U,.cells #[sV an Z.2.2.2.1 ao,sV a52 Z.2.2.2.2 c53] 24 (0,0))],[],[]]) rfl c0 fun c1=>?_;refine JS.drop 2 c1 rfl fun bK=>?_;obtain rfl:=oi hD40;refine JL.ret (v:= .agg #[sV an Z.2.2.2.1 ao,sV a52 Z.2.2.2.2 c53]) rfl rfl (Bc.list func39 rfl (vs:= [.agg #[sV an Z.2.2.2.1 ao,sV a52 Z.2.2.2.2 c53]]) ⟨⟨_,rfl,Ld.many (vs:= [sV an Z.2.2.2.1 ao,sV a52 Z.2.2.2.2 c53]) q_aggT_ofunderlying24 q_szOf_oftype24 (DT (off:=0) 1 bK rfl rfl)⟩,trivial⟩) ?_;refine Gd 1 bK rfl fun c3=>?_;exact cJ _ _ _ _ (((cP.trq hle42).trq hle59).trq bb) rfl ⟨an,ao,a52,c53,aO,aP,rfl,rfl,(cX.moq bb),cZ,(cT.moq (hle59.trq bb))⟩ c3
 ·intro c4;refine JL.block ?_;refine JLlw_ cR (fun L s K=>∃(aG:LH) (aa:OAd) (ab:Nat) (ag:Seg) (ac:OAd) (ae:Nat) (ah:Seg) (aW:OAd) (aX:Nat),Jn a8 H aG [[(O,.cells #[sV aW K.2.2.1 aX,iV K.2.2.2.1,.int .u64 ((K.2.2.2.2.1:Nat):Int)] 92 (0,0))],[(V,.cells #[.slice none 0 0,.slice none 0 0] 24 (0,0))],[(U,.cells #[sV aa K.1 ab,sV ac K.2.1 ae] 24 (0,0))],ag,ah] [(0,pV O 0),(4,pV V 0),(5,pV U 0),(6,iV am.1),(7,iV K.2.2.2.2.2)] L s (OL 28 (rL rI) aG aa ab ag (K.1)∧OL 28 (rL rI) aG ac ae ah (K.2.1)∧LsR rI aG aW aX (K.2.2.1))) ⟨a8,none,0,[],none,0,[],bI,bJ,rfl,rfl,lR_,hN18,OL.nil,OL.nil,h17⟩ ?_;rintro _ _ K ⟨aG,aa,ab,ag,ac,ae,ah,aW,aX,rfl,rfl,aY,bL,h77,aZ,bM⟩ c6 ⟨gp,aQ⟩ bc;have bN:=aQ;unfold JX at bN;refine zg 7 rfl ?_;refine JLfi_ bN (fun c7 c9=>?_) (fun c7 da=>?_)
  ·obtain⟨bd,db,dc⟩:=bs c9;refine zg 6 rfl ?_;refine A9 db rfl rfl rfl ?_;obtain⟨bf,dd,de⟩:=bs dc;refine zg 1 rfl ?_;refine JLaC_ dd rfl rfl rfl ?_;refine Ae (v:=iV (min (bd) (bf))) rfl (fun ρ h=>Yl.min2 (h _ _ rfl) (h _ _ rfl)) ?_;refine JSlit_ (pp:=rI) [iV (min (bd) (bf))] [min (bd) (bf)] rfl rfl rfl underlying28 q_szOf_oftype3 q_zeroOf_oftype3 (by decide) rfl rfl rfl ⟨rfl,trivial⟩ bL fun df dg bO dh=>?_;obtain⟨bg,di,dj⟩:=bs de;refine zg 6 rfl ?_;refine JSclL_ 0 (Ii bM di) rfl rfl HJ dh rfl ?_;rintro _ dk _ ap ⟨bP,bQ,rfl,rfl,bR⟩ bS;obtain⟨aH,dl,dm⟩:=bs dj;refine JL.done ?_;refine JLjoin_ (fun L s=>∃(a0:LH) (a2:OAd) (a3:Nat) (bh:OAd) (bi:Nat),Jn dk H a0 [[(O,.cells #[sV bh aH.2.1 bi,iV aH.2.2.1,.int .u64 ((aH.2.2.2:Nat):Int)] 92 (0,0))],[(V,.cells #[.slice none 0 0,.slice none 0 0] 24 (0,0))],[(U,.cells #[sV aa K.1 ab,sV ac K.2.1 ae] 24 (0,0))],ag,ah] [(0,pV O 0),(4,pV V 0),(5,pV U 0),(6,iV am.1),(7,iV K.2.2.2.2.2),(8,sV a2 aH.1 a3)] L s (LsR rI a0 a2 a3 (aH.1)∧LsR rI a0 bh bi (aH.2.1))) ?_ ?_
   ·rintro _ _ ⟨a0,a2,a3,bh,bi,rfl,rfl,ay,dn,dp,h123⟩;obtain⟨bj,dq,dr⟩:=bs dm;refine zg 4 rfl ?_;refine JSclL_ 0 (Ii h123 dq) rfl rfl HJ dn rfl ?_;rintro _ bT _ au ⟨bU,bV,rfl,rfl,bW⟩ dt;refine Bm (S':= [[(O,.cells #[sV bU bj.2.1 bV,iV bj.2.2.1,.int .u64 ((bj.2.2.2:Nat):Int)] 92 (0,0))],[(V,.cells #[.slice none 0 0,.slice none 0 0] 24 (0,0))],[(U,.cells #[sV aa K.1 ab,sV ac K.2.1 ae] 24 (0,0))],ag,ah]) rfl dt fun bX=>?_;obtain⟨aj,du,dv⟩:=bs dr;refine JL.done ?_;refine JLjoin_ (fun L s=>∃(E136:LH) (av:OAd) (aw:Nat) (bk:OAd) (bl:Nat),Jn bT H E136 [[(O,.cells #[sV bk aj.2.1 bl,iV aj.2.2.1,.int .u64 ((aj.2.2.2:Nat):Int)] 92 (0,0))],[(V,.cells #[.slice none 0 0,.slice none 0 0] 24 (0,0))],[(U,.cells #[sV aa K.1 ab,sV ac K.2.1 ae] 24 (0,0))],ag,ah] [(0,pV O 0),(4,pV V 0),(5,pV U 0),(6,iV am.1),(7,iV K.2.2.2.2.2),(8,sV av aj.1 aw)] L s (LsR rI E136 av aw (aj.1)∧LsR rI E136 bk bl (aj.2.1))) ?_ ?_
    ·rintro _ _ ⟨E136,av,aw,bk,bl,rfl,rfl,hle137,hN138,bY,dw⟩;refine zg 8 rfl ?_;refine JSlit_ (pp:=rI) [iV 0,iV 1,iV 1,iV 2] [0,1,1,2] rfl rfl rfl underlying28 q_szOf_oftype3 q_zeroOf_oftype3 (by decide) rfl rfl rfl ⟨rfl,rfl,rfl,rfl,trivial⟩ hN138 fun gq gr dx dy=>?_;refine JSfreezeL_ 5 dx dy rfl fun gt al dz dA=>?_;obtain⟨bm,dB,dC⟩:=bs dv;refine JSclL_ 0 (Kg (dw.moq al) dz dB) rfl rfl IJ dA rfl ?_;rintro _ bn _ aq ⟨bZ,b0,rfl,rfl,dD⟩ dE;refine Bm (S':= [[(O,.cells #[sV bZ bm.2.1 b0,iV bm.2.2.1,.int .u64 ((bm.2.2.2:Nat):Int)] 92 (0,0))],[(V,.cells #[.slice none 0 0,.slice none 0 0] 24 (0,0))],[(U,.cells #[sV aa K.1 ab,sV ac K.2.1 ae] 24 (0,0))],ag,ah,[]]) rfl dE fun dF=>?_;obtain⟨Y,dG,dH⟩:=bs dC;refine zg 2 rfl ?_;refine JLjoin_ (fun L s=>∃(aB:LH) (aI:OAd) (aJ:Nat) (az:OAd) (aA:Nat),Jn bn H aB [[(O,.cells #[sV az Y.2.1 aA,iV Y.2.2.1,.int .u64 ((Y.2.2.2:Nat):Int)] 92 (0,0))],[(V,.cells #[.slice none 0 0,.slice none 0 0] 24 (0,0))],[(U,.cells #[sV aa K.1 ab,sV ac K.2.1 ae] 24 (0,0))],ag,ah] [(0,pV O 0),(4,pV V 0),(5,pV U 0),(6,iV am.1),(7,iV K.2.2.2.2.2),(8,sV av aj.1 aw),(9,sV aI Y.1 aJ)] L s (LsR rI aB aI aJ (Y.1)∧LsR rI aB az aA (Y.2.1))) ?_ ?_
     ·rintro _ _ ⟨aB,aI,aJ,az,aA,rfl,rfl,ar,aR,bo,bp⟩;refine BT 11 [U] ⟨⟨2,_,rfl⟩,trivial⟩ aR fun ht=>?_;refine Bf 0 ht underlying24 A6 rfl rfl rfl rfl ?_;refine JGV_ (v:= sV aa K.1 ab) 1 ht rfl rfl (fun ρ h s' hs=>Yl.load Br (h _ _ rfl) (AX (o:=0) 2 aR rfl (by simp [Ak]) hs rfl)) ?_;refine JGmv_ 2 ht rfl rfl ?_;refine Bf 5 ht underlying24 A6 rfl rfl rfl rfl ?_;refine JGV_ (v:= sV ac K.2.1 ae) 6 ht rfl rfl (fun ρ h s' hs=>Yl.load Br (h _ _ rfl) (AX (o:=1) 2 aR rfl (by simp [Ak]) hs rfl)) ?_;refine JGmv_ 7 ht rfl rfl ?_;obtain⟨aK,bq,dI⟩:=bs dH;obtain⟨aL,br,bu⟩:=bs dI;refine JGtwo_ (i:=3) (j:=8) rfl (by decide+kernel) ?_ ?_
      ·refine Take.lit (pp:=(rL rI)) (jp:=2) [sV av aj.1 aw] ([aj.1]:List (List Int)) aR rfl rfl rfl rfl underlying22 Bg DR (by decide) rfl rfl rfl ⟨⟨_,_,rfl,(bY.moq ((al.trq aq).trq ar))⟩,trivial⟩ fun gu b1 b2 b3=>?_;refine JGtwo_ (i:=4) (j:=8) rfl (by decide+kernel) ?_ ?_
       ·refine Take.app (pp:=(rL rI)) (jp:=2) 3 5 b3 rfl bq rfl rfl rfl rfl rfl rfl rfl underlying22 underlying22 Bg (Bz type28) DR rfl (by decide) (by decide) (h77.moq ((((((ap.trq ay).trq au).trq hle137).trq al).trq aq).trq ar)) b2 rfl rfl rfl rfl fun b4 b5 gv b6 h200 hN201=>?_;refine Bf 10 ht underlying24 A6 rfl rfl rfl rfl ?_;refine JG.one (i:=8) rfl (by decide+kernel) ?_;refine Take.lit (pp:=(rL rI)) (jp:=2) [sV aI Y.1 aJ] ([Y.1]:List (List Int)) hN201 rfl rfl rfl rfl underlying22 Bg DR (by decide) rfl rfl rfl ⟨⟨_,_,rfl,bo⟩,trivial⟩ fun gw dJ dK dL=>?_;refine JG.one (i:=9) rfl (by decide+kernel) ?_;refine Take.app (pp:=(rL rI)) (jp:=2) 4 6 dL rfl br rfl rfl rfl rfl rfl rfl rfl underlying22 underlying22 Bg (Bz type28) DR rfl (by decide) (by decide) (aZ.moq ((((((ap.trq ay).trq au).trq hle137).trq al).trq aq).trq ar)) dK rfl rfl rfl rfl fun b7 b8 gx b9 dM dN=>?_;refine JALlf_ [11,12,13] ?_;refine CZ 3 rfl dN fun dO=>?_;refine JS.drop 3 dO rfl fun dP=>?_;refine CZ 4 rfl dP fun dQ=>?_;refine JS.drop 4 dQ rfl fun dR=>?_;refine Bm (S':= [[(O,.cells #[sV az Y.2.1 aA,iV Y.2.2.1,.int .u64 ((Y.2.2.2:Nat):Int)] 92 (0,0))],[(V,.cells #[.slice none 0 0,.slice none 0 0] 24 (0,0))],[(U,.cells #[sV aa K.1 ab,sV ac K.2.1 ae] 24 (0,0))],[],[],b1,dJ,b6,b9]) rfl dR fun dS=>?_;refine JSst_ (v:= sV b4 aK b5) (off:=0) 2 dS A6 rfl rfl rfl rfl fun dT=>?_;refine Ar underlying24 A6 rfl rfl rfl ?_;refine JSst_ (v:= sV b7 aL b8) (off:=1) 2 dT A6 rfl rfl rfl rfl fun dU=>?_;obtain⟨dV,dW,dX⟩:=bs bu;refine zg 4 rfl ?_;refine JLaC_ dW rfl rfl rfl ?_;refine zg 2 rfl ?_;refine JS.drop 5 dU rfl fun dY=>?_;refine JS.drop 6 dY rfl fun dZ=>?_;obtain rfl:=oi dX;exact JLkw_ (bc _ _ (aK,aL,Y.2.1,Y.2.2.1,Y.2.2.2,dV) ⟨aB,b4,b5,b6,b7,b8,b9,az,aA,rfl,rfl,(((((((aY.trq ap).trq ay).trq au).trq hle137).trq al).trq aq).trq ar),dZ,h200,dM,bp⟩ aQ) rfl
       ·refine Take.lit (pp:=(rL rI)) (jp:=2) [sV aI Y.1 aJ] ([Y.1]:List (List Int)) b3 rfl rfl rfl rfl underlying22 Bg DR (by decide) rfl rfl rfl ⟨⟨_,_,rfl,bo⟩,trivial⟩ fun gy ea eb ec=>?_;refine JG.one (i:=4) rfl (by decide+kernel) ?_;refine Take.app (pp:=(rL rI)) (jp:=2) 3 5 ec rfl bq rfl rfl rfl rfl rfl rfl rfl underlying22 underlying22 Bg (Bz type28) DR rfl (by decide) (by decide) (h77.moq ((((((ap.trq ay).trq au).trq hle137).trq al).trq aq).trq ar)) b2 rfl rfl rfl rfl fun ca cb gz cc ed hN235=>?_;refine Bf 10 ht underlying24 A6 rfl rfl rfl rfl ?_;refine JG.one (i:=9) rfl (by decide+kernel) ?_;refine Take.app (pp:=(rL rI)) (jp:=2) 4 6 hN235 rfl br rfl rfl rfl rfl rfl rfl rfl underlying22 underlying22 Bg (Bz type28) DR rfl (by decide) (by decide) (aZ.moq ((((((ap.trq ay).trq au).trq hle137).trq al).trq aq).trq ar)) eb rfl rfl rfl rfl fun a236 c237 gA cd ee ef=>?_;refine JALlf_ [11,12,13] ?_;refine CZ 3 rfl ef fun eg=>?_;refine JS.drop 3 eg rfl fun eh=>?_;refine CZ 4 rfl eh fun ei=>?_;refine JS.drop 4 ei rfl fun ej=>?_;refine Bm (S':= [[(O,.cells #[sV az Y.2.1 aA,iV Y.2.2.1,.int .u64 ((Y.2.2.2:Nat):Int)] 92 (0,0))],[(V,.cells #[.slice none 0 0,.slice none 0 0] 24 (0,0))],[(U,.cells #[sV aa K.1 ab,sV ac K.2.1 ae] 24 (0,0))],[],[],b1,ea,cc,cd]) rfl ej fun ek=>?_;refine JSst_ (v:= sV ca aK cb) (off:=0) 2 ek A6 rfl rfl rfl rfl fun el=>?_;refine Ar underlying24 A6 rfl rfl rfl ?_;refine JSst_ (v:= sV a236 aL c237) (off:=1) 2 el A6 rfl rfl rfl rfl fun hN248=>?_;obtain⟨em,en,eo⟩:=bs bu;refine zg 4 rfl ?_;refine JLaC_ en rfl rfl rfl ?_;refine zg 2 rfl ?_;refine JS.drop 5 hN248 rfl fun ep=>?_;refine JS.drop 6 ep rfl fun eq=>?_;obtain rfl:=oi eo;exact JLkw_ (bc _ _ (aK,aL,Y.2.1,Y.2.2.1,Y.2.2.2,em) ⟨aB,ca,cb,cc,a236,c237,cd,az,aA,rfl,rfl,(((((((aY.trq ap).trq ay).trq au).trq hle137).trq al).trq aq).trq ar),eq,ed,ee,bp⟩ aQ) rfl
      ·refine Take.lit (pp:=(rL rI)) (jp:=2) [sV aI Y.1 aJ] ([Y.1]:List (List Int)) aR rfl rfl rfl rfl underlying22 Bg DR (by decide) rfl rfl rfl ⟨⟨_,_,rfl,bo⟩,trivial⟩ fun gB er h256 et=>?_;refine JG.one (i:=3) rfl (by decide+kernel) ?_;refine Take.lit (pp:=(rL rI)) (jp:=2) [sV av aj.1 aw] ([aj.1]:List (List Int)) et rfl rfl rfl rfl underlying22 Bg DR (by decide) rfl rfl rfl ⟨⟨_,_,rfl,(bY.moq ((al.trq aq).trq ar))⟩,trivial⟩ fun gC eu ew ex=>?_;refine JG.one (i:=4) rfl (by decide+kernel) ?_;refine Take.app (pp:=(rL rI)) (jp:=2) 3 6 ex rfl bq rfl rfl rfl rfl rfl rfl rfl underlying22 underlying22 Bg (Bz type28) DR rfl (by decide) (by decide) (h77.moq ((((((ap.trq ay).trq au).trq hle137).trq al).trq aq).trq ar)) ew rfl rfl rfl rfl fun ce cf gD cg ey ez=>?_;refine Bf 10 ht underlying24 A6 rfl rfl rfl rfl ?_;refine JG.one (i:=9) rfl (by decide+kernel) ?_;refine Take.app (pp:=(rL rI)) (jp:=2) 4 5 ez rfl br rfl rfl rfl rfl rfl rfl rfl underlying22 underlying22 Bg (Bz type28) DR rfl (by decide) (by decide) (aZ.moq ((((((ap.trq ay).trq au).trq hle137).trq al).trq aq).trq ar)) h256 rfl rfl rfl rfl fun ci ck gE cm eA eB=>?_;refine JALlf_ [11,12,13] ?_;refine CZ 3 rfl eB fun eC=>?_;refine JS.drop 3 eC rfl fun eD=>?_;refine CZ 4 rfl eD fun eE=>?_;refine JS.drop 4 eE rfl fun eF=>?_;refine Bm (S':= [[(O,.cells #[sV az Y.2.1 aA,iV Y.2.2.1,.int .u64 ((Y.2.2.2:Nat):Int)] 92 (0,0))],[(V,.cells #[.slice none 0 0,.slice none 0 0] 24 (0,0))],[(U,.cells #[sV aa K.1 ab,sV ac K.2.1 ae] 24 (0,0))],[],[],er,eu,cg,cm]) rfl eF fun eG=>?_;refine JSst_ (v:= sV ce aK cf) (off:=0) 2 eG A6 rfl rfl rfl rfl fun eH=>?_;refine Ar underlying24 A6 rfl rfl rfl ?_;refine JSst_ (v:= sV ci aL ck) (off:=1) 2 eH A6 rfl rfl rfl rfl fun eI=>?_;obtain⟨eJ,eK,eL⟩:=bs bu;refine zg 4 rfl ?_;refine JLaC_ eK rfl rfl rfl ?_;refine zg 2 rfl ?_;refine JS.drop 5 eI rfl fun eM=>?_;refine JS.drop 6 eM rfl fun eN=>?_;obtain rfl:=oi eL;exact JLkw_ (bc _ _ (aK,aL,Y.2.1,Y.2.2.1,Y.2.2.2,eJ) ⟨aB,ce,cf,cg,ci,ck,cm,az,aA,rfl,rfl,(((((((aY.trq ap).trq ay).trq au).trq hle137).trq al).trq aq).trq ar),eN,ey,eA,bp⟩ aQ) rfl
     ·intro eO;refine JL.block ?_;refine JLlw_ dG (fun L s ai=>∃(aC:LH) (aS:OAd) (aT:Nat) (aD:OAd) (aE:Nat),Jn bn H aC [[(O,.cells #[sV aS ai.1 aT,iV ai.2.1,.int .u64 ((ai.2.2.1:Nat):Int)] 92 (0,0))],[(V,.cells #[.slice none 0 0,.slice none 0 0] 24 (0,0))],[(U,.cells #[sV aa K.1 ab,sV ac K.2.1 ae] 24 (0,0))],ag,ah] [(0,pV O 0),(4,pV V 0),(5,pV U 0),(6,iV am.1),(7,iV K.2.2.2.2.2),(8,sV av aj.1 aw),(9,sV aD ai.2.2.2.1 aE),(10,iV ai.2.2.2.2)] L s (LsR rI aC aS aT (ai.1)∧LsR rI aC aD aE (ai.2.2.2.1))) ⟨bn,bZ,b0,none,0,rfl,rfl,lR_,dF,dD,LsR.nil⟩ ?_;rintro _ _ ai ⟨aC,aS,aT,aD,aE,rfl,rfl,cn,co,cp,bv⟩ eP ⟨gF,bw⟩ eQ;have cq:=bw;unfold J3 at cq;obtain⟨eR,eS,eT⟩:=bs cq;refine zg 6 rfl ?_;refine JLjoinR_ [] (fun L s=>∃(bx:LH),Jm aC H bx [[(O,.cells #[sV aS ai.1 aT,iV ai.2.1,.int .u64 ((ai.2.2.1:Nat):Int)] 92 (0,0))],[(V,.cells #[.slice none 0 0,.slice none 0 0] 24 (0,0))],[(U,.cells #[sV aa K.1 ab,sV ac K.2.1 ae] 24 (0,0))],ag,ah] [(0,pV O 0),(4,pV V 0),(5,pV U 0),(6,iV am.1),(7,iV K.2.2.2.2.2),(8,sV av aj.1 aw),(9,sV aD ai.2.2.2.1 aE),(10,iV ai.2.2.2.2),(50,.bool eR)] L s) ?_ ?_
      ·rintro _ _ ⟨bx,rfl,rfl,aF,cr⟩;refine JL.done ?_;refine JLfj_ eT (fun eU hD311=>?_) (fun eU eV=>?_)
       ·obtain⟨eW,eX,eY⟩:=bs hD311;refine zg 7 rfl ?_;refine A9 eX rfl rfl rfl ?_;refine Ae (v:=iV (max (0) (eW))) rfl (fun ρ h=>Yl.max2 (h _ _ rfl) (h _ _ rfl)) ?_;obtain⟨gG,eZ,e0⟩:=bs eY;refine JSclL_ 0 (f41_w (cp.moq aF) eZ) rfl rfl q_body_offunc41rfl cr rfl ?_;rintro _ gH _ bz ⟨gI,gJ,rfl,rfl,e1⟩ e2;obtain⟨x322,hx322,hD323⟩:=bs e0;refine zg 6 rfl ?_;refine JSclL_ 0 (Ii e1 hx322) rfl rfl HJ e2 rfl ?_;rintro _ E324 _ hle325 ⟨e3,e4,rfl,rfl,ct⟩ hN326;obtain⟨ak,e5,e6⟩:=bs hD323;refine JL.done ?_;refine JLjoin_ (fun L s=>∃(aU:LH) (aM:OAd) (aN:Nat),Jn E324 H aU [[(O,.cells #[sV aM ak.2.1 aN,iV ak.2.2.1,.int .u64 ((ak.2.2.2:Nat):Int)] 92 (0,0))],[(V,.cells #[.slice none 0 0,.slice none 0 0] 24 (0,0))],[(U,.cells #[sV aa K.1 ab,sV ac K.2.1 ae] 24 (0,0))],ag,ah] [(0,pV O 0),(4,pV V 0),(5,pV U 0),(6,iV am.1),(7,iV K.2.2.2.2.2),(8,sV av aj.1 aw),(9,sV aD ai.2.2.2.1 aE),(10,iV ai.2.2.2.2),(11,iV ak.1)] L s (LsR rI aU aM aN (ak.2.1))) ?_ ?_
        ·rintro _ _ ⟨aU,aM,aN,rfl,rfl,bA,cu,e7⟩;obtain⟨x339,hJ340,hD341⟩:=bs e6;refine zg 6 rfl ?_;refine JLjoin_ (fun L s=>∃(E342:LH) (a5:OAd) (a6:Nat),Jn aU H E342 [[(O,.cells #[sV aM ak.2.1 aN,iV ak.2.2.1,.int .u64 ((ak.2.2.2:Nat):Int)] 92 (0,0))],[(V,.cells #[.slice none 0 0,.slice none 0 0] 24 (0,0))],[(U,.cells #[sV aa K.1 ab,sV ac K.2.1 ae] 24 (0,0))],ag,ah] [(0,pV O 0),(4,pV V 0),(5,pV U 0),(6,iV am.1),(7,iV K.2.2.2.2.2),(8,sV av aj.1 aw),(9,sV a5 x339 a6),(10,iV ai.2.2.2.2)] L s (LsR rI E342 a5 a6 (x339))) ?_ ?_
         ·rintro _ _ ⟨E342,a5,a6,rfl,rfl,hle343,hN344,e8⟩;obtain⟨e9,fa,hD349⟩:=bs hD341;refine zg 3 rfl ?_;refine A9 fa rfl rfl rfl ?_;refine zg 2 rfl ?_;obtain rfl:=oi hD349;exact JLkw_ (eQ _ _ (ak.2.1,ak.2.2.1,ak.2.2.2,x339,e9) ⟨E342,aM,aN,a5,a6,rfl,rfl,(((((cn.trq aF).trq bz).trq hle325).trq bA).trq hle343),hN344,(e7.moq hle343),e8⟩ bw) rfl
         ·intro cv;refine JLfi_ hJ340 (fun fb fc=>?_) (fun fb fd=>?_)
          ·obtain⟨gK,fe,ff⟩:=bs fc;refine zg 3 rfl ?_;refine JScl_ (PH (bv.moq (((aF.trq bz).trq hle325).trq bA)) fe) rfl rfl (body_of func98 rfl) cu ?_;rintro _ fg _ fh ⟨fj,fk,rfl,rfl,fm⟩ fo;refine Bm (S':= [[(O,.cells #[sV aM ak.2.1 aN,iV ak.2.2.1,.int .u64 ((ak.2.2.2:Nat):Int)] 92 (0,0))],[(V,.cells #[.slice none 0 0,.slice none 0 0] 24 (0,0))],[(U,.cells #[sV aa K.1 ab,sV ac K.2.1 ae] 24 (0,0))],ag,ah,[]]) rfl fo fun fp=>?_;refine zg 2 rfl ?_;obtain rfl:=oi ff;exact JLkw_ (cv _ _ ⟨fg,fj,fk,rfl,rfl,fh,fp,fm⟩) rfl
          ·refine JL.skip ?_;obtain rfl:=oi fd;exact JLkw_ (cv _ _ ⟨aU,aD,aE,rfl,rfl,lR_,cu,(bv.moq (((aF.trq bz).trq hle325).trq bA))⟩) rfl
        ·intro cw;refine JLfj_ e5 (fun fq hD370=>?_) (fun fq fs=>?_)
         ·obtain⟨gL,fu,fv⟩:=bs hD370;refine zg 3 rfl ?_;refine A9 fu rfl rfl rfl ?_;obtain⟨bB,fw,fx⟩:=bs fv;refine JSclL_ 0 (f41_w ct fw) rfl rfl q_body_offunc41rfl hN326 rfl ?_;rintro _ fy _ fz ⟨cy,cz,rfl,rfl,fA⟩ fB;refine Bm (S':= [[(O,.cells #[sV cy bB.2.1 cz,iV bB.2.2.1,.int .u64 ((bB.2.2.2:Nat):Int)] 92 (0,0))],[(V,.cells #[.slice none 0 0,.slice none 0 0] 24 (0,0))],[(U,.cells #[sV aa K.1 ab,sV ac K.2.1 ae] 24 (0,0))],ag,ah]) rfl fB fun fC=>?_;refine zg 2 rfl ?_;obtain rfl:=oi fx;exact JLkw_ (cw _ _ ⟨fy,cy,cz,rfl,rfl,fz,fC,fA⟩) rfl
         ·refine JL.skip ?_;obtain rfl:=oi fs;exact JLkw_ (cw _ _ ⟨E324,e3,e4,rfl,rfl,lR_,hN326,ct⟩) rfl
       ·refine JL.exit rfl ?_;obtain rfl:=oi eV;obtain rfl:=eP _ bw;exact JLkw_ (eO _ _ ⟨bx,aD,aE,aS,aT,rfl,rfl,(cn.trq aF),cr,(bv.moq aF),(cp.moq aF)⟩) rfl
      ·intro cA;refine C3 47 eS (fun fD fE=>?_) (fun fD hD393=>?_)
       ·refine zg 3 rfl ?_;obtain rfl:=oi fE;exact JLkw_ (cA _ _ ⟨aC,rfl,rfl,lR_,co⟩) rfl
       ·refine zg 3 rfl ?_;obtain rfl:=oi hD393;exact JLkw_ (cA _ _ ⟨aC,rfl,rfl,lR_,co⟩) rfl
    ·intro cB;refine JLfj_ du (fun fF fG=>?_) (fun fF hD420=>?_)
     ·obtain⟨gM,fH,fI⟩:=bs fG;refine zg 3 rfl ?_;refine A9 fH rfl rfl rfl ?_;obtain⟨aV,fJ,fK⟩:=bs fI;refine JSclL_ 0 (f41_w bW fJ) rfl rfl q_body_offunc41rfl bX rfl ?_;rintro _ gN _ fL ⟨cC,cD,rfl,rfl,fM⟩ fN;refine JSlit_ (pp:=rI) [iV aV.1] [aV.1] rfl rfl rfl underlying28 q_szOf_oftype3 q_zeroOf_oftype3 (by decide) rfl rfl rfl ⟨rfl,trivial⟩ fN fun fO gO fP fQ=>?_;refine zg 2 rfl ?_;refine JSfreezeL_ 5 fP fQ rfl fun fR cE fS fT=>?_;refine Bm (S':= [[(O,.cells #[sV cC aV.2.1 cD,iV aV.2.2.1,.int .u64 ((aV.2.2.2:Nat):Int)] 92 (0,0))],[(V,.cells #[.slice none 0 0,.slice none 0 0] 24 (0,0))],[(U,.cells #[sV aa K.1 ab,sV ac K.2.1 ae] 24 (0,0))],ag,ah,[]]) rfl fT fun fU=>?_;obtain rfl:=oi fK;exact JLkw_ (cB _ _ ⟨fR,(some ⟨fO,0,none⟩),1,cC,cD,rfl,rfl,(fL.trq cE),fU,fS,(fM.moq cE)⟩) rfl
     ·refine JL.skip ?_;obtain rfl:=oi hD420;exact JLkw_ (cB _ _ ⟨bT,a2,a3,bU,bV,rfl,rfl,lR_,bX,(dp.moq au),bW⟩) rfl
   ·intro hj422;refine JLfj_ dl (fun c424 hD425=>?_) (fun c424 fV=>?_)
    ·obtain⟨gP,fW,hD427⟩:=bs hD425;refine zg 5 rfl ?_;refine A9 fW rfl rfl rfl ?_;obtain⟨x428,hx428,hD429⟩:=bs hD427;refine JSclL_ 0 (LZ bR hx428) rfl rfl KS bS rfl ?_;rintro _ gQ _ cF ⟨a433,c434,rfl,rfl,h435⟩ fX;refine Bm (S':= [[(O,.cells #[sV a433 x428.2.1 c434,iV x428.2.2.1,.int .u64 ((x428.2.2.2:Nat):Int)] 92 (0,0))],[(V,.cells #[.slice none 0 0,.slice none 0 0] 24 (0,0))],[(U,.cells #[sV aa K.1 ab,sV ac K.2.1 ae] 24 (0,0))],ag,ah,dg]) rfl fX fun fY=>?_;refine JSfreezeL_ 5 (bO.moq (ap.trq cF)) fY rfl fun gR cG fZ ga=>?_;obtain⟨gS,gb,gc⟩:=bs hD429;refine JScl_ (PH fZ gb) rfl rfl (body_of func98 rfl) ga ?_;rintro _ gd _ cH ⟨ge,gf,rfl,rfl,gg⟩ gh;refine zg 2 rfl ?_;obtain rfl:=oi gc;exact JLkw_ (hj422 _ _ ⟨gd,ge,gf,a433,c434,rfl,rfl,((cF.trq cG).trq cH),gh,gg,(h435.moq (cG.trq cH))⟩) rfl
    ·refine JL.skip ?_;refine JSfreezeL_ 5 (bO.moq ap) bS rfl fun gi cI gj gk=>?_;refine Bm (S':= [[(O,.cells #[sV bP bg.2.1 bQ,iV bg.2.2.1,.int .u64 ((bg.2.2.2:Nat):Int)] 92 (0,0))],[(V,.cells #[.slice none 0 0,.slice none 0 0] 24 (0,0))],[(U,.cells #[sV aa K.1 ab,sV ac K.2.1 ae] 24 (0,0))],ag,ah,[]]) rfl gk fun gl=>?_;obtain rfl:=oi fV;exact JLkw_ (hj422 _ _ ⟨gi,(some ⟨df,0,none⟩),1,bP,bQ,rfl,rfl,cI,gl,gj,(bR.moq cI)⟩) rfl
  ·refine JL.exit rfl ?_;obtain rfl:=oi da;obtain rfl:=c6 _ aQ;exact JLkw_ (c4 _ _ ⟨aG,aW,aX,aa,ab,ag,ac,ae,ah,rfl,rfl,aY,bL,bM,h77,aZ⟩) rfl
def J4(fuel:Nat)(p1:JW2)(U:Int×(A3))(K:(List Int)×Int×Nat×Int×Int):Option (AH ((List Int)×Int×Nat×Int×Int) (Int×A3)):= if K.2.2.2.2<U.1 then((ix p1.1 (K.2.2.2.1)).bind fun V=> (f99 fuel (K.1,K.2.1,K.2.2.1) V).bind fun O=> (Ac (K.2.2.2.2+1)).bind fun x159=> some (.more (O.2.1,O.2.2.1,O.2.2.2,O.1,x159))) else(some (.done (K.2.2.2.1,K.1,K.2.1,K.2.2.1)))
def JI(fuel:Nat)(p1:JW2)(p2:Int)(K:(List Int)×Int×Nat×Int×(List Int)×Int):Option (AH ((List Int)×Int×Nat×Int×(List Int)×Int) ((List Int)×A3)):= if K.2.2.2.2.2<p2 then((room K.2.2.2.2.1 K.2.2.2.1).bind fun U=> (ix p1.1 (K.2.2.2.1)).bind fun V=> (f99 fuel (K.1,K.2.1,K.2.2.1) V).bind fun O=> (Ac (K.2.2.2.2.2+1)).bind fun Y=> some (.more (O.2.1,O.2.2.1,O.2.2.2,O.1,U,Y))) else(some (.done (K.2.2.2.2.1,K.1,K.2.1,K.2.2.1)))
def f45(fuel:Nat)(p0:A3)(p1:JW2)(p2:Int):Option (Int×(List Int)×(A3)):= (f41 fuel p0 6).bind fun K=> Option.bind (iter (J4 fuel p1 K) fuel (K.2.1,K.2.2.1,K.2.2.2,0,0)) fun O=> Option.bind (iter (JI fuel p1 p2) fuel (O.2.1,O.2.2.1,O.2.2.2,O.1,[],0)) fun x56=> some (K.1,x56.1,x56.2)
theorem V1{K:Nat}{a1:OAd}{c2:Nat}{a4:OAd}{c5:Nat}{a7:OAd}{c8:Nat}{p0:A3}{p1:JW2}{p2:Int}(h3:LsR rI E a1 c2 (p0.1))(h6:LsR (rL rI) E a4 c5 (p1.1))(h9:LsR (rL rI) E a7 c8 (p1.2)){fuel:Nat}{r:Int×(List Int)×(A3)}(hD:f45 fuel p0 p1 p2=some r):Al J 45 [pV K 0,.agg #[sV a4 p1.1 c5,sV a7 p1.2 c8],iV p2] E [(K,.cells #[sV a1 p0.1 c2,iV p0.2.1,.int .u64 ((p0.2.2:Nat):Int)] 92 (0,0))] (fun w E' B'=>∃(aH:OAd) (aI:Nat) (aJ:OAd) (aK:Nat),w= .tuple #[iV r.1,sV aH r.2.1 aI]∧B'= [(K,.cells #[sV aJ r.2.2.1 aK,iV r.2.2.2.1,.int .u64 ((r.2.2.2.2:Nat):Int)] 92 (0,0))]∧LsR rI E' aH aI (r.2.1)∧LsR rI E' aJ aK (r.2.2.1)):=by
 refine Av func45 rfl rfl fun Q b4 cs H hN aU=>?_;unfold f45 at hD;refine zg 2 rfl ?_;refine JS.box (v:= .agg #[sV a4 p1.1 c5,sV a7 p1.2 c8]) rfl rfl rfl hN rfl fun aB aV=>?_;refine JSfreezeB_ 1 aV rfl fun b5 ae aL aW=>?_;obtain⟨ag,aX,aY⟩:=bs hD;refine zg 6 rfl ?_;refine JSclL_ 0 (f41_w (h3.moq ae) aX) rfl rfl q_body_offunc41rfl aW rfl ?_;rintro _ aC _ Y ⟨aZ,a0,rfl,rfl,h23⟩ a2;obtain⟨Z,a3,a5⟩:=bs aY;refine zg 8 rfl ?_;refine JLjoin_ (fun L s=>∃(V:LH) (ah:OAd) (ai:Nat),Jn aC H V [[(K,.cells #[sV ah Z.2.1 ai,iV Z.2.2.1,.int .u64 ((Z.2.2.2:Nat):Int)] 92 (0,0))]] [(0,pV K 0),(2,iV p2),(4,pV aB 0),(8,iV ag.1),(9,iV Z.1)] L s (LsR rI V ah ai (Z.2.1))) ?_ ?_
 ·rintro _ _ ⟨V,ah,ai,rfl,rfl,aD,a6,a8⟩;obtain⟨x56,a9,ba⟩:=bs a5;refine zg 9 rfl ?_;refine JLjoin_ (fun L s=>∃(aj:LH) (ak:OAd) (al:Nat) (aE:Seg) (am:OAd) (an:Nat),Jn V H aj [[(K,.cells #[sV am x56.2.1 an,iV x56.2.2.1,.int .u64 ((x56.2.2.2:Nat):Int)] 92 (0,0))],aE] [(8,iV ag.1),(11,sV ak x56.1 al)] L s (OL 3 rI aj ak al aE (x56.1)∧LsR rI aj am an (x56.2.1))) ?_ ?_
  ·rintro _ _ ⟨aj,ak,al,aE,am,an,rfl,rfl,bb,bc,bd,bf⟩;refine zg 7 rfl ?_;refine JSfreezeL_ 1 bd bc rfl fun b6 aM bg bh=>?_;obtain rfl:=oi ba;refine Af func45 rfl rfl ?_;exact aU _ _ _ _ ((((ae.trq Y).trq aD).trq bb).trq aM) rfl ⟨ak,al,am,an,rfl,rfl,bg,(bf.moq aM)⟩ bh
  ·intro bi;refine JL.block ?_;refine JLlw_ a9 (fun L s O=>∃(aa:LH) (ao:OAd) (ap:Nat) (ab:OAd) (ac:Nat) (aq:Seg),Jn V H aa [[(K,.cells #[sV ao O.1 ap,iV O.2.1,.int .u64 ((O.2.2.1:Nat):Int)] 92 (0,0))],aq] [(0,pV K 0),(2,iV p2),(4,pV aB 0),(8,iV ag.1),(9,iV O.2.2.2.1),(11,sV ab O.2.2.2.2.1 ac),(12,iV O.2.2.2.2.2)] L s (LsR rI aa ao ap (O.1)∧OL 3 rI aa ab ac aq (O.2.2.2.2.1))) ⟨V,ah,ai,none,0,[],rfl,rfl,lR_,a6,a8,OL.nil⟩ ?_;rintro _ _ O ⟨aa,ao,ap,ab,ac,aq,rfl,rfl,ar,aN,aO,aP⟩ bj ⟨b7,aF⟩ bk;have aQ:=aF;unfold JI at aQ;refine zg 7 rfl ?_;refine JLfi_ aQ (fun bl bm=>?_) (fun bl bn=>?_)
   ·obtain⟨bo,bp,bq⟩:=bs bm;refine zg 7 rfl ?_;refine JS.app (pp:=rI) (v:=iV O.2.2.2.1) (a:=ab) (c:=ac) 1 bp rfl rfl rfl rfl (fun _=>rfl) rfl (fun _=>rfl) rfl rfl rfl underlying28 underlying28 underlying28 q_szOf_oftype3 (Bz type3) q_zeroOf_oftype3 rfl (by decide) (by decide) (by decide) (by decide) aP rfl aN rfl fun b8 br bu bv bw bx=>?_;refine zg 4 rfl ?_;refine Ar underlying24 A6 rfl rfl rfl ?_;refine Aw 0 (aL.moq ((Y.trq aD).trq ar)) Br rfl rfl rfl ?_;obtain⟨b9,bz,bA⟩:=bs bq;refine zg 1 rfl ?_;refine Bp (h6.moq (((ae.trq Y).trq aD).trq ar)) bz rfl rfl rfl rfl rfl underlying22 Bg ?_;rintro ca cb _ ⟨cc,cd,rfl,bB⟩ bC;refine Aw 0 bC BL rfl rfl rfl ?_;obtain⟨au,bD,bE⟩:=bs bA;refine JSclL_ 0 (Kg aO bB bD) rfl rfl IJ bx rfl ?_;rintro _ bF _ aR ⟨bG,bH,rfl,rfl,bI⟩ bJ;obtain⟨bK,bL,bM⟩:=bs bE;refine zg 5 rfl ?_;refine JLaC_ bL rfl rfl rfl ?_;refine zg 2 rfl ?_;obtain rfl:=oi bM;exact JLkw_ (bk _ _ (au.2.1,au.2.2.1,au.2.2.2,au.1,bo,bK) ⟨bF,bG,bH,br,bu,bv,rfl,rfl,(ar.trq aR),bJ,bI,(bw.moq aR)⟩ aF) rfl
   ·refine JL.exit rfl ?_;obtain rfl:=oi bn;obtain rfl:=bj _ aF;exact JLkw_ (bi _ _ ⟨aa,ab,ac,aq,ao,ap,rfl,rfl,ar,aN,aP,aO⟩) rfl
 ·intro bN;refine JL.block ?_;refine JLlw_ a3 (fun L s U=>∃(av:LH) (aw:OAd) (ay:Nat),Jn aC H av [[(K,.cells #[sV aw U.1 ay,iV U.2.1,.int .u64 ((U.2.2.1:Nat):Int)] 92 (0,0))]] [(0,pV K 0),(2,iV p2),(4,pV aB 0),(8,iV ag.1),(9,iV U.2.2.2.1),(10,iV U.2.2.2.2)] L s (LsR rI av aw ay (U.1))) ⟨aC,aZ,a0,rfl,rfl,lR_,a2,h23⟩ ?_;rintro _ _ U ⟨av,aw,ay,rfl,rfl,az,aS,aT⟩ bO ⟨ce,aG⟩ bP;have hD139:=aG;unfold J4 at hD139;refine zg 7 rfl ?_;refine JLfi_ hD139 (fun bQ hD141=>?_) (fun bQ bR=>?_)
  ·refine zg 5 rfl ?_;refine Ar underlying24 A6 rfl rfl rfl ?_;refine Aw 0 (aL.moq (Y.trq az)) Br rfl rfl rfl ?_;obtain⟨cf,bS,bT⟩:=bs hD141;refine zg 1 rfl ?_;refine Bp (h6.moq ((ae.trq Y).trq az)) bS rfl rfl rfl rfl rfl underlying22 Bg ?_;rintro cg ci _ ⟨ck,cm,rfl,bU⟩ bV;refine Aw 0 bV BL rfl rfl rfl ?_;obtain⟨aA,bW,bX⟩:=bs bT;refine JSclL_ 0 (Kg aT bU bW) rfl rfl IJ aS rfl ?_;rintro _ bY _ bZ ⟨b0,b1,rfl,rfl,b2⟩ b3;obtain⟨x159,hx159,hD160⟩:=bs bX;refine zg 5 rfl ?_;refine JLaC_ hx159 rfl rfl rfl ?_;refine zg 2 rfl ?_;obtain rfl:=oi hD160;exact JLkw_ (bP _ _ (aA.2.1,aA.2.2.1,aA.2.2.2,aA.1,x159) ⟨bY,b0,b1,rfl,rfl,(az.trq bZ),b3,b2⟩ aG) rfl
  ·refine JL.exit rfl ?_;obtain rfl:=oi bR;obtain rfl:=bO _ aG;exact JLkw_ (bN _ _ ⟨av,aw,ay,rfl,rfl,az,aS,aT⟩) rfl
def LR(fuel:Nat)(p1:JW2)(p2:List Int)(p4:Bool)(K:(List Int)×Int×Nat×(LKL)×Int×Int):Option (AH ((List Int)×Int×Nat×(LKL)×Int×Int) ((LKL)×A3)):= if 0<K.2.2.2.2.2 then((Ac (((p2).length:Int) - 1)).bind fun aa=> (Ac (K.2.2.2.2.1+2)).bind fun ab=> (f96 fuel (K.1,K.2.1,K.2.2.1) K.2.2.2.2.1 (min (aa) (ab))).bind fun O=> (ix p2 (O.1)).bind fun x90=> (ix p2 (O.1)).bind fun ac=> (ix p1.2 (ac)).bind fun Z=> Option.bind (if p4=true then(some (decide (0<((Z).length:Int)))) else(some false)) fun ae=> Option.bind (if ae=true then((f97 fuel O.2 2).bind fun x170=> some x170) else(some (false,O.2.1,O.2.2.1,O.2.2.2))) fun U=> Option.bind (if U.1=true then((f99 fuel U.2 Z).bind fun V=> some (V.2.1,V.2.2.1,V.2.2.2,V.1)) else(some (U.2.1,U.2.2.1,U.2.2.2,x90))) fun Y=> (room K.2.2.2.1 (O.1,Y.2.2.2)).bind fun ag=> (Ac (K.2.2.2.2.2 - 1)).bind fun ah=> some (.more (Y.1,Y.2.1,Y.2.2.1,ag,O.1,ah))) else(some (.done (K.2.2.2.1,K.1,K.2.1,K.2.2.1)))
def f46(fuel:Nat)(p0:A3)(p1:JW2)(p2:List Int)(p3:Int)(p4:Bool):Option ((LKL)×(A3)):= (f41 fuel p0 p3).bind fun K=> Option.bind (iter (LR fuel p1 p2 p4) fuel (K.2.1,K.2.2.1,K.2.2.2,[],0,K.1)) fun O=> some O
theorem VM{U:Nat}{a1:OAd}{c2:Nat}{a4:OAd}{c5:Nat}{a7:OAd}{c8:Nat}{a10:OAd}{c11:Nat}{p0:A3}{p1:JW2}{p2:List Int}{p3:Int}{p4:Bool}(h3:LsR rI E a1 c2 (p0.1))(h6:LsR (rL rI) E a4 c5 (p1.1))(h9:LsR (rL rI) E a7 c8 (p1.2))(h12:LsR rI E a10 c11 (p2)){fuel:Nat}{r:(LKL)×(A3)}(hD:f46 fuel p0 p1 p2 p3 p4=some r):Al J 46 [pV U 0,.agg #[sV a4 p1.1 c5,sV a7 p1.2 c8],sV a10 p2 c11,iV p3,.bool p4] E [(U,.cells #[sV a1 p0.1 c2,iV p0.2.1,.int .u64 ((p0.2.2:Nat):Int)] 92 (0,0))] (fun w E' B'=>∃(aB:OAd) (aC:Nat) (g0:Seg) (aD:OAd) (aE:Nat),w= sV aB r.1 aC∧B'= [(U,.cells #[sV aD r.2.1 aE,iV r.2.2.1,.int .u64 ((r.2.2.2:Nat):Int)] 92 (0,0))]++g0∧OL 27 rLK E' aB aC g0 (r.1)∧LsR rI E' aD aE (r.2.1)):=by
 refine Av func46 rfl rfl fun Q cn cs H hN aV=>?_;unfold f46 at hD;refine zg 2 rfl ?_;refine JS.box (v:= .agg #[sV a4 p1.1 c5,sV a7 p1.2 c8]) rfl rfl rfl hN rfl fun r14 hN13=>?_;refine JSfreezeB_ 1 hN13 rfl fun E15 hle16 h17 hN18=>?_;obtain⟨co,aW,aX⟩:=bs hD;refine zg 15 rfl ?_;refine JSclL_ 0 (f41_w (h3.moq hle16) aW) rfl rfl q_body_offunc41rfl hN18 rfl ?_;rintro _ E21 _ hle22 ⟨aY,aZ,rfl,rfl,a0⟩ a2;obtain⟨ab,a3,a5⟩:=bs aX;refine zg 2 rfl ?_;refine JLjoin_ (fun L s=>∃(ak:LH) (al:OAd) (am:Nat) (an:Seg) (a52:OAd) (c53:Nat),Jn E21 H ak [[(U,.cells #[sV a52 ab.2.1 c53,iV ab.2.2.1,.int .u64 ((ab.2.2.2:Nat):Int)] 92 (0,0))],an] [(11,sV al ab.1 am)] L s (OL 27 rLK ak al am an (ab.1)∧LsR rI ak a52 c53 (ab.2.1))) ?_ ?_
 ·rintro _ _ ⟨ak,al,am,an,a52,c53,rfl,rfl,a6,a8,a9,h54⟩;refine zg 5 rfl ?_;obtain rfl:=oi a5;refine Af func46 rfl rfl ?_;exact aV _ _ _ _ ((hle16.trq hle22).trq a6) rfl ⟨al,am,an,a52,c53,rfl,(by first | rfl | simp | (simp [Value.cells])),a9,h54⟩ a8
 ·intro ba;refine JL.block ?_;refine JLlw_ a3 (fun L s K=>∃(ah:LH) (ao:OAd) (ap:Nat) (Y:OAd) (Z:Nat) (aa:Seg),Jn E21 H ah [[(U,.cells #[sV ao K.1 ap,iV K.2.1,.int .u64 ((K.2.2.1:Nat):Int)] 92 (0,0))],aa] [(0,pV U 0),(2,sV a10 p2 c11),(4,.bool p4),(6,pV r14 0),(11,sV Y K.2.2.2.1 Z),(12,iV K.2.2.2.2.1),(13,iV K.2.2.2.2.2)] L s (LsR rI ah ao ap (K.1)∧OL 27 rLK ah Y Z aa (K.2.2.2.1))) ⟨E21,aY,aZ,none,0,[],rfl,rfl,lR_,a2,a0,OL.nil⟩ ?_;rintro _ _ K ⟨ah,ao,ap,Y,Z,aa,rfl,rfl,ac,aF,aG,aH⟩ bb ⟨cp,az⟩ bc;have aI:=az;unfold LR at aI;refine zg 6 rfl ?_;refine JLfi_ aI (fun bd bf=>?_) (fun bd bg=>?_)
  ·refine zg 8 rfl ?_;refine JLln_ underlying28 rfl rfl rfl ?_;obtain⟨bh,bi,bj⟩:=bs bf;refine A9 bi rfl rfl rfl ?_;obtain⟨bk,bl,bm⟩:=bs bj;refine zg 1 rfl ?_;refine JLaC_ bl rfl rfl rfl ?_;refine Ae (v:=iV (min (bh) (bk))) rfl (fun ρ h=>Yl.min2 (h _ _ rfl) (h _ _ rfl)) ?_;obtain⟨O,bn,bo⟩:=bs bm;refine JSclL_ 0 (LZ aG bn) rfl rfl KS aF rfl ?_;rintro _ aA _ ae ⟨a86,c87,rfl,rfl,h88⟩ bp;obtain⟨x90,hx90,hD91⟩:=bs bo;refine zg 7 rfl ?_;refine Bp (h12.moq (((hle16.trq hle22).trq ac).trq ae)) hx90 rfl rfl rfl rfl rfl underlying28 q_szOf_oftype3 ?_;rintro cq cr _ rfl bq;refine Aw 0 bq q_aggT_ofunderlying3 rfl rfl rfl ?_;refine Ae (v:= .agg #[iV O.1,iV x90]) rfl (fun ρ h=>BJ [(0,1),(1,1)] h CK underlying27 ⟨rfl,AL type3,rfl,AL type3,trivial⟩ rfl rfl) ?_;refine JS.alloc rfl rfl rfl bp CK fun ag br=>?_;refine JSst_ (v:= .agg #[iV O.1,iV x90]) (off:=0) 2 br q_szOf_oftype27 rfl rfl rfl rfl fun aJ=>?_;refine zg 3 rfl ?_;refine JGd0_ 6 fun ht=>?_;refine Bf 0 ht underlying24 A6 rfl rfl rfl rfl ?_;refine JGld_ 1 ht 1 (h17.moq ((hle22.trq ac).trq ae)) Br rfl rfl rfl rfl ?_;refine JGms_ ht rfl [2,3] rfl ?_;obtain⟨ct,bu,bv⟩:=bs hD91;refine JGjd_ 4 (h12.moq (((hle16.trq hle22).trq ac).trq ae)) bu ht underlying28 q_szOf_oftype3 ?_;rintro cu cv _ rfl bw;refine JGld_ 5 ht 0 bw q_aggT_ofunderlying3 rfl rfl rfl rfl ?_;refine JALlf_ [6,7,8] ?_;obtain⟨aK,bx,bz⟩:=bs bv;refine Bp (h9.moq (((hle16.trq hle22).trq ac).trq ae)) bx rfl rfl rfl rfl rfl underlying22 Bg ?_;rintro cw cy _ ⟨aL,aM,rfl,bA⟩ bB;refine Aw 0 bB BL rfl rfl rfl ?_;obtain⟨bC,bD,bE⟩:=bs bz;refine zg 6 rfl ?_;refine JLjoinR_ [6,7,8,9] (fun L s=>∃(aq:LH),Jm aA H aq [[(U,.cells #[sV a86 O.2.1 c87,iV O.2.2.1,.int .u64 ((O.2.2.2:Nat):Int)] 92 (0,0))],aa,[(ag,.cells #[iV O.1,iV x90] 27 (0,0))]] [(0,pV U 0),(2,sV a10 p2 c11),(4,.bool p4),(6,pV r14 0),(11,sV Y K.2.2.2.1 Z),(12,iV O.1),(13,iV K.2.2.2.2.2),(14,pV ag 0),(15,sV aL aK aM),(51,.bool bC)] L s) ?_ ?_
   ·rintro _ _ ⟨aq,rfl,rfl,ai,aN⟩;obtain⟨aj,bF,bG⟩:=bs bE;refine zg 1 rfl ?_;refine JLjoinR_ [] (fun L s=>∃(E121:LH) (ar:OAd) (au:Nat),Jn aq H E121 [[(U,.cells #[sV ar aj.2.1 au,iV aj.2.2.1,.int .u64 ((aj.2.2.2:Nat):Int)] 92 (0,0))],aa,[(ag,.cells #[iV O.1,iV x90] 27 (0,0))]] [(0,pV U 0),(2,sV a10 p2 c11),(4,.bool p4),(6,pV r14 0),(11,sV Y K.2.2.2.1 Z),(12,iV O.1),(13,iV K.2.2.2.2.2),(14,pV ag 0),(15,sV aL aK aM),(55,.bool aj.1)] L s (LsR rI E121 ar au (aj.2.1))) ?_ ?_
    ·rintro _ _ ⟨E121,ar,au,rfl,rfl,hle122,aO,aP⟩;obtain⟨V,bH,bI⟩:=bs bG;refine JL.done ?_;refine JLjoin_ (fun L s=>∃(av:LH) (aw:OAd) (ay:Nat),Jn E121 H av [[(U,.cells #[sV aw V.1 ay,iV V.2.1,.int .u64 ((V.2.2.1:Nat):Int)] 92 (0,0))],aa,[(ag,.cells #[iV O.1,iV V.2.2.2] 27 (0,0))]] [(0,pV U 0),(2,sV a10 p2 c11),(4,.bool p4),(6,pV r14 0),(11,sV Y K.2.2.2.1 Z),(12,iV O.1),(13,iV K.2.2.2.2.2),(14,pV ag 0)] L s (LsR rI av aw ay (V.1))) ?_ ?_
     ·rintro _ _ ⟨av,aw,ay,rfl,rfl,aQ,aR,bJ⟩;refine zg 2 rfl ?_;refine Ae rfl (fun ρ h=>A2 (vs:= [iV O.1,iV V.2.2.2]) q_aggT_ofunderlying27 q_szOf_oftype27 (h _ _ rfl) (DT (off:=0) 2 aR rfl rfl)) ?_;obtain⟨bK,bL,bM⟩:=bs bI;refine JS.app (pp:=rLK) (v:= .agg #[iV O.1,iV V.2.2.2]) (a:=Y) (c:=Z) 1 bL rfl rfl rfl rfl (fun _=>rfl) rfl (fun _=>rfl) rfl rfl rfl underlying25 underlying25 underlying25 q_szOf_oftype27 (Bz type27) CK rfl (by decide) (by decide) (by decide) (by decide) (aH.moq (((ae.trq ai).trq hle122).trq aQ)) ⟨_,_,rfl,rfl,rfl⟩ aR rfl fun cz bN bO bP bQ bR=>?_;obtain⟨bS,bT,bU⟩:=bs bM;refine zg 5 rfl ?_;refine A9 bT rfl rfl rfl ?_;refine zg 2 rfl ?_;refine JS.drop 2 bR rfl fun bV=>?_;obtain rfl:=oi bU;exact JLkw_ (bc _ _ (V.1,V.2.1,V.2.2.1,bK,O.1,bS) ⟨av,aw,ay,bN,bO,bP,rfl,rfl,((((ac.trq ae).trq ai).trq hle122).trq aQ),bV,bJ,bQ⟩ az) rfl
     ·intro aS;refine JLfj_ bH (fun bW bX=>?_) (fun bW bY=>?_)
      ·obtain⟨bZ,b0,b1⟩:=bs bX;refine zg 3 rfl ?_;refine JSclL_ 0 (Kg aP (bA.moq (ai.trq hle122)) b0) rfl rfl IJ aO rfl ?_;rintro _ b2 _ b3 ⟨b4,b5,rfl,rfl,b6⟩ b7;refine Ar underlying27 q_szOf_oftype3 rfl rfl rfl ?_;refine JSst_ (v:=iV bZ.1) (off:=1) 2 b7 q_szOf_oftype3 rfl rfl rfl rfl fun b8=>?_;refine JL.done ?_;obtain rfl:=oi b1;exact JLkw_ (aS _ _ ⟨b2,b4,b5,rfl,rfl,b3,b8,b6⟩) rfl
      ·refine JL.skip ?_;obtain rfl:=oi bY;exact JLkw_ (aS _ _ ⟨E121,ar,au,rfl,rfl,lR_,aO,aP⟩) rfl
    ·intro aT;refine JLgj_ 52 bF (fun b9 ca=>?_) (fun b9 cb=>?_)
     ·obtain⟨x170,hx170,hD171⟩:=bs ca;refine zg 1 rfl ?_;refine JSclL_ 0 (Ii (h88.moq ai) hx170) rfl rfl HJ aN rfl ?_;rintro _ cc _ cd ⟨ce,cf,rfl,rfl,h177⟩ cg;refine zg 1 rfl ?_;obtain rfl:=oi hD171;exact JLkw_ (aT _ _ ⟨cc,ce,cf,rfl,rfl,cd,cg,h177⟩) rfl
     ·refine zg 3 rfl ?_;obtain rfl:=oi cb;exact JLkw_ (aT _ _ ⟨aq,a86,c87,rfl,rfl,lR_,aN,(h88.moq ai)⟩) rfl
   ·intro aU;refine JLgj_ 47 bD (fun ci ck=>?_) (fun ci cm=>?_)
    ·refine zg 1 rfl ?_;refine JLln_ underlying28 rfl rfl rfl ?_;refine zg 2 rfl ?_;obtain rfl:=oi ck;exact JLkw_ (aU _ _ ⟨aA,rfl,rfl,lR_,aJ⟩) rfl
    ·refine zg 4 rfl ?_;obtain rfl:=oi cm;exact JLkw_ (aU _ _ ⟨aA,rfl,rfl,lR_,aJ⟩) rfl
  ·refine JL.exit rfl ?_;obtain rfl:=oi bg;obtain rfl:=bb _ az;exact JLkw_ (ba _ _ ⟨ah,Y,Z,aa,ao,ap,rfl,rfl,ac,aF,aH,aG⟩) rfl
def JM(fuel:Nat)(p1:JW2)(K:(List Int)×Int×Nat×(LKL)×Int):Option (AH ((List Int)×Int×Nat×(LKL)×Int) ((LKL)×A3)):= if K.2.2.2.2<((K.2.2.2.1).length:Int) then((f97 fuel (K.1,K.2.1,K.2.2.1) 6).bind fun O=> Option.bind (if O.1=true then((Ac (((p1.1).length:Int) - 1)).bind fun V=> (f41 fuel O.2 V).bind fun U=> (ix K.2.2.2.1 (K.2.2.2.2)).bind fun Y=> some ((K.2.2.2.1.set (Int.toNat K.2.2.2.2) (Y.1,U.1)),U.2.1,U.2.2.1,U.2.2.2)) else(some (K.2.2.2.1,O.2.1,O.2.2.1,O.2.2.2))) fun x103=> (Ac (K.2.2.2.2+1)).bind fun Z=> some (.more (x103.2.1,x103.2.2.1,x103.2.2.2,x103.1,Z))) else(some (.done (K.2.2.2.1,K.1,K.2.1,K.2.2.1)))
def f40(fuel:Nat)(p0:A3)(p1:JW2)(p2:Int):Option ((LKL)×(A3)):= (f45 fuel p0 p1 5).bind fun O=> (f46 fuel O.2.2 p1 O.2.1 p2 true).bind fun K=> Option.bind (iter (JM fuel p1) fuel (K.2.1,K.2.2.1,K.2.2.2,K.1,0)) fun x56=> some x56
theorem V0{O:Nat}{a1:OAd}{c2:Nat}{a4:OAd}{c5:Nat}{a7:OAd}{c8:Nat}{p0:A3}{p1:JW2}{p2:Int}(h3:LsR rI E a1 c2 (p0.1))(h6:LsR (rL rI) E a4 c5 (p1.1))(h9:LsR (rL rI) E a7 c8 (p1.2)){fuel:Nat}{r:(LKL)×(A3)}(hD:f40 fuel p0 p1 p2=some r):Al J 40 [pV O 0,.agg #[sV a4 p1.1 c5,sV a7 p1.2 c8],iV p2] E [(O,.cells #[sV a1 p0.1 c2,iV p0.2.1,.int .u64 ((p0.2.2:Nat):Int)] 92 (0,0))] (fun w E' B'=>∃(aE:OAd) (aF:Nat) (aG:OAd) (aH:Nat),w= sV aE r.1 aF∧B'= [(O,.cells #[sV aG r.2.1 aH,iV r.2.2.1,.int .u64 ((r.2.2.2:Nat):Int)] 92 (0,0))]∧LsR rLK E' aE aF (r.1)∧LsR rI E' aG aH (r.2.1)):=by
 refine Av func40 rfl rfl fun Q b3 cs H hN aU=>?_;unfold f40 at hD;refine zg 2 rfl ?_;refine JS.box (v:= .agg #[sV a4 p1.1 c5,sV a7 p1.2 c8]) rfl rfl rfl hN rfl fun ae aV=>?_;refine JSfreezeB_ 1 aV rfl fun b4 Y aw aW=>?_;refine zg 5 rfl ?_;refine JLldN_ aw q_aggT_ofunderlying24 q_szOf_oftype24 rfl rfl ?_;obtain⟨b5,aX,aY⟩:=bs hD;refine JSclL_ 0 (V1 (h3.moq Y) (h6.moq Y) (h9.moq Y) aX) rfl rfl (body_of func45 rfl) aW rfl ?_;rintro _ b6 _ Z ⟨b7,b8,b9,ca,rfl,rfl,h23,aZ⟩ a0;refine zg 9 rfl ?_;refine JLldN_ (aw.moq Z) q_aggT_ofunderlying24 q_szOf_oftype24 rfl rfl ?_;obtain⟨cb,a2,a3⟩:=bs aY;refine zg 2 rfl ?_;refine JSclL_ 0 (VM aZ (h6.moq (Y.trq Z)) (h9.moq (Y.trq Z)) h23 a2) rfl rfl (body_of func46 rfl) a0 rfl ?_;rintro _ ay _ aI ⟨a5,a6,a8,a9,c37,rfl,rfl,ba,bb⟩ bc;refine CZ 0 rfl bc fun bd=>?_;obtain⟨x56,bf,bg⟩:=bs a3;refine zg 7 rfl ?_;refine JLjoin_ (fun L s=>∃(ag:LH) (ah:OAd) (ai:Nat) (az:Seg) (aj:OAd) (ak:Nat),Jn ay H ag [[(O,.cells #[sV aj x56.2.1 ak,iV x56.2.2.1,.int .u64 ((x56.2.2.2:Nat):Int)] 92 (0,0))],az] [(9,sV ah x56.1 ai)] L s (OL 27 rLK ag ah ai az (x56.1)∧LsR rI ag aj ak (x56.2.1))) ?_ ?_
 ·rintro _ _ ⟨ag,ah,ai,az,aj,ak,rfl,rfl,bh,bi,bj,bk⟩;refine zg 5 rfl ?_;refine JSfreezeL_ 1 bj bi rfl fun cc aJ bl bm=>?_;obtain rfl:=oi bg;refine Af func40 rfl rfl ?_;exact aU _ _ _ _ ((((Y.trq Z).trq aI).trq bh).trq aJ) rfl ⟨ah,ai,aj,ak,rfl,rfl,bl,(bk.moq aJ)⟩ bm
 ·intro bn;refine JL.block ?_;refine JLlw_ bf (fun L s K=>∃(aa:LH) (al:OAd) (am:Nat) (a83:OAd) (c84:Nat) (ab:Seg),Jn ay H aa [[(O,.cells #[sV al K.1 am,iV K.2.1,.int .u64 ((K.2.2.1:Nat):Int)] 92 (0,0))],ab] [(0,pV O 0),(4,pV ae 0),(9,sV a83 K.2.2.2.1 c84),(10,iV K.2.2.2.2)] L s (LsR rI aa al am (K.1)∧OL 27 rLK aa a83 c84 ab (K.2.2.2.1))) ⟨ay,a9,c37,a5,a6,a8,rfl,rfl,lR_,bd,bb,ba⟩ ?_;rintro _ _ K ⟨aa,al,am,a83,c84,ab,rfl,rfl,aA,aK,aL,h85⟩ bo ⟨cd,aB⟩ bp;have aM:=aB;unfold JM at aM;refine zg 5 rfl ?_;refine JLln_ underlying25 rfl rfl rfl ?_;refine zg 2 rfl ?_;refine JLfi_ aM (fun bq br=>?_) (fun bq bu=>?_)
  ·obtain⟨bv,bw,bx⟩:=bs br;refine zg 6 rfl ?_;refine JSclL_ 0 (Ii aL bw) rfl rfl HJ aK rfl ?_;rintro _ aN _ an ⟨bz,bA,rfl,rfl,aO⟩ aP;obtain⟨x103,bB,bC⟩:=bs bx;refine JL.done ?_;refine JLjoin_ (fun L s=>∃(ac:LH) (ao:OAd) (ap:Nat) (aq:Seg) (ar:OAd) (au:Nat),Jn aN H ac [[(O,.cells #[sV ar x103.2.1 au,iV x103.2.2.1,.int .u64 ((x103.2.2.2:Nat):Int)] 92 (0,0))],aq] [(0,pV O 0),(4,pV ae 0),(9,sV ao x103.1 ap),(10,iV K.2.2.2.2)] L s (OL 27 rLK ac ao ap aq (x103.1)∧LsR rI ac ar au (x103.2.1))) ?_ ?_
   ·rintro _ _ ⟨ac,ao,ap,aq,ar,au,rfl,rfl,bD,bE,bF,bG⟩;obtain⟨bH,bI,bJ⟩:=bs bC;refine zg 3 rfl ?_;refine JLaC_ bI rfl rfl rfl ?_;refine zg 2 rfl ?_;obtain rfl:=oi bJ;exact JLkw_ (bp _ _ (x103.2.1,x103.2.2.1,x103.2.2.2,x103.1,bH) ⟨ac,ar,au,ao,ap,aq,rfl,rfl,((aA.trq an).trq bD),bE,bG,bF⟩ aB) rfl
   ·intro aQ;refine JLfj_ bB (fun bK bL=>?_) (fun bK bM=>?_)
    ·refine zg 4 rfl ?_;refine Ar underlying24 A6 rfl rfl rfl ?_;refine Aw 0 (aw.moq (((Z.trq aI).trq aA).trq an)) Br rfl rfl rfl ?_;refine JLln_ underlying22 rfl rfl rfl ?_;obtain⟨bN,bO,bP⟩:=bs bL;refine A9 bO rfl rfl rfl ?_;obtain⟨U,bQ,bR⟩:=bs bP;refine JSclL_ 0 (f41_w aO bQ) rfl rfl q_body_offunc41rfl aP rfl ?_;rintro _ bS _ aR ⟨bT,bU,rfl,rfl,bV⟩ bW;obtain⟨V,bX,bY⟩:=bs bR;refine Jb 1 (h85.moq (an.trq aR)) bX rfl rfl rfl rfl rfl rfl underlying25 q_szOf_oftype27 ?_;rintro aC av f138 _ bZ ⟨_,_,rfl,rfl,rfl⟩ b0 aS b1 ce cf;refine Ar underlying27 q_szOf_oftype3 rfl rfl rfl ?_;refine JS.store (v:=iV U.1) (off:=av+1) 1 rfl rfl rfl bW rfl rfl q_szOf_oftype3 (by simp [Value.cells,Ba]) bZ (by have:=aS;simp only [Rp.n,rK,rN,rB,rP,rL] at this;show _+1≤_;omega) fun aT=>?_;rw [QL (m:=1) (ws:= [iV V.1,iV V.2]) (vs:= [iV V.1,iV U.1]) (by have:=aS;simp only [Rp.n,rK,rN,rB,rP,rL] at this;show _+2≤_;omega) b0 rfl (Nat.le_of_ble_eq_true rfl)] at aT ⊢;have b2:=b1 ((V.1,U.1)) [iV V.1,iV U.1] ⟨_,_,rfl,rfl,rfl⟩;have aD:(K.2.2.2.1.set (Int.toNat K.2.2.2.2) (V.1,U.1)).length=(K.2.2.2.1).length:=List.length_set;refine FG (L':= [(0,pV O 0),(4,pV ae 0),(9,.slice a83 ((K.2.2.2.1.set (Int.toNat K.2.2.2.2) (V.1,U.1))).length c84),(10,iV K.2.2.2.2),(22,iV K.2.2.2.2),(23,.slice a83 ((K.2.2.2.1.set (Int.toNat K.2.2.2.2) (V.1,U.1))).length c84),(24,iV ((K.2.2.2.1).length:Int)),(25,.bool (decide (K.2.2.2.2<((K.2.2.2.1).length:Int)))),(28,pV O 0),(29,.bool bv.1),(30,.slice a83 ((K.2.2.2.1.set (Int.toNat K.2.2.2.2) (V.1,U.1))).length c84),(31,iV K.2.2.2.2),(32,pV O 0),(33,pV ae 0),(34,.slice a4 (p1.1).length c5),(35,iV ((p1.1).length:Int)),(36,iV bN),(37,iV U.1),(38,pV aC av),(39,pV aC (av+1))]) ⟨rfl,rfl,by rw [aD];rfl,rfl,rfl,by rw [aD];rfl,rfl,rfl,rfl,rfl,by rw [aD];rfl,rfl,rfl,rfl,rfl,rfl,rfl,rfl,rfl,rfl,trivial⟩ ?_;refine JL.done ?_;obtain rfl:=oi bY;exact JLkw_ (aQ _ _ ⟨bS,a83,c84,[(aC,.cells (AJ f138 av [iV V.1,iV U.1]) 27 (0,0))],bT,bU,rfl,rfl,aR,aT,b2,bV⟩) rfl
    ·refine JL.skip ?_;obtain rfl:=oi bM;exact JLkw_ (aQ _ _ ⟨aN,a83,c84,ab,bz,bA,rfl,rfl,lR_,aP,(h85.moq an),aO⟩) rfl
  ·refine JL.exit rfl ?_;obtain rfl:=oi bu;obtain rfl:=bo _ aB;exact JLkw_ (bn _ _ ⟨aa,a83,c84,ab,al,am,rfl,rfl,aA,aK,h85,aL⟩) rfl
def f24(fuel:Nat)(p0:JW2)(p1:A3):Option ((List (JW2))×(A3)):= (f39 fuel p1 7).bind fun K=> some (([p0,K.1,K.1]:List (JW2)),K.2)
theorem f24_w{a1:OAd}{c2:Nat}{a4:OAd}{c5:Nat}{U:Nat}{a7:OAd}{c8:Nat}{p0:JW2}{p1:A3}(h3:LsR (rL rI) E a1 c2 (p0.1))(h6:LsR (rL rI) E a4 c5 (p0.2))(h9:LsR rI E a7 c8 (p1.1)){fuel:Nat}{r:(List (JW2))×(A3)}(hD:f24 fuel p0 p1=some r):Al J 24 [.agg #[sV a1 p0.1 c2,sV a4 p0.2 c5],pV U 0] E [(U,.cells #[sV a7 p1.1 c8,iV p1.2.1,.int .u64 ((p1.2.2:Nat):Int)] 92 (0,0))] (fun w E' B'=>∃(ah:OAd) (ai:Nat) (aj:OAd) (ak:Nat),w= sV ah r.1 ai∧B'= [(U,.cells #[sV aj r.2.1 ak,iV r.2.2.1,.int .u64 ((r.2.2.2:Nat):Int)] 92 (0,0))]∧LsR (rP (rL (rL rI)) (rL (rL rI))) E' ah ai (r.1)∧LsR rI E' aj ak (r.2.1)):=by
 refine Av func24 rfl rfl fun Q aK cs H hN ao=>?_;unfold f24 at hD;refine zg 2 rfl ?_;refine JS.box (v:= .agg #[sV a1 p0.1 c2,sV a4 p0.2 c5]) rfl rfl rfl hN rfl fun aL ap=>?_;refine JSfreezeB_ 1 ap rfl fun aM V aq ar=>?_;obtain⟨K,au,av⟩:=bs hD;refine zg 5 rfl ?_;refine JSclL_ 0 (VZ (h9.moq V) au) rfl rfl (body_of func39 rfl) ar rfl ?_;rintro _ aN _ Y ⟨Z,aa,ab,ac,ae,ag,rfl,rfl,h23,al,aw⟩ ay;refine JS.alloc rfl rfl rfl ay q_zeroOf_oftype24 fun az aA=>?_;refine Bm (S':= [[(U,.cells #[sV ae K.2.1 ag,iV K.2.2.1,.int .u64 ((K.2.2.2:Nat):Int)] 92 (0,0))],[],[(az,.cells #[.slice none 0 0,.slice none 0 0] 24 (0,0))]]) rfl aA fun aB=>?_;refine JSst_ (v:= .agg #[sV Z K.1.1 aa,sV ab K.1.2 ac]) (off:=0) 2 aB q_szOf_oftype24 rfl rfl rfl rfl fun aC=>?_;refine JSfreezeB_ 2 aC rfl fun aO O am aD=>?_;refine zg 3 rfl ?_;refine JLldN_ (aq.moq (Y.trq O)) q_aggT_ofunderlying24 q_szOf_oftype24 rfl rfl ?_;refine JLldN_ am q_aggT_ofunderlying24 q_szOf_oftype24 rfl rfl ?_;refine JLldN_ am q_aggT_ofunderlying24 q_szOf_oftype24 rfl rfl ?_;refine JSlit_ (pp:=(rP (rL (rL rI)) (rL (rL rI)))) [.agg #[sV a1 p0.1 c2,sV a4 p0.2 c5],.agg #[sV Z K.1.1 aa,sV ab K.1.2 ac],.agg #[sV Z K.1.1 aa,sV ab K.1.2 ac]] [p0,K.1,K.1] rfl rfl rfl underlying33 q_szOf_oftype24 q_zeroOf_oftype24 (by decide) rfl rfl rfl ⟨⟨_,_,rfl,⟨_,_,rfl,(h3.moq ((V.trq Y).trq O))⟩,⟨_,_,rfl,(h6.moq ((V.trq Y).trq O))⟩⟩,⟨_,_,rfl,⟨_,_,rfl,(h23.moq O)⟩,⟨_,_,rfl,(al.moq O)⟩⟩,⟨_,_,rfl,⟨_,_,rfl,(h23.moq O)⟩,⟨_,_,rfl,(al.moq O)⟩⟩,trivial⟩ aD fun aE aP aF aG=>?_;refine zg 2 rfl ?_;refine JSfreezeL_ 3 aF aG rfl fun aQ an aH aI=>?_;refine Bm (S':= [[(U,.cells #[sV ae K.2.1 ag,iV K.2.2.1,.int .u64 ((K.2.2.2:Nat):Int)] 92 (0,0))],[],[],[]]) rfl aI fun aJ=>?_;obtain rfl:=oi av;refine Af func24 rfl rfl ?_;exact ao _ _ _ _ (((V.trq Y).trq O).trq an) rfl ⟨(some ⟨aE,0,none⟩),3,ae,ag,rfl,rfl,aH,(aw.moq (O.trq an))⟩ aJ
end Pal
namespace Pal
theorem Aa.upto{S A:Type}{body:S→Option (AH S A)}{Q:A→Prop}{K:S}{F:Nat}(n:Nat)(I:Nat→S→Prop)(V:I 0 K)(Z:n<F)
  (round:∀i s,i<n→I i s→Aa (body s) (AH.sat (I (i+1)) Q)) (last:∀s,I n s→Aa (body s) (fun st=>∃a,st= .done a∧Q a)):Aa (Pal.iter body F K) Q:=by
 refine Aa.iter (fun m s=>∃i,i≤n∧m=n - i∧I i s) ?_ (m:=n - 0) ⟨0,Nat.zero_le _,rfl,V⟩ (by omega);rintro m s ⟨i,hi,rfl,O⟩;rcases Nat.lt_or_ge i n with Y | aa
 ·refine(round i s Y O).moq ?_;intro st U;cases st with
  | more s'=>exact⟨n - (i+1),by omega,i+1,by omega,rfl,U⟩
  | done a=>exact U
 ·obtain rfl:i=n:=by omega
  refine(last s O).moq ?_;rintro st ⟨a,rfl,h⟩;exact h
theorem Aa.Ck{α:Type}{o:Option α}{a:α}(h:Aa o (fun x=>x=a)):o=some a:=by obtain⟨x,K,rfl⟩:=h;exact K
theorem H2(F:Nat)(a lo hi:Int):f101 F a lo hi=some (decide (a<lo∨hi<a)):=by
 unfold f101;by_cases h:a<lo
 ·simp [h]
 ·simp [h]
theorem Oh(F:Nat){s n:Nat}(hs:s<65536)(U:n≤16):f103 F s (n:Int)=some (s.testBit n):=by
 unfold f103;have K:Iu s (n:Int)=some (s>>>n):=by unfold Iu;rw [if_pos (by omega)];rfl
 rw [K];simp only [Option.bind_some];have O:s>>>n<65536:=Nat.lt_of_le_of_lt (Nat.shiftRight_le _ _) hs;have h3:Hq (s>>>n) 1=some (s>>>n&&& 1):=if_pos ⟨O,by omega⟩;rw [h3];simp only [Option.bind_some];rw [Tw]
theorem Vf(F:Nat){s n:Nat}(hs:s<65536)(K:n<16):f90 F s (n:Int)=some (s ||| 1<<<n):=by
 unfold f90;have O:Ih (n:Int)=some (1<<<n):=by unfold Ih;rw [if_pos (by omega)];rfl
 rw [O];simp only [Option.bind_some];have U:1<<<n<65536:=by rw [Nat.one_shiftLeft];exact Nat.pow_lt_pow_right (by omega) (show n<16 from K)
 have h3:GR s (1<<<n)=some (s ||| 1<<<n):=if_pos ⟨hs,U⟩;rw [h3];rfl
theorem PF{a b:Nat}(K:a<65536)(hb:b<65536):a ||| b<65536:=Nat.or_lt_two_pow (n:=16) K hb
theorem UC{n:Nat}(K:n<16):1<<<n<65536:=by rw [Nat.one_shiftLeft];exact Nat.pow_lt_pow_right (by omega) (show n<16 from K)
def DK(n:Nat)(l:List Int):Prop:=∀x∈l,0≤x∧x<(n:Int)
def Cw(l:List Int):Nat:=l.foldl (fun s x=>s ||| 1<<<x.toNat) 0
theorem QV(l:List Int)(x:Int):Cw (l++ [x])=Cw l ||| 1<<<x.toNat:=by simp [Cw]
theorem NW{l:List Int}(h:DK 16 l):Cw l<65536:=by
 have key:∀(l:List Int) (s:Nat),s<65536→DK 16 l→l.foldl (fun s x=>s ||| 1<<<x.toNat) s<65536:=by
  intro l
  induction l with
  | nil=>intro s hs _;exact hs
  | cons x l O=>
   intro s hs K;have V:=K x (by simp);exact O _ (PF hs (UC (by omega))) fun y U=>K y (by simp [U])
 exact key l 0 (by omega) h
theorem Rq{l:List Int}(h:∀x∈l,0≤x)(n:Nat):(Cw l).testBit n=decide ((n:Int)∈l):=by
 have key:∀(l:List Int) (s:Nat),(∀x∈l,0≤x)→(l.foldl (fun s x=>s ||| 1<<<x.toNat) s).testBit n=(s.testBit n || decide ((n:Int)∈l)):=by
  intro l
  induction l with
  | nil=>intro s _;simp
  | cons x l O=>
   intro s K;have V:=K x (by simp);rw [List.foldl_cons,O _ fun y U=>K y (by simp [U]),Nat.testBit_or];have e:(1<<<x.toNat).testBit n=decide ((n:Int)=x):=by
    rw [Nat.one_shiftLeft,Nat.testBit_two_pow];exact decide_eq_decide.2 ⟨fun h=>by omega,fun h=>by omega⟩
   rw [e,Bool.or_assoc];congr 1;simp
 rw [Cw,key l 0 h];simp
theorem T8{F:Nat}{l:List Int}(V:100<F)(Y:l.length<100)(h:DK 16 l):f120 F l=some (Cw l):=by
 refine Aa.Ck ?_;unfold f120;refine Aa.b (S:=fun r=>r=Cw l) ?_ (by rintro r rfl;exact Aa.intro rfl);refine Aa.upto l.length (fun i s=>s=(Cw (l.take i),(i:Int))) (by simp [Cw]) (by omega) ?_ ?_
 ·rintro i s hi rfl;unfold Js;refine Aa.pos (by simp;omega) ?_;refine Aa.AR (m:=i) rfl hi ?_;have Z:=h l[i] (List.getElem_mem hi);have O:l[i]=((l[i].toNat:Nat):Int):=by omega
  have hs:Cw (l.take i)<65536:=NW fun y U=>h y (List.mem_of_mem_take U);have K:=Vf F (n:=l[i].toNat) hs (by omega);rw [← O] at K;refine Aa.be K ?_;refine Aa.AE ((i+1:Nat):Int) (by simp) (by omega) (by omega) ?_;refine Aa.intro ?_;show _=_;rw [List.take_add_one,List.getElem?_eq_getElem hi];simp only [Option.toList_some];rw [QV]
 ·rintro s rfl;unfold Js;refine Aa.neg (by simp) ?_;exact Aa.intro ⟨_,rfl,by simp⟩
def BN(s:Nat)(k:Nat):List Int:=((List.range k).filter (fun n=>s.testBit n)).map (fun(n:Nat)=>(n:Int))
theorem K7(s k:Nat):BN s (k+1)=if s.testBit k=true then BN s k++ [(k:Int)] else BN s k:=by
 unfold BN;rw [List.range_succ,List.filter_append];by_cases h:s.testBit k=true
 ·rw [if_pos h];simp [h]
 ·rw [if_neg h];simp [h]
theorem IV(s k:Nat):(BN s k).length≤k:=by
 unfold BN;rw [List.length_map];exact Nat.le_trans (List.length_filter_le _ _) (by simp)
theorem Lc{s k:Nat}{x:Int}:x∈BN s k↔∃n:Nat,n<k∧s.testBit n=true∧x=(n:Int):=by
 unfold BN;simp only [List.mem_map,List.mem_filter,List.mem_range];exact⟨fun⟨n,⟨K,O⟩,h3⟩=>⟨n,K,O,h3.symm⟩,fun⟨n,K,O,h3⟩=>⟨n,⟨K,O⟩,h3.symm⟩⟩
theorem OV{F s:Nat}(K:100<F)(hs:s<65536):f89 F s=some (BN s 16):=by
 refine Aa.Ck ?_;unfold f89;refine Aa.b (S:=fun r=>r=BN s 16) ?_ (by rintro r rfl;exact Aa.intro rfl);refine Aa.upto 16 (fun i st=>st=(BN s i,(i:Int))) rfl (by omega) ?_ ?_
 ·rintro i st hi rfl;unfold J0;refine Aa.pos (by simp only;omega) ?_;refine Aa.be (Oh F hs (by omega)) ?_;have hlen:=IV s i;refine Aa.b (S:=fun r=>r=BN s (i+1)) ?_ ?_
  ·rw [K7];refine Aa.ite (fun h=>?_) (fun h=>?_)
   ·rw [if_pos h];exact Aa.Hm (by simp only;omega) (Aa.intro rfl)
   ·rw [if_neg h];exact Aa.intro rfl
  ·rintro r rfl;refine Aa.AE ((i+1:Nat):Int) (by simp) (by omega) (by omega) ?_;exact Aa.intro rfl
 ·rintro st rfl;unfold J0;exact Aa.neg (by simp) (Aa.intro ⟨_,rfl,rfl⟩)
end Pal
namespace Pal
abbrev JW:=List (List Int)×List (List Int)
structure VL (n:Nat) (l:List Int):Prop where
 len:l.length≤3
 inr:DK n l
 Kx:l.Pairwise (·<·)
structure VJ (n:Nat) (J:JW):Prop where
 pos:0<n
 le:n≤8
 l1:J.1.length=n
 l2:J.2.length=n
 nx:∀(i:Nat) l,J.1[i]? =some l→VL n l∧0<l.length
 fl:∀(i:Nat) l,J.2[i]? =some l→VL n l∧(i:Int) ∉ l
theorem MU(F:Nat):Kd F none=some 0:=by
 unfold Kd f112;have h:∃b,f135 F=some b:=by unfold f135;exact⟨_,rfl⟩
 obtain⟨b,hb⟩:=h;rw [hb];cases b <;> rfl
def Ex(nx:List (List Int))(s:Nat):Nat:=(BN s 16).foldl (fun o m=>o ||| Cw (nx.getD m.toNat [])) 0
theorem VJ.HD{n:Nat}{J:JW}(K:VJ n J)(m:Nat):VL n (J.1.getD m []):=by
 rw [List.getD_eq_getElem?_getD];cases h:J.1[m]? with
 | none=>exact⟨by simp,fun x O=>by simp at O,by simp⟩
 | some l=>exact(K.nx m l h).1
theorem DK.moq{n m:Nat}{l:List Int}(h:DK n l)(hle:n≤m):DK m l:=fun x K=>by have:=h x K;omega
theorem LJ{n:Nat}{J:JW}(U:VJ n J)(s k:Nat):(Ex J.1 s).testBit k=true↔∃m,m<16∧s.testBit m=true∧(k:Int)∈J.1.getD m []:=by
 have key:∀(l:List Int) (o:Nat),(l.foldl (fun o m=>o ||| Cw (J.1.getD m.toNat [])) o).testBit k=true↔o.testBit k=true∨∃m∈l,(k:Int)∈J.1.getD m.toNat []:=by
  intro l
  induction l with
  | nil=>intro o;simp
  | cons x l V=>
   intro o;rw [List.foldl_cons,V,Nat.testBit_or,Bool.or_eq_true,Rq fun y Y=>((U.HD x.toNat).inr y Y).1,decide_eq_true_eq];simp only [List.mem_cons,exists_eq_or_imp,or_assoc]
 unfold Ex;rw [key];simp only [Nat.zero_testBit,Bool.false_eq_true,false_or];constructor
 ·rintro⟨x,Z,aa⟩;obtain⟨m,K,O,rfl⟩:=Lc.1 Z;exact⟨m,K,O,aa⟩
 ·rintro⟨m,K,O,h3⟩;exact⟨(m:Int),Lc.2 ⟨m,K,O,rfl⟩,by simpa using h3⟩
theorem QE{n s:Nat}(h:∀k,n≤k→s.testBit k=false):s<2 ^ n:=Nat.lt_pow_two_of_testBit s h
theorem OY{n:Nat}{J:JW}(K:VJ n J)(s:Nat):Ex J.1 s<2 ^ n:=by
 refine QE fun k O=>?_;cases h:(Ex J.1 s).testBit k with
 | false=>rfl
 | true=>
  obtain⟨m,_,_,h3⟩:=(LJ K s k).1 h;have:=(K.HD m).inr _ h3;omega
theorem LC{n:Nat}(h:n≤8):2 ^ n≤256:=Nat.pow_le_pow_right (by omega) h
theorem HT{n s k:Nat}(h:s<2 ^ n)(O:s.testBit k=true):k<n:=by
 rcases Nat.lt_or_ge k n with K | K
 ·exact K
 ·rw [Nat.testBit_lt_two_pow (Nat.lt_of_lt_of_le h (Nat.pow_le_pow_right (by omega) K))] at O;cases O
theorem So{F n:Nat}{J:JW}{A:List Nat}{s:Nat}(V:100<F)(K:VJ n J)(hs:s<2 ^ n):Ib F (J.1,J.2,A) s=some (Ex J.1 s,(J.1,J.2,A)):=by
 have ae:=K.l1;have ab:=K.le;have ag:=LC ab;refine Aa.Ck ?_;unfold Ib;refine Aa.be (OV V (by omega)) ?_;refine Aa.b (S:=fun r=>r=Ex J.1 s) ?_ (by rintro r rfl;exact Aa.intro rfl);have hlen:=IV s 16;refine Aa.upto (BN s 16).length (fun i st=>st=(((BN s 16).take i).foldl (fun o m=>o ||| Cw (J.1.getD m.toNat [])) 0,(i:Int))∧((BN s 16).take i).foldl (fun o m=>o ||| Cw (J.1.getD m.toNat [])) 0<65536) ⟨rfl,by simp⟩ (by omega) ?_ ?_
 ·rintro i st hi ⟨rfl,Y⟩;unfold Ja;obtain⟨m,ah,ac,Z⟩:=Lc.1 (List.getElem_mem hi);have hm:=HT hs ac;have O:m<J.1.length:=by omega
  have U:=(K.nx m _ (List.getElem?_eq_getElem O)).1;have ai:=U.len;refine Aa.pos (by simp;omega) ?_;refine Aa.AR (m:=i) rfl hi ?_;refine Aa.AR (m:=m) Z O ?_;refine Aa.be (T8 V (show J.1[m].length<100 by omega) (U.inr.moq (by omega))) ?_;have aa:Cw J.1[m]<65536:=NW (U.inr.moq (by omega));refine Aa.be (b:=((BN s 16).take i).foldl (fun o m=>o ||| Cw (J.1.getD m.toNat [])) 0 ||| Cw J.1[m]) (if_pos ⟨Y,aa⟩) ?_;refine Aa.AE ((i+1:Nat):Int) (by simp) (by omega) (by omega) ?_;have e:((BN s 16).take (i+1)).foldl (fun o m=>o ||| Cw (J.1.getD m.toNat [])) 0=((BN s 16).take i).foldl (fun o m=>o ||| Cw (J.1.getD m.toNat [])) 0 ||| Cw J.1[m]:=by
   rw [List.take_add_one,List.getElem?_eq_getElem hi,List.foldl_append,Z];simp [List.getD_eq_getElem?_getD,O]
  refine Aa.intro ⟨?_,?_⟩
  ·rw [e]
  ·rw [e];exact PF Y aa
 ·rintro st ⟨rfl,_⟩;unfold Ja;refine Aa.neg (by simp) (Aa.intro ⟨_,rfl,?_⟩);rw [List.take_length];rfl
def AG(J:JW):Nat→Nat
 | 0=>1
 | a+1=>Ex J.1 (AG J a)
theorem GJ{n:Nat}{J:JW}(K:VJ n J):∀a,AG J a<2 ^ n
 | 0=>Nat.one_lt_two_pow (by have:=K.pos;omega)
 | a+1=>OY K _
def Fx(J:JW):List Nat:=(List.range 13).map (AG J)
def Ip(J:JW)(n k:Nat)(A:List Nat):Prop:=A.length=13∧(∀i,i≤k→i<13→A[i]? =some (AG J i))∧∀x∈A,x<2 ^ n
theorem Ip.all{J:JW}{n:Nat}{A:List Nat}(h:Ip J n 12 A):A=Fx J:=by
 apply List.ext_getElem?;intro i;rcases Nat.lt_or_ge i 13 with hi | hi
 ·rw [h.2.1 i (by omega) hi];simp [Fx,hi]
 ·rw [List.getElem?_eq_none (by rw [h.1];exact hi),List.getElem?_eq_none (by simp [Fx];exact hi)]
theorem Nu{F n:Nat}{J:JW}{A:List Nat}(ab:100<F)(Y:VJ n J)(ac:A.length=13)(Z:∀x∈A,x<2 ^ n):
  Aa (iter (H9 F) F (J.1,J.2,A,A,0)) (fun r=>r.1=J.1∧r.2.1=J.2∧r.2.2.1=A∧r.2.2.2.length=13∧r.2.2.2[0]? =A[0]? ∧(∀i,i<12→∀s,A[i]? =some s→r.2.2.2[i+1]? =some (Ex J.1 s))∧∀x∈r.2.2.2,x<2 ^ n):=by
 refine Aa.upto 12 (fun k st=>∃B:List Nat,st=(J.1,J.2,A,B,(k:Int))∧B.length=13∧B[0]? =A[0]? ∧(∀i,i<k→∀s,A[i]? =some s→B[i+1]? =some (Ex J.1 s))∧∀x∈B,x<2 ^ n) ⟨A,rfl,ac,rfl,fun i hi=>by omega,Z⟩ (by omega) ?_ ?_
 ·rintro k st ag ⟨B,rfl,K,O,hs,hb⟩;unfold H9;have U:k<A.length:=by omega
  have aa:k+1<B.length:=by omega
  refine Aa.pos (by simp only;omega) ?_;refine Aa.AE ((k+1:Nat):Int) (by simp) (by omega) (by omega) ?_;refine Aa.AR (m:=k) rfl U ?_;refine Aa.be (So ab Y (Z _ (List.getElem_mem U))) ?_;refine Aa.AR (m:=k+1) rfl aa ?_;refine Aa.AE ((k+1:Nat):Int) (by simp) (by omega) (by omega) ?_;refine Aa.intro ⟨B.set (k+1) (Ex J.1 A[k]),rfl,by simpa using K,?_,?_,?_⟩
  ·rw [List.getElem?_set_ne (by omega)];exact O
  ·intro i hi s V;by_cases e:i=k
   ·subst e;rw [List.getElem?_set_self aa];have:A[i]=s:=by rw [List.getElem?_eq_getElem U] at V;exact Option.some.inj V
    rw [this]
   ·rw [List.getElem?_set_ne (by omega)];exact hs i (by omega) s V
  ·intro x ae;rcases List.mem_or_eq_of_mem_set ae with h | h
   ·exact hb x h
   ·subst h;exact OY Y _
 ·rintro st ⟨B,rfl,K,O,hs,hb⟩;unfold H9;refine Aa.neg (by simp) (Aa.intro ⟨_,rfl,rfl,rfl,rfl,K,O,hs,hb⟩)
theorem UD{F n:Nat}{J:JW}(ah:100<F)(ac:VJ n J):f92 F J=some (some (J.1,J.2,Fx J)):=by
 have ap:=ac.pos;refine Aa.Ck ?_;unfold f92;refine Aa.AR (m:=0) rfl (by simp) ?_;refine Aa.b (S:=fun q=>q=Sum.inl (some (J.1,J.2,Fx J))) ?_ (by rintro q rfl;exact Aa.intro rfl);refine Aa.upto 12 (fun k st=>∃A:List Nat,st=(J.1,J.2,A)∧Ip J n k A) ?_ (by omega) ?_ ?_
 ·refine⟨_,rfl,by simp,fun i hi _=>?_,fun x ai=>?_⟩
  ·obtain rfl:i=0:=by omega
   rfl
  ·rcases List.mem_or_eq_of_mem_set ai with h | h
   ·simp at h;subst h;exact Nat.two_pow_pos n
   ·subst h;exact Nat.one_lt_two_pow (by omega)
 ·rintro k st aq ⟨A,rfl,K⟩;unfold JC;refine Aa.b (Nu ah ac K.1 K.2.2) ?_;rintro⟨aj,ak,ae,B⟩ ⟨Y,Z,aa,O,ab,U,V⟩;simp only at Y Z aa O ab U V ⊢;subst Y Z aa;refine Aa.ite (fun h=>?_) (fun h=>?_)
  ·refine Aa.intro ⟨B,rfl,O,fun i hi ag=>?_,V⟩;cases i with
   | zero=>rw [ab];exact K.2.1 0 (by omega) (by omega)
   | succ i=>exact U i (by omega) _ (K.2.1 i (by omega) (by omega))
  ·have e:B=ae:=Decidable.byContradiction fun al=>h al;subst e;refine Aa.intro ?_;show _=_;have am:Ip J n 12 B:=by
    refine⟨O,fun i hi ag=>?_,V⟩;have:∀i,i<13→B[i]? =some (AG J i):=by
     intro i
     induction i with
     | zero=>intro _;exact K.2.1 0 (by omega) (by omega)
     | succ i an=>intro h;exact U i (by omega) _ (an (by omega))
    exact this i ag
   rw [am.all]
 ·rintro st ⟨A,rfl,K⟩;unfold JC;refine Aa.b (Nu ah ac K.1 K.2.2) ?_;rintro⟨aj,ak,ae,B⟩ ⟨Y,Z,aa,O,ab,U,V⟩;simp only at Y Z aa O ab U V ⊢;subst Y Z aa;have ao:Ip J n 12 B:=by
   refine⟨O,fun i hi ag=>?_,V⟩;cases i with
   | zero=>rw [ab];exact K.2.1 0 (by omega) (by omega)
   | succ i=>exact U i (by omega) _ (K.2.1 i (by omega) (by omega))
  have e:B=ae:=by rw [ao.all,K.all]
  refine Aa.neg (by rw [e];simp) (Aa.intro ⟨_,rfl,?_⟩);rw [K.all]
end Pal
namespace Pal
theorem OS(J:JW){a:Nat}(K:a<13):(Fx J)[a]? =some (AG J a):=by simp [Fx,K]
def Ed(J:JW)(m:Nat)(k:Nat):List Int:=((List.range k).filter (fun a=>(AG J a).testBit m)).map (fun(a:Nat)=>(a:Int))
theorem MJ(J:JW)(m k:Nat):Ed J m (k+1)=if(AG J k).testBit m=true then Ed J m k++ [(k:Int)] else Ed J m k:=by
 unfold Ed;rw [List.range_succ,List.filter_append];by_cases h:(AG J k).testBit m=true
 ·rw [if_pos h];simp [h]
 ·rw [if_neg h];simp [h]
theorem Lg(J:JW)(m k:Nat):(Ed J m k).length≤k:=by
 unfold Ed;rw [List.length_map];exact Nat.le_trans (List.length_filter_le _ _) (by simp)
abbrev Dh:=List Int×Int×Nat
def BG(k:Nat)(b:Dh):Prop:=0≤b.2.1∧b.2.1≤(k:Int)
theorem BG.moq{k k':Nat}{b:Dh}(h:BG k b)(K:k≤k'):BG k' b:=⟨h.1,by have:=h.2;omega⟩
theorem Ta{F k:Nat}{b:Dh}(hb:BG k b)(K:k<1000000):Aa (f100 F b) (fun r=>r.1<2 ^ 64∧BG (k+1) r.2):=by
 obtain⟨O,U⟩:=hb;unfold f100;refine Aa.AE (b.2.1+1) rfl (by omega) (by omega) ?_;have key:∀x:Nat,(x % 2 ^ 64)>>>11<2 ^ 64:=fun x=>Nat.lt_of_le_of_lt (Nat.shiftRight_le _ _) (Nat.mod_lt _ (Nat.two_pow_pos 64));refine Aa.b (S:=fun _=>True) ?_ ?_
 ·refine Aa.ite (fun h=>?_) (fun h=>?_)
  ·refine Aa.AE b.2.1 (by omega) (by omega) (by omega) ?_;refine Aa.AR (m:=b.2.1.toNat) (by omega) (by omega) ?_;exact Aa.intro trivial
  ·exact Aa.intro trivial
 ·intro x _;exact Aa.intro ⟨key _,by simp only;omega,by simp only;omega⟩
theorem RM{a:Nat}(h:a<2 ^ 62):Iw a=(a:Int):=by
 unfold Iw;exact Gs (by omega)
theorem EI{F k:Nat}{b:Dh}{m:Int}(hb:BG k b)(O:k<1000000)(hm:m<1000000):Aa (f41 F b m) (fun r=>0≤r.1∧(r.1≤m∨r.1=0)∧BG (k+1) r.2):=by
 unfold f41;refine Aa.b (Ta hb O) ?_;rintro⟨x,Z⟩ ⟨aa,K⟩;refine Aa.ite (fun h=>?_) (fun h=>?_)
 ·exact Aa.intro ⟨by simp,.inr rfl,K⟩
 ·have U:BI m=m.toNat:=by unfold BI;omega
  have V:(BI m+1) % 2 ^ 64=m.toNat+1:=by rw [U];omega
  have Y:x % (m.toNat+1)<m.toNat+1:=Nat.mod_lt _ (by omega);refine Aa.be (b:=x % (m.toNat+1)) (by rw [V];unfold J7;rw [if_neg (by omega)]) ?_;refine Aa.intro ?_;simp only;generalize x % (m.toNat+1)=z at Y ⊢;rw [RM (by omega)];exact⟨by omega,.inl (by omega),K⟩
theorem LN{F k:Nat}{b:Dh}{lo hi:Int}(hb:BG k b)(O:k<1000000)(Y:0≤lo)(Z:lo≤hi)(aa:hi<1000):Aa (f96 F b lo hi) (fun r=>lo≤r.1∧r.1≤hi∧BG (k+1) r.2):=by
 unfold f96;refine Aa.AE (hi - lo) rfl (by omega) (by omega) ?_;refine Aa.b (EI hb O (by omega)) ?_;rintro⟨x,ab⟩ ⟨U,V,K⟩;simp only at U V K ⊢;refine Aa.AE (lo+x) rfl (by omega) (by omega) ?_;exact Aa.intro ⟨by simp only;omega,by simp only;omega,K⟩
theorem Ia{F k:Nat}{b:Dh}{m:Int}(hb:BG k b)(K:k<1000000)(U:1≤m)(V:m<1000):Aa (f97 F b m) (fun r=>BG (k+1) r.2):=by
 unfold f97;refine Aa.AE (m - 1) rfl (by omega) (by omega) ?_;refine Aa.b (EI hb K (by omega)) ?_;rintro⟨x,Y⟩ ⟨Z,aa,O⟩;exact Aa.intro O
theorem JN{F k:Nat}{b:Dh}{l:List Int}(hb:BG k b)(U:k<1000000)(Z:0<l.length)(aa:l.length<1000):Aa (f99 F b l) (fun r=>r.1∈l∧BG (k+1) r.2):=by
 unfold f99;refine Aa.AE ((l.length - 1:Nat):Int) (by omega) (by omega) (by omega) ?_;refine Aa.b (EI hb U (by omega)) ?_;rintro⟨x,ab⟩ ⟨V,Y,K⟩;simp only at V Y K ⊢;have O:x.toNat<l.length:=by omega
 refine Aa.AR (m:=x.toNat) (by omega) O ?_;exact Aa.intro ⟨List.getElem_mem O,K⟩
theorem Tj{F:Nat}{x:Int}(K:100<F):f98 F [] x=some [x]:=by
 obtain⟨F,rfl⟩:∃k,F=k+1:=⟨F - 1,by omega⟩;refine Aa.Ck ?_;unfold f98;refine Aa.be (b:=([],false)) ?_ ?_
 ·unfold iter;rfl
 ·refine Aa.be (b:= [x]) ?_ (Aa.intro rfl)
  rfl
theorem TX{F:Nat}{a x:Int}(ac:100<F):f98 F [a] x=some (if x<a then [x,a] else if x=a then [a] else [a,x]):=by
 obtain⟨F,rfl⟩:∃k,F=k+2:=⟨F - 2,by omega⟩;refine Aa.Ck ?_;unfold f98;have O:Ac 1=some 1:=rfl;have U:ix [a] 0=some a:=rfl;have r0:room ([]:List Int) x=some [x]:=if_pos (by simp);have Z:room ([]:List Int) a=some [a]:=if_pos (by simp);have aa:room [x] a=some [x,a]:=if_pos (by simp);have ab:room [a] x=some [a,x]:=if_pos (by simp);have step:Hh (F+2) [a] x ([],false,0)=some (.more (if x<a then([x,a],true,1) else if x=a then([x],true,1) else([a],false,1))):=by
  unfold Hh;rcases Int.lt_trichotomy x a with h | h | h
  ·have V:x≤a:=by omega
   have Y:a≠x:=by omega
   simp [U,h,V,Y,r0,aa,O]
  ·subst h;simp [U,r0,O]
  ·have V:¬x≤a:=by omega
   have Y:a≠x:=by omega
   have h3:¬x<a:=by omega
   have K:¬x=a:=by omega
   simp [U,V,Y,h3,K,Z,O]
 have last:∀(o:List Int) (b:Bool),Hh (F+2) [a] x (o,b,1)=some (.done (o,b)):=by
  intro o b;unfold Hh;simp
 rcases Int.lt_trichotomy x a with h | h | h
 ·rw [if_pos h] at step;refine Aa.be (b:=([x,a],true)) ?_ ?_
  ·unfold iter;rw [step];simp only;unfold iter;rw [last]
  ·rw [if_pos h];exact Aa.be (b:= [x,a]) (by simp) (Aa.intro rfl)
 ·subst h;rw [if_neg (by omega),if_pos rfl] at step;refine Aa.be (b:=([x],true)) ?_ ?_
  ·unfold iter;rw [step];simp only;unfold iter;rw [last]
  ·rw [if_neg (show ¬x<x by omega),if_pos (rfl:x=x)];exact Aa.be (b:= [x]) (by simp) (Aa.intro rfl)
 ·have h3:¬x<a:=by omega
  have K:¬x=a:=by omega
  rw [if_neg h3,if_neg K] at step;refine Aa.be (b:=([a],false)) ?_ ?_
  ·unfold iter;rw [step];simp only;unfold iter;rw [last]
  ·rw [if_neg h3,if_neg K];exact Aa.be (b:= [a,x]) (by simp [ab]) (Aa.intro rfl)
theorem O8{F n:Nat}{l:List Int}{x:Int}(O:100<F)(U:DK n l)(V:l.length≤1)(Y:0≤x∧x<(n:Int)):Aa (f98 F l x) (fun r=>VL n r∧0<r.length∧r.length≤l.length+1∧∀y∈r,y=x∨y∈l):=by
 match l,V with
 | [],_=>
  rw [Tj O];exact Aa.intro ⟨⟨by simp,fun y K=>by simp at K;subst K;exact Y,by simp⟩,by simp,by simp,fun y K=>by simpa using K⟩
 | [a],_=>
  rw [TX O];have Z:=U a (by simp);refine Aa.intro ?_;rcases Int.lt_trichotomy x a with h | h | h
  ·rw [if_pos h];exact⟨⟨by simp,fun y K=>by simp at K;rcases K with rfl | rfl <;> assumption,by simpa using h⟩,by simp,by simp,fun y K=>by simpa using K⟩
  ·rw [if_neg (by omega),if_pos h];exact⟨⟨by simp,fun y K=>by simp at K;subst K;exact Z,by simp⟩,by simp,by simp,fun y K=>by simp at K;subst K;simp⟩
  ·rw [if_neg (by omega),if_neg (by omega)];exact⟨⟨by simp,fun y K=>by simp at K;rcases K with rfl | rfl <;> assumption,by simpa using h⟩,by simp,by simp,fun y K=>by simp at K;rcases K with rfl | rfl <;> simp⟩
 | a::b::l,h=>simp at h
structure PJ (n i:Nat) (N K:List (List Int)):Prop where
 l1:N.length=i
 l2:K.length=i
 nx:∀(q:Nat) l,N[q]? =some l→VL n l∧0<l.length
 fl:∀(q:Nat) l,K[q]? =some l→VL n l∧(q:Int) ∉ l
theorem PJ.snoc{n i:Nat}{N U:List (List Int)}{a b:List Int}(h:PJ n i N U)(V:VL n a∧0<a.length)(hb:VL n b∧(i:Int) ∉ b):PJ n (i+1) (N++ [a]) (U++ [b]):=by
 refine⟨by simp [h.l1],by simp [h.l2],fun q l K=>?_,fun q l K=>?_⟩
 ·rcases Nat.lt_or_ge q N.length with O | O
  ·rw [List.getElem?_append_left O] at K;exact h.nx q l K
  ·rw [List.getElem?_append_right O] at K;have:q - N.length=0:=by
    rcases Nat.eq_zero_or_pos (q - N.length) with e | e
    ·exact e
    ·rw [List.getElem?_eq_none (by simp;omega)] at K;cases K
   rw [this] at K;simp at K;subst K;exact V
 ·rcases Nat.lt_or_ge q U.length with O | O
  ·rw [List.getElem?_append_left O] at K;exact h.fl q l K
  ·rw [List.getElem?_append_right O] at K;have e:q - U.length=0:=by
    rcases Nat.eq_zero_or_pos (q - U.length) with e | e
    ·exact e
    ·rw [List.getElem?_eq_none (by simp;omega)] at K;cases K
   rw [e] at K;simp at K;subst K;have:q=i:=by have:=h.l2;omega
   subst this;exact hb
theorem Rj{F n i k:Nat}{ab:Int×Dh}{ac:(List (List Int))×(List (List Int))×(List Int)×Int×Nat×Int}{b:Dh}{c:Int}(am:100<F)(ae:ab.1=(n:Int))(h71:ac.2.2.2.2.2=(i:Int))(hi:i<n)(ar:n≤8)(hb:BG k b)(au:k<1000)(av:c=0∨c=1∨c=2):
  Aa (iter (J3 F ab ac) F (b.1,b.2.1,b.2.2,[],c)) (fun r=>VL n r.1∧(i:Int) ∉ r.1∧BG (k+10) r.2):=by
 refine Aa.iter (fun m st=>∃(l:List Int) (K:Dh),st=(K.1,K.2.1,K.2.2,l,(m:Int))∧m≤2∧VL n l∧(i:Int) ∉ l∧l.length≤2 - m∧BG (k+10 - 4*m) K) ?_ (m:=c.toNat) ⟨[],b,by simp;omega,by omega,⟨by simp,fun x an=>by simp at an,by simp⟩,by simp,by simp,hb.moq (by omega)⟩ (by omega);rintro m st ⟨l,K,rfl,aw,Y,Z,hlen,ag⟩;unfold J3;refine Aa.b (S:=fun q=>q=decide (0<m∧1<n)) ?_ ?_
 ·refine Aa.ite (fun h=>?_) (fun h=>?_)
  ·refine Aa.intro ?_;rw [ae];exact decide_eq_decide.2 ⟨fun ah=>⟨by simp only at h;omega,by omega⟩,fun ah=>by omega⟩
  ·refine Aa.intro ?_;have:¬0<m:=by simp only at h;omega
   simp [this]
 ·rintro q rfl;refine Aa.ite (fun h=>?_) (fun h=>?_)
  ·have ah:0<m∧1<n:=of_decide_eq_true h;refine Aa.AE ((i:Int) - 1) (by rw [h71]) (by omega) (by omega) ?_;refine Aa.b (EI (F:=F) (b:=(K.1,K.2.1,K.2.2)) (m:=max 0 ((i:Int) - 1)) ag (by omega) (by omega)) ?_;rintro⟨y,ay⟩ ⟨ai,ao,aj⟩;simp only at ai ao aj ⊢;refine Aa.b (Ia (F:=F) aj (by omega) (by omega) (by omega)) ?_;rintro⟨o,az⟩ aa;simp only at aa ⊢;refine Aa.b (S:=fun r=>0≤r.1∧r.1<(n:Int)∧BG (k+10 - 4*m+1+1+1) r.2) ?_ ?_
   ·refine Aa.ite (fun _=>?_) (fun _=>?_)
    ·refine Aa.AE ((n:Int) - 1) (by rw [ae]) (by omega) (by omega) ?_;refine Aa.b (EI (F:=F) aa (by omega) (by omega)) ?_;rintro⟨z,ak⟩ ⟨O,U,V⟩;exact Aa.intro ⟨O,by simp only at O U ⊢;omega,V⟩
    ·exact Aa.intro ⟨ai,by simp only;omega,BG.moq aa (by omega)⟩
   ·rintro⟨z,ak⟩ ⟨O,U,V⟩;simp only at O U V ⊢;refine Aa.b (S:=fun r=>VL n r∧(i:Int) ∉ r∧r.length≤l.length+1) ?_ ?_
    ·rw [h71];refine Aa.ite (fun ap=>?_) (fun _=>?_)
     ·refine Aa.b (O8 (F:=F) am Y.inr (by omega) ⟨O,U⟩) ?_;rintro r ⟨v1,v2,al,v4⟩;refine Aa.intro ⟨v1,fun aq=>?_,al⟩;rcases v4 _ aq with e | e
      ·exact ap e.symm
      ·exact Z e
     ·exact Aa.intro ⟨Y,Z,by omega⟩
    ·rintro r ⟨v1,v2,al⟩;refine Aa.AE ((m - 1:Nat):Int) (by omega) (by omega) (by omega) ?_;exact Aa.intro ⟨m - 1,by omega,r,ak,rfl,by omega,v1,v2,by omega,V.moq (by omega)⟩
  ·exact Aa.intro ⟨Y,Z,ag.moq (by omega)⟩
theorem Vg{F k mx:Nat}{b:Dh}(ai:100<F)(hb:BG k b)(aA:k<100)(aB:1≤mx)(aC:mx≤8):Aa (f39 F b (mx:Int)) (fun r=>(∃n,n≤mx∧VJ n r.1)∧BG (k+301) r.2):=by
 unfold f39;refine Aa.b (LN (F:=F) hb (by omega) (by omega) (by omega) (by omega)) ?_;rintro⟨aj,au⟩ ⟨n1,n2,ak⟩;simp only at n1 n2 ak;obtain⟨n,rfl⟩:∃n:Nat,aj=(n:Int):=⟨aj.toNat,by omega⟩;have aD:1≤n:=by omega
 have al:n≤8:=by omega
 refine Aa.b (S:=fun r=>PJ n n r.2.2.2.1 r.2.2.2.2∧BG (k+301) (r.1,r.2.1,r.2.2.1)) ?_ ?_
 ·refine Aa.upto n (fun i st=>∃(N O:List (List Int)) (Y:Dh),st=(N,O,Y.1,Y.2.1,Y.2.2,(i:Int))∧PJ n i N O∧BG (k+1+30*i) Y) ⟨[],[],au,rfl,⟨rfl,rfl,fun q l aa=>by simp at aa,fun q l aa=>by simp at aa⟩,ak⟩ (by omega) ?_ ?_
  ·rintro i st hi ⟨N,O,Z,rfl,K,ab⟩;unfold JX;refine Aa.pos (by simp only;omega) ?_;refine Aa.AE ((n:Int) - 1) rfl (by omega) (by omega) ?_;refine Aa.AE ((i+1:Nat):Int) (by simp) (by omega) (by omega) ?_;refine Aa.b (Ia (F:=F) (b:=(Z.1,Z.2.1,Z.2.2)) ab (by omega) (by omega) (by omega)) ?_;rintro⟨o,aE⟩ ac;simp only at ac ⊢;have am:DK n [min ((n:Int) - 1) ((i+1:Nat):Int)]:=fun x U=>by simp at U;subst U;omega
   refine Aa.b (S:=fun r=>VL n r.1∧0<r.1.length∧BG (k+1+30*i+2) r.2) ?_ ?_
   ·refine Aa.ite (fun _=>?_) (fun _=>?_)
    ·refine Aa.AE ((n:Int) - 1) rfl (by omega) (by omega) ?_;refine Aa.b (LN (F:=F) ac (by omega) (by omega) (by omega) (by omega)) ?_;rintro⟨y,an⟩ ⟨ae,ag,V⟩;simp only at ae ag V ⊢;refine Aa.b (O8 (F:=F) ai am (by simp) ⟨by omega,by omega⟩) ?_;rintro r ⟨v1,v2,aF,v4⟩;exact Aa.intro ⟨v1,v2,V⟩
    ·exact Aa.intro ⟨⟨by simp,am,by simp⟩,by simp,BG.moq ac (by omega)⟩
   ·rintro⟨nx,an⟩ ⟨w1,w2,w3⟩;simp only at w1 w2 w3 ⊢;refine Aa.b (Ia (F:=F) (b:=an) w3 (by omega) (by omega) (by omega)) ?_;rintro⟨o2,aG⟩ ah;simp only at ah ⊢;refine Aa.b (S:=fun r=>VL n r.1∧0<r.1.length∧BG (k+1+30*i+4) r.2) ?_ ?_
    ·refine Aa.ite (fun _=>?_) (fun _=>?_)
     ·refine Aa.AE ((n:Int) - 1) rfl (by omega) (by omega) ?_;refine Aa.b (EI (F:=F) ah (by omega) (by omega)) ?_;rintro⟨y,ao⟩ ⟨ae,ag,V⟩;simp only at ae ag V ⊢;exact Aa.intro ⟨⟨by simp,fun x U=>by simp at U;subst U;omega,by simp⟩,by simp,V⟩
     ·exact Aa.intro ⟨w1,w2,BG.moq ah (by omega)⟩
    ·rintro⟨ap,ao⟩ ⟨u1,u2,aq⟩;simp only at u1 u2 aq ⊢;refine Aa.b (JN (F:=F) (b:=ao) aq (by omega) (by simp) (by simp)) ?_;rintro⟨c,av⟩ ⟨ar,c2⟩;simp only at ar c2 ⊢;have aw:c=0∨c=1∨c=2:=by simp at ar;omega
     refine Aa.b (Rj (F:=F) (b:=av) ai rfl rfl hi al c2 (by omega) aw) ?_;rintro⟨fl,ay⟩ ⟨t1,t2,t3⟩;simp only at t1 t2 t3 ⊢;have aH:=K.l1;have aI:=K.l2;refine Aa.be (b:=N++ [ap]) (if_pos (by simp;omega)) ?_;refine Aa.be (b:=O++ [fl]) (if_pos (by simp;omega)) ?_;refine Aa.AE ((i+1:Nat):Int) (by simp) (by omega) (by omega) ?_;exact Aa.intro ⟨N++ [ap],O++ [fl],ay,rfl,K.snoc ⟨u1,u2⟩ ⟨t1,t2⟩,t3.moq (by omega)⟩
  ·rintro st ⟨N,O,Z,rfl,K,ab⟩;unfold JX;refine Aa.neg (by simp) (Aa.intro ⟨_,rfl,K,ab.moq (by omega)⟩)
 ·rintro⟨aJ,aK,aL,N,O⟩ ⟨K,az⟩;refine Aa.intro ⟨⟨n,by omega,?_⟩,az⟩;exact⟨by omega,al,K.l1,K.l2,K.nx,K.fl⟩
end Pal
namespace Pal
open Go Go.Conc Go.Proofs
open Go.Proofs.Tryz
end Pal
namespace Pal
def FT(J:JW)(n a:Nat)(d:List Bool):Prop:=d.length=n∧∀m,m<n→d[m]? =some ((AG J a).testBit m)
def Mv(J:JW)(n a k:Nat)(d:List Bool):Prop:=d.length=n∧∀x:Nat,x<n→(d[x]? =some true↔∃m,m<k∧(AG J a).testBit m=true∧(x:Int)∈J.1.getD m [])
theorem Mv.due{n a:Nat}{J:JW}{d:List Bool}(O:VJ n J)(h:Mv J n a n d):FT J n (a+1) d:=by
 refine⟨h.1,fun x V=>?_⟩;have Y:x<d.length:=by rw [h.1];exact V
 rw [List.getElem?_eq_getElem Y];congr 1;have Z:=h.2 x V;rw [List.getElem?_eq_getElem Y,Option.some.injEq] at Z;have aa:=LJ O (AG J a) x;have e:d[x]=true↔(AG J (a+1)).testBit x=true:=by
  rw [Z];show _↔(Ex J.1 (AG J a)).testBit x=true;rw [aa];have ac:=O.le;constructor
  ·rintro⟨m,ab,K,U⟩;exact⟨m,by omega,K,U⟩
  ·rintro⟨m,ab,K,U⟩;exact⟨m,HT (GJ O a) K,K,U⟩
 cases ae:d[x] <;> cases ag:(AG J (a+1)).testBit x <;> simp_all
theorem Sl{d:List Bool}{q x:Nat}(K:q<d.length):(d.set q true)[x]? =some true↔d[x]? =some true∨x=q:=by
 by_cases e:q=x
 ·subst e;rw [List.getElem?_set_self K];simp
 ·rw [List.getElem?_set_ne e];constructor
  ·exact .inl
  ·rintro(h | h)
   ·exact h
   ·exact absurd h.symm e
end Pal
namespace Pal
open Go Go.Conc Go.Proofs
open Go.Proofs.Tryz
end Pal
namespace Pal
theorem VJ.Wa{n:Nat}{J:JW}(K:VJ n J)(m:Nat):VL n (J.2.getD m []):=by
 rw [List.getD_eq_getElem?_getD];cases h:J.2[m]? with
 | none=>exact⟨by simp,fun x O=>by simp at O,by simp⟩
 | some l=>exact(K.fl m l h).1
end Pal
namespace Pal
open Go Go.Conc Go.Proofs
open Go.Proofs.Tryz
variable {J:Judge Tryz.prog}{E:LH}
def Hv(fuel:Nat)(p0:JW2):Option (Int):= (f113 fuel p0).bind fun K=> (Ig fuel K).bind fun O=> some O
theorem f67e_w{a1:OAd}{c2:Nat}{a4:OAd}{c5:Nat}{p0:JW2}(hG:GE E)(h3:LsR (rL rI) E a1 c2 (p0.1))(h6:LsR (rL rI) E a4 c5 (p0.2)){fuel:Nat}{r:Int}(hD:Hv fuel p0=some r):Al J 67 [.agg #[sV a1 p0.1 c2,sV a4 p0.2 c5]] E [] (fun w E' B'=>w=iV r∧B'= []):=by
 refine Av func67 rfl rfl fun Q ai cs H hN O=>?_;unfold Hv at hD;refine zg 2 rfl ?_;refine JS.box (v:= .agg #[sV a1 p0.1 c2,sV a4 p0.2 c5]) rfl rfl rfl hN rfl fun aj U=>?_;refine JSfreezeB_ 1 U rfl fun ak K V Y=>?_;refine zg 4 rfl ?_;refine JLldN_ V q_aggT_ofunderlying24 q_szOf_oftype24 rfl rfl ?_;obtain⟨al,Z,aa⟩:=bs hD;refine JScl_ (O5 (h3.moq K) (h6.moq K) Z) rfl rfl (body_of func113 rfl) Y ?_;rintro am E15 _ hle16 ⟨_,rfl,rfl,ab⟩ ac;obtain⟨an,ae,ag⟩:=bs aa;refine JScz_ (LD (hG.moq (K.trq hle16)) ab ae) rfl rfl KM ac fun ao ah hN24=>?_;refine zg 2 rfl ?_;obtain rfl:=oi ag;refine Af func67 rfl rfl ?_;exact O _ _ _ _ ((K.trq hle16).trq ah) rfl ⟨rfl,rfl⟩ hN24
def Fu(fuel:Nat)(p0:JW2)(p1:LKL):Option (Int):= (f113 fuel p0).bind fun K=> if K.isSome=true then((Ig fuel K).bind fun x25=> some x25) else((f116 fuel p0 p1).bind fun O=> (Ig fuel O).bind fun U=> some U)
theorem f69e_w{a1:OAd}{c2:Nat}{a4:OAd}{c5:Nat}{a7:OAd}{c8:Nat}{p0:JW2}{p1:LKL}(hG:GE E)(h3:LsR (rL rI) E a1 c2 (p0.1))(h6:LsR (rL rI) E a4 c5 (p0.2))(h9:LsR rLK E a7 c8 (p1)){fuel:Nat}{r:Int}(hD:Fu fuel p0 p1=some r):Al J 69 [.agg #[sV a1 p0.1 c2,sV a4 p0.2 c5],sV a7 p1 c8] E [] (fun w E' B'=>w=iV r∧B'= []):=by
 refine Av func69 rfl rfl fun Q av cs H hN U=>?_;unfold Fu at hD;refine zg 2 rfl ?_;refine JS.box (v:= .agg #[sV a1 p0.1 c2,sV a4 p0.2 c5]) rfl rfl rfl hN rfl fun aw ab=>?_;refine JSfreezeB_ 1 ab rfl fun ay K V ac=>?_;refine zg 5 rfl ?_;refine JLldN_ V q_aggT_ofunderlying24 q_szOf_oftype24 rfl rfl ?_;obtain⟨ae,ag,ah⟩:=bs hD;refine JScl_ (O5 (h3.moq K) (h6.moq K) ag) rfl rfl (body_of func113 rfl) ac ?_;rintro az aA _ O ⟨_,rfl,rfl,Y⟩ Z;refine zg 5 rfl ?_;refine Ae (v:= .bool ae.isSome) rfl (fun ρ h=>Lt underlying149 Y (h _ _ rfl) (h _ _ rfl)) ?_;refine JL.done ?_;refine JLfj_ ah (fun ai aj=>?_) (fun ai ak=>?_)
 ·obtain⟨x25,hx25,hD26⟩:=bs aj;refine zg 3 rfl ?_;refine JScz_ (LD (hG.moq (K.trq O)) Y hx25) rfl rfl KM Z fun E27 hle28 hN29=>?_;refine zg 2 rfl ?_;obtain rfl:=oi hD26;refine Af func69 rfl rfl ?_;exact U _ _ _ _ ((K.trq O).trq hle28) rfl ⟨rfl,rfl⟩ hN29
 ·refine zg 3 rfl ?_;refine JLldN_ (V.moq O) q_aggT_ofunderlying24 q_szOf_oftype24 rfl rfl ?_;obtain⟨aB,al,am⟩:=bs ak;refine zg 1 rfl ?_;refine JScl_ (Uv (h3.moq (K.trq O)) (h6.moq (K.trq O)) (h9.moq (K.trq O)) al) rfl rfl (body_of func116 rfl) Z ?_;rintro aC aD _ aa ⟨_,rfl,rfl,an⟩ ao;obtain⟨aE,ap,aq⟩:=bs am;refine JScz_ (LD (hG.moq ((K.trq O).trq aa)) an ap) rfl rfl KM ao fun aF ar au=>?_;refine zg 2 rfl ?_;obtain rfl:=oi aq;refine Af func69 rfl rfl ?_;exact U _ _ _ _ (((K.trq O).trq aa).trq ar) rfl ⟨rfl,rfl⟩ au
def I3(fuel:Nat)(p1:List Int)(K:Int):Option (AH (Int) (((Option (A1))×Int)⊕(Unit))):= if K<((p1).length:Int) then((ix p1 (K)).bind fun O=> (f101 fuel O 0 12).bind fun U=> if U=true then(some (.done (Sum.inl (none,1)))) else((Ac (K+1)).bind fun x78=> some (.more x78))) else(some (.done (Sum.inr ())))
def FN(fuel:Nat)(p0:JW2)(p1:List Int):Option ((Option (A1))×Int):= (Hv fuel p0).bind fun K=> if K≠0 then(some (none,K)) else(Option.bind (iter (I3 fuel p1) fuel 0) fun x31=> Sum.elim (fun r=>some r) (fun O=> (f92 fuel p0).bind fun x39=> some (x39,0)) x31)
theorem LB{a1:OAd}{c2:Nat}{a4:OAd}{c5:Nat}{a7:OAd}{c8:Nat}{p0:JW2}{p1:List Int}(hG:GE E)(h3:LsR (rL rI) E a1 c2 (p0.1))(h6:LsR (rL rI) E a4 c5 (p0.2))(h9:LsR rI E a7 c8 (p1)){fuel:Nat}{r:(Option (A1))×Int}(hD:FN fuel p0 p1=some r):Al J 106 [.agg #[sV a1 p0.1 c2,sV a4 p0.2 c5],sV a7 p1 c8] E [] (fun w E' B'=>∃(ac:Value),w= .tuple #[ac,iV r.2]∧B'= []∧HB (rP (rL (rL rI)) (rP (rL (rL rI)) (rA 13 (rN .u16)))) E' ac (r.1)):=by
 refine Av func106 rfl rfl fun Q aT cs H hN Z=>?_;unfold FN at hD;refine zg 2 rfl ?_;refine JS.box (v:= .agg #[sV a1 p0.1 c2,sV a4 p0.2 c5]) rfl rfl rfl hN rfl fun ae ap=>?_;refine JSfreezeB_ 1 ap rfl fun aU K ag aq=>?_;refine zg 6 rfl ?_;refine JLldN_ ag q_aggT_ofunderlying24 q_szOf_oftype24 rfl rfl ?_;obtain⟨aV,ar,au⟩:=bs hD;refine JScz_ (f67e_w (hG.moq K) (h3.moq K) (h6.moq K) ar) rfl rfl (body_of func67 rfl) aq fun aa O ah=>?_;refine zg 7 rfl ?_;refine JLfi_ au (fun av aw=>?_) (fun av ay=>?_)
 ·refine zg 6 rfl ?_;obtain rfl:=oi aw;refine Af func106 rfl rfl ?_;exact Z _ _ _ _ (K.trq O) rfl ⟨.pointer none,rfl,rfl,rfl⟩ ah
 ·refine zg 5 rfl ?_;refine JLln_ underlying28 rfl rfl rfl ?_;obtain⟨x31,az,hD33⟩:=bs ay;refine zg 2 rfl ?_;refine JLjoin_ (fun L s=>∃(ai:Unit) (aj:LH),x31=Sum.inr ai∧Jm aa H aj [] [(2,pV ae 0)] L s) ?_ ?_
  ·rintro _ _ ⟨ai,aj,rfl,rfl,rfl,U,aA⟩;have hD38:=elim_inr hD33;refine zg 2 rfl ?_;refine JLldN_ (ag.moq (O.trq U)) q_aggT_ofunderlying24 q_szOf_oftype24 rfl rfl ?_;obtain⟨x39,hx39,hD40⟩:=bs hD38;refine JScl_ (Kj (h3.moq ((K.trq O).trq U)) (h6.moq ((K.trq O).trq U)) hx39) rfl rfl IM aA ?_;rintro aB E41 _ hle42 ⟨_,rfl,rfl,aC⟩ hN43;refine zg 3 rfl ?_;obtain rfl:=oi hD40;refine Af func106 rfl rfl ?_;exact Z _ _ _ _ (((K.trq O).trq U).trq hle42) rfl ⟨aB,rfl,rfl,aC⟩ hN43
  ·intro aD;refine JL.block ?_;refine JLlw_ az (fun L s ak=>∃(ab:LH),Jm aa H ab [] [(2,pV ae 0),(14,sV a7 p1 c8),(15,iV ((p1).length:Int)),(16,iV ak)] L s) ⟨aa,rfl,rfl,lR_,ah⟩ ?_;rintro _ _ ak ⟨ab,rfl,rfl,V,al⟩ am ⟨aW,Y⟩ aE;have hD57:=Y;unfold I3 at hD57;refine zg 5 rfl ?_;refine JLfi_ hD57 (fun aF aG=>?_) (fun aF aH=>?_)
   ·obtain⟨aX,aI,aJ⟩:=bs aG;refine zg 5 rfl ?_;refine Bp (h9.moq ((K.trq O).trq V)) aI rfl rfl rfl rfl rfl underlying28 q_szOf_oftype3 ?_;rintro aY aZ _ rfl aK;refine Aw 0 aK q_aggT_ofunderlying3 rfl rfl rfl ?_;obtain⟨a0,aL,aM⟩:=bs aJ;refine zg 5 rfl ?_;refine JScz_ (Gf aL) rfl rfl F0 al fun aN an ao=>?_;refine JL.done ?_;refine JLfj_ aM (fun aO aP=>?_) (fun aO aQ=>?_)
    ·refine zg 5 rfl ?_;obtain rfl:=oi aP;obtain rfl:=am _ Y;have aR:=elim_inl hD33;obtain rfl:=oi aR;refine Af func106 rfl rfl ?_;exact Z _ _ _ _ (((K.trq O).trq V).trq an) rfl ⟨.pointer none,rfl,rfl,rfl⟩ ao
    ·obtain⟨x78,hx78,hD79⟩:=bs aQ;refine zg 3 rfl ?_;refine JLaC_ hx78 rfl rfl rfl ?_;refine zg 2 rfl ?_;obtain rfl:=oi hD79;exact JLkw_ (aE _ _ x78 ⟨aN,rfl,rfl,(V.trq an),ao⟩ Y) rfl
   ·refine JL.exit rfl ?_;obtain rfl:=oi aH;have aS:x31=(Sum.inr ()):=(am _ Y).symm;exact JLkw_ (aD _ _ ⟨(),ab,aS,rfl,rfl,V,al⟩) rfl
def Hu(fuel:Nat)(p0:JW2)(p1:Int):Option ((List Int)×Int):= (FN fuel p0 ([p1]:List Int)).bind fun K=> if K.2≠0 then(some ([],K.2)) else((K.1).bind fun O=> (ix O.2.2 (p1)).bind fun U=> (f89 fuel U).bind fun V=> some (V,0))
theorem f51e_w{a1:OAd}{c2:Nat}{a4:OAd}{c5:Nat}{p0:JW2}{p1:Int}(hG:GE E)(h3:LsR (rL rI) E a1 c2 (p0.1))(h6:LsR (rL rI) E a4 c5 (p0.2)){fuel:Nat}{r:(List Int)×Int}(hD:Hu fuel p0 p1=some r):Al J 51 [.agg #[sV a1 p0.1 c2,sV a4 p0.2 c5],iV p1] E [] (fun w E' B'=>∃(U:OAd) (V:Nat),w= .tuple #[sV U r.1 V,iV r.2]∧B'= []∧LsR rI E' U V (r.1)):=by
 refine Av func51 rfl rfl fun Q aM cs H hN Y=>?_;unfold Hu at hD;refine zg 2 rfl ?_;refine JS.box (v:= .agg #[sV a1 p0.1 c2,sV a4 p0.2 c5]) rfl rfl rfl hN rfl fun aN ae=>?_;refine JSfreezeB_ 1 ae rfl fun aO K ag ah=>?_;refine zg 5 rfl ?_;refine JLldN_ ag q_aggT_ofunderlying24 q_szOf_oftype24 rfl rfl ?_;refine zg 1 rfl ?_;refine JSlit_ (pp:=rI) [iV p1] [p1] rfl rfl rfl underlying28 q_szOf_oftype3 q_zeroOf_oftype3 (by decide) rfl rfl rfl ⟨rfl,trivial⟩ ah fun aP aQ ai aj=>?_;refine JSfreezeL_ 2 ai aj rfl fun aR O ak al=>?_;obtain⟨aS,am,an⟩:=bs hD;refine JScl_ (LB (hG.moq (K.trq O)) (h3.moq (K.trq O)) (h6.moq (K.trq O)) ak am) rfl rfl KF al ?_;rintro _ aT _ Z ⟨aU,rfl,rfl,ao⟩ aa;refine zg 12 rfl ?_;refine JLfi_ an (fun ap aq=>?_) (fun ap hD33=>?_)
 ·refine zg 6 rfl ?_;obtain rfl:=oi aq;refine Af func51 rfl rfl ?_;exact Y _ _ _ _ ((K.trq O).trq Z) rfl ⟨none,0,rfl,rfl,LsR.nil⟩ aa
 ·obtain⟨ab,ar,au⟩:=bs hD33;have ac:=ao;refine zg 5 rfl ?_;rw [ar] at ac;obtain⟨aV,aW,_,rfl,av,⟨_,_,rfl,⟨aw,ay,rfl,aX⟩,⟨_,aY,rfl,⟨az,aA,rfl,aZ⟩,aB⟩⟩⟩:=ac;refine zg 1 rfl ?_;refine Ar underlying141 DD rfl rfl rfl ?_;obtain⟨a0,aC,aD⟩:=bs au;refine Lz (l:= [sV aw ab.1 ay,sV az ab.2.1 aA]) av aB aC rfl rfl rfl rfl rfl underlying139 EZ ?_;rintro a2 _ rfl aE;refine Ar underlying138 Cq rfl rfl rfl ?_;refine Aw 0 aE Ek rfl rfl rfl ?_;obtain⟨a3,aF,aG⟩:=bs aD;refine JScl_ (GH aF) rfl rfl Gp aa ?_;rintro _ a5 _ aH ⟨aI,aJ,rfl,rfl,aK⟩ aL;refine zg 3 rfl ?_;obtain rfl:=oi aG;refine Af func51 rfl rfl ?_;exact Y _ _ _ _ (((K.trq O).trq Z).trq aH) rfl ⟨aI,aJ,rfl,rfl,aK⟩ aL
def Jw(fuel:Nat)(p1:Int)(K:A1)(x78:(List Int)×Int):Option (AH ((List Int)×Int) ((List Int))):= if x78.2<13 then((ix K.2.2 (x78.2)).bind fun O=> (f103 fuel O p1).bind fun U=> Option.bind (if U=true then((room x78.1 x78.2).bind fun V=> some V) else(some x78.1)) fun Y=> (Ac (x78.2+1)).bind fun Z=> some (.more (Y,Z))) else(some (.done x78.1))
def Im(fuel:Nat)(p0:JW2)(p1:Int):Option ((List Int)×Int):= (FN fuel p0 ([])).bind fun K=> if K.2≠0 then(some ([],K.2)) else((Ac (((p0.1).length:Int) - 1)).bind fun O=> (f101 fuel p1 0 O).bind fun U=> if U=true then(some ([],3)) else((K.1).bind fun V=> Option.bind (iter (Jw fuel p1 V) fuel ([],0)) fun Y=> some (Y,0)))
theorem f65e_w{a1:OAd}{c2:Nat}{a4:OAd}{c5:Nat}{p0:JW2}{p1:Int}(hG:GE E)(h3:LsR (rL rI) E a1 c2 (p0.1))(h6:LsR (rL rI) E a4 c5 (p0.2)){fuel:Nat}{r:(List Int)×Int}(hD:Im fuel p0 p1=some r):Al J 65 [.agg #[sV a1 p0.1 c2,sV a4 p0.2 c5],iV p1] E [] (fun w E' B'=>∃(aw:OAd) (ay:Nat),w= .tuple #[sV aw r.1 ay,iV r.2]∧B'= []∧LsR rI E' aw ay (r.1)):=by
 refine Av func65 rfl rfl fun Q bN cs H hN ah=>?_;unfold Im at hD;refine zg 2 rfl ?_;refine JS.box (v:= .agg #[sV a1 p0.1 c2,sV a4 p0.2 c5]) rfl rfl rfl hN rfl fun bO aJ=>?_;refine JSfreezeB_ 1 aJ rfl fun bP K az aK=>?_;refine zg 5 rfl ?_;refine JLldN_ az q_aggT_ofunderlying24 q_szOf_oftype24 rfl rfl ?_;obtain⟨bQ,aL,aM⟩:=bs hD;refine JScl_ (LB (hG.moq K) (h3.moq K) (h6.moq K) LsR.nil aL) rfl rfl KF aK ?_;rintro _ E15 _ hle16 ⟨bR,rfl,rfl,aN⟩ aA;refine zg 12 rfl ?_;refine JLfi_ aM (fun aO aP=>?_) (fun aO aQ=>?_)
 ·refine zg 6 rfl ?_;obtain rfl:=oi aP;refine Af func65 rfl rfl ?_;exact ah _ _ _ _ (K.trq hle16) rfl ⟨none,0,rfl,rfl,LsR.nil⟩ aA
 ·refine zg 5 rfl ?_;refine Ar underlying24 A6 rfl rfl rfl ?_;refine Aw 0 (az.moq hle16) Br rfl rfl rfl ?_;refine JLln_ underlying22 rfl rfl rfl ?_;obtain⟨bS,aR,aS⟩:=bs aQ;refine A9 aR rfl rfl rfl ?_;obtain⟨bT,aT,aU⟩:=bs aS;refine JScz_ (Gf aT) rfl rfl F0 aA fun ai aj aB=>?_;refine JL.done ?_;refine JLfj_ aU (fun aV hD33=>?_) (fun aV aW=>?_)
  ·refine zg 5 rfl ?_;obtain rfl:=oi hD33;refine Af func65 rfl rfl ?_;exact ah _ _ _ _ ((K.trq hle16).trq aj) rfl ⟨none,0,rfl,rfl,LsR.nil⟩ aB
  ·obtain⟨aC,aX,aY⟩:=bs aW;have aD:=(aN.moq aj);refine zg 9 rfl ?_;rw [aX] at aD;obtain⟨bU,bV,_,rfl,aZ,⟨_,_,rfl,⟨a0,a2,rfl,bW⟩,⟨_,ak,rfl,⟨a3,a5,rfl,bX⟩,aE⟩⟩⟩:=aD;refine zg 1 rfl ?_;refine Ar underlying141 DD rfl rfl rfl ?_;refine Ae (v:= .agg ak.toArray) rfl (fun ρ h=>G5 aE HI DD (h _ _ rfl) (At.Pj (At.tail (l:= [sV a0 aC.1 a2,sV a3 aC.2.1 a5]) aZ))) ?_;obtain⟨aF,a6,a8⟩:=bs aY;refine zg 2 rfl ?_;refine JLjoin_ (fun L s=>∃(al:LH) (Y:OAd) (Z:Nat) (am:Seg),Jn ai H al [am] [(8,sV Y aF Z)] L s (OL 3 rI al Y Z am (aF))) ?_ ?_
   ·rintro _ _ ⟨al,Y,Z,am,rfl,rfl,a9,ba,bb⟩;refine zg 6 rfl ?_;refine JSfreezeL_ 0 bb ba rfl fun bY bc h74 bd=>?_;obtain rfl:=oi a8;refine Af func65 rfl rfl ?_;exact ah _ _ _ _ ((((K.trq hle16).trq aj).trq a9).trq bc) rfl ⟨Y,Z,rfl,rfl,h74⟩ bd
   ·intro bf;refine JL.block ?_;refine JLlw_ a6 (fun L s x78=>∃(aa:LH) (O:OAd) (U:Nat) (V:Seg),Jn ai H aa [V] [(1,iV p1),(8,sV O x78.1 U),(28,.agg ak.toArray),(29,iV x78.2)] L s (OL 3 rI aa O U V (x78.1))) ⟨ai,none,0,[],rfl,rfl,lR_,aB,OL.nil⟩ ?_;rintro _ _ x78 ⟨aa,O,U,V,rfl,rfl,an,aG,ao⟩ bg ⟨bZ,ap⟩ bh;have hD91:=ap;unfold Jw at hD91;refine zg 5 rfl ?_;refine JLfi_ hD91 (fun bi bj=>?_) (fun bi hD139=>?_)
    ·obtain⟨bk,bl,bm⟩:=bs bj;refine zg 6 rfl ?_;refine Pp (Rp.moq _ an aE) bl rfl rfl rfl rfl rfl underlying139 EZ (BZ underlying138) ?_ (by intro h;cases h);rintro _ rfl;refine JS.alloc rfl rfl rfl aG (BY type138) fun b0 bn=>?_;refine zg 1 rfl ?_;refine JSst_ (v:= .agg #[.int .u16 ((bk:Nat):Int)]) (off:=0) 1 bn EZ rfl rfl rfl rfl fun bo=>?_;refine JSfreezeB_ 1 bo rfl fun b1 aq bp bq=>?_;refine zg 3 rfl ?_;refine Ar underlying138 Cq rfl rfl rfl ?_;refine Aw 0 bp Ek rfl rfl rfl ?_;obtain⟨b2,br,bu⟩:=bs bm;refine zg 1 rfl ?_;refine JScz_ (JJ br) rfl rfl II bq fun ar au aH=>?_;obtain⟨av,bv,bw⟩:=bs bu;refine JL.done ?_;refine JLjoin_ (fun L s=>∃(ab:LH) (ac:OAd) (ae:Nat) (ag:Seg),Jn ar H ab [ag] [(1,iV p1),(8,sV ac av ae),(28,.agg ak.toArray),(29,iV x78.2)] L s (OL 3 rI ab ac ae ag (av))) ?_ ?_
     ·rintro _ _ ⟨ab,ac,ae,ag,rfl,rfl,bx,hN115,bz⟩;obtain⟨bA,bB,bC⟩:=bs bw;refine zg 2 rfl ?_;refine JLaC_ bB rfl rfl rfl ?_;refine zg 2 rfl ?_;obtain rfl:=oi bC;exact JLkw_ (bh _ _ (av,bA) ⟨ab,ac,ae,ag,rfl,rfl,(((an.trq aq).trq au).trq bx),hN115,bz⟩ ap) rfl
     ·intro aI;refine JLfj_ bv (fun bD bE=>?_) (fun bD bF=>?_)
      ·obtain⟨b3,bG,bH⟩:=bs bE;refine zg 3 rfl ?_;refine JS.app (pp:=rI) (v:=iV x78.2) (a:=O) (c:=U) 0 bG rfl rfl rfl rfl (fun _=>rfl) rfl (fun _=>rfl) rfl rfl rfl underlying28 underlying28 underlying28 q_szOf_oftype3 (Bz type3) q_zeroOf_oftype3 rfl (by decide) (by decide) (by decide) (by decide) (ao.moq (aq.trq au)) rfl aH rfl fun b4 bI bJ bK bL bM=>?_;refine zg 2 rfl ?_;obtain rfl:=oi bH;exact JLkw_ (aI _ _ ⟨ar,bI,bJ,bK,rfl,rfl,lR_,bM,bL⟩) rfl
      ·refine JL.skip ?_;obtain rfl:=oi bF;exact JLkw_ (aI _ _ ⟨ar,O,U,V,rfl,rfl,lR_,aH,(ao.moq (aq.trq au))⟩) rfl
    ·refine JL.exit rfl ?_;obtain rfl:=oi hD139;obtain rfl:=bg _ ap;exact JLkw_ (bf _ _ ⟨aa,O,U,V,rfl,rfl,an,aG,ao⟩) rfl
def Ov(fuel:Nat)(p1:Int)(O:A1)(K:Int):Option (AH (Int) (Int)):= (f109 fuel O p1 K).bind fun U=> if(!U)=true then((Ac (K+1)).bind fun x78=> some (.more x78)) else(some (.done K))
def Mc(fuel:Nat)(p0:JW2)(p1:Int):Option (Int×Int):= (FN fuel p0 ([p1]:List Int)).bind fun K=> if K.2≠0 then(some (0,K.2)) else((K.1).bind fun O=> Option.bind (iter (Ov fuel p1 O) fuel 0) fun U=> some (U,0))
theorem UA{a1:OAd}{c2:Nat}{a4:OAd}{c5:Nat}{p0:JW2}{p1:Int}(hG:GE E)(h3:LsR (rL rI) E a1 c2 (p0.1))(h6:LsR (rL rI) E a4 c5 (p0.2)){fuel:Nat}{r:Int×Int}(hD:Mc fuel p0 p1=some r):Al J 57 [.agg #[sV a1 p0.1 c2,sV a4 p0.2 c5],iV p1] E [] (fun w E' B'=>w= .tuple #[iV r.1,iV r.2]∧B'= []):=by
 refine Av func57 rfl rfl fun Q aY cs H hN Z=>?_;unfold Mc at hD;refine zg 2 rfl ?_;refine JS.box (v:= .agg #[sV a1 p0.1 c2,sV a4 p0.2 c5]) rfl rfl rfl hN rfl fun aZ am=>?_;refine JSfreezeB_ 1 am rfl fun a0 O an ao=>?_;refine zg 5 rfl ?_;refine JLldN_ an q_aggT_ofunderlying24 q_szOf_oftype24 rfl rfl ?_;refine zg 1 rfl ?_;refine JSlit_ (pp:=rI) [iV p1] [p1] rfl rfl rfl underlying28 q_szOf_oftype3 q_zeroOf_oftype3 (by decide) rfl rfl rfl ⟨rfl,trivial⟩ ao fun a2 a3 ap aq=>?_;refine JSfreezeL_ 2 ap aq rfl fun a5 U ar au=>?_;obtain⟨a6,av,aw⟩:=bs hD;refine JScl_ (LB (hG.moq (O.trq U)) (h3.moq (O.trq U)) (h6.moq (O.trq U)) ar av) rfl rfl KF au ?_;rintro _ V _ aa ⟨a8,rfl,rfl,ay⟩ ab;refine zg 12 rfl ?_;refine JLfi_ aw (fun az aA=>?_) (fun az hD33=>?_)
 ·refine zg 6 rfl ?_;obtain rfl:=oi aA;refine Af func57 rfl rfl ?_;exact Z _ _ _ _ ((O.trq U).trq aa) rfl ⟨rfl,rfl⟩ ab
 ·obtain⟨a9,aB,aC⟩:=bs hD33;have ac:=ay;refine zg 6 rfl ?_;rw [aB] at ac;obtain⟨aD,aE,_,rfl,aF,⟨_,_,rfl,⟨ba,bb,rfl,aG⟩,⟨_,bc,rfl,⟨bd,bf,rfl,aH⟩,aI⟩⟩⟩:=ac;obtain⟨aJ,aK,aL⟩:=bs aC;refine JLjoin_ (fun L s=>∃(ae:LH),Jm V H ae [] [(8,iV aJ)] L s) ?_ ?_
  ·rintro _ _ ⟨ae,rfl,rfl,aM,aN⟩;refine zg 6 rfl ?_;obtain rfl:=oi aL;refine Af func57 rfl rfl ?_;exact Z _ _ _ _ (((O.trq U).trq aa).trq aM) rfl ⟨rfl,rfl⟩ aN
  ·intro aO;refine JL.block ?_;refine JLlw_ aK (fun L s ag=>∃(ah:LH),Jm V H ah [] [(1,iV p1),(6,pV aD aE),(8,iV ag)] L s) ⟨V,rfl,rfl,lR_,ab⟩ ?_;rintro _ _ ag ⟨ah,rfl,rfl,K,aP⟩ aQ ⟨bg,Y⟩ aR;have ai:=Y;unfold Ov at ai;obtain⟨aS,aT,aU⟩:=bs ai;refine zg 6 rfl ?_;refine JScz_ (VD (aF.moq K) (aG.moq K) (aH.moq K) (Rp.moq _ K aI) aT) rfl rfl (body_of func109 rfl) aP fun aj ak al=>?_;refine Ae (v:= .bool (!aS)) rfl (fun ρ h=>Yl.not (h _ _ rfl)) ?_;refine JL.done ?_;refine JLfj_ aU (fun aV aW=>?_) (fun aV aX=>?_)
   ·obtain⟨x78,hx78,hD79⟩:=bs aW;refine zg 4 rfl ?_;refine JLaC_ hx78 rfl rfl rfl ?_;refine zg 3 rfl ?_;obtain rfl:=oi hD79;exact JLkw_ (aR _ _ x78 ⟨aj,rfl,rfl,(K.trq ak),al⟩ Y) rfl
   ·refine JL.exit rfl ?_;obtain rfl:=oi aX;obtain rfl:=aQ _ Y;exact JLkw_ (aO _ _ ⟨aj,rfl,rfl,(K.trq ak),al⟩) rfl
end Pal
namespace Pal
open Go Go.Conc Go.Proofs
open Go.Proofs.Tryz
def Hr(fuel:Nat)(p0:JW2)(p1:LKL)(p2:Int)(p3:Bool):Option ((Option (A1))×(Int×(List (Bb)))×Int):= (Fu fuel p0 p1).bind fun O=> if O≠0 then(some (none,(0,[]),O)) else((Ac (((p1).length:Int) - 1)).bind fun x31=> (f101 fuel p2 (-1) x31).bind fun V=> if V=true then(some (none,(0,[]),3)) else((f92 fuel p0).bind fun Y=> (Y).bind fun U=> (f93 fuel U p1).bind fun K=> Option.bind (if((K.2).length:Int)=0 then(some (!p3)) else(some false)) fun Z=> if Z=true then(some (none,K,11)) else(some (some U,K,0))))
theorem JR{E:LH}{a1:OAd}{c2:Nat}{a4:OAd}{c5:Nat}{a7:OAd}{c8:Nat}{p0:JW2}{p1:LKL}{p2:Int}{p3:Bool}(hG:GE E)(h3:LsR (rL rI) E a1 c2 (p0.1))(h6:LsR (rL rI) E a4 c5 (p0.2))(h9:LsR rLK E a7 c8 (p1)){fuel:Nat}{r:(Option (A1))×(Int×(List (Bb)))×Int}(hD:Hr fuel p0 p1 p2 p3=some r):Al (mainWay Tryz.prog) 78 [.agg #[sV a1 p0.1 c2,sV a4 p0.2 c5],sV a7 p1 c8,iV p2,.bool p3] E [] (fun w E' B'=>∃(al:Value) (am:OAd) (an:Nat),w= .tuple #[al,.agg #[iV r.2.1.1,sV am r.2.1.2 an],iV r.2.2]∧B'= []∧HB (rP (rL (rL rI)) (rP (rL (rL rI)) (rA 13 (rN .u16)))) E' al (r.1)∧LsR BP E' am an (r.2.1.2)):=by
 refine Av func78 rfl rfl fun Q bu cs H hN ac=>?_;unfold Hr at hD;refine zg 2 rfl ?_;refine JS.box (v:= .agg #[sV a1 p0.1 c2,sV a4 p0.2 c5]) rfl rfl rfl hN rfl fun bv aM=>?_;refine JSfreezeB_ 1 aM rfl fun bw O ao aN=>?_;refine zg 1 rfl ?_;refine JS.alloc rfl rfl rfl aN D5 fun ap aO=>?_;refine zg 5 rfl ?_;refine JLldN_ ao q_aggT_ofunderlying24 q_szOf_oftype24 rfl rfl ?_;obtain⟨aq,aP,aQ⟩:=bs hD;refine zg 1 rfl ?_;refine JScz_ (f69e_w (hG.moq O) (h3.moq O) (h6.moq O) (h9.moq O) aP) rfl rfl q_body_offunc69rfl aO fun E21 hle22 ar=>?_;refine zg 7 rfl ?_;refine JLfi_ aQ (fun aR hD26=>?_) (fun aR aS=>?_)
 ·refine zg 2 rfl ?_;refine Ae (v:= .agg #[iV 0,.slice none 0 0]) rfl (fun ρ h=>BJ [(0,1),(1,1)] h D5 underlying97 ⟨rfl,AL type3,rfl,AL type95,trivial⟩ rfl rfl) ?_;refine zg 2 rfl ?_;refine JSst_ (v:= .agg #[iV 0,.slice none 0 0]) (off:=0) 2 ar BR rfl rfl rfl rfl fun au=>?_;refine zg 2 rfl ?_;obtain rfl:=oi hD26;refine JL.ret (v:= .tuple #[.pointer none,.agg #[iV 0,.slice none 0 0],iV aq]) rfl rfl (Bc.list func78 rfl (vs:= [.pointer none,.agg #[iV 0,.slice none 0 0],iV aq]) ⟨rfl,⟨_,rfl,Ld.many (vs:= [iV 0,.slice none 0 0]) FZ BR (DT (off:=0) 2 au rfl rfl)⟩,rfl,trivial⟩) ?_;refine Gd 2 au rfl fun hN29=>?_;exact ac _ _ _ _ (O.trq hle22) rfl ⟨.pointer none,none,0,rfl,rfl,rfl,LsR.nil⟩ hN29
 ·refine zg 6 rfl ?_;refine JLln_ underlying25 rfl rfl rfl ?_;obtain⟨x31,aT,aU⟩:=bs aS;refine A9 aT rfl rfl rfl ?_;obtain⟨bx,aV,aW⟩:=bs aU;refine JScz_ (Gf aV) rfl rfl F0 ar fun bz aa av=>?_;refine JL.done ?_;refine JLfj_ aW (fun aX aY=>?_) (fun aX aZ=>?_)
  ·refine zg 2 rfl ?_;refine Ae (v:= .agg #[iV 0,.slice none 0 0]) rfl (fun ρ h=>BJ [(0,1),(1,1)] h D5 underlying97 ⟨rfl,AL type3,rfl,AL type95,trivial⟩ rfl rfl) ?_;refine zg 1 rfl ?_;refine JSst_ (v:= .agg #[iV 0,.slice none 0 0]) (off:=0) 2 av BR rfl rfl rfl rfl fun aw=>?_;refine zg 2 rfl ?_;obtain rfl:=oi aY;refine JL.ret (v:= .tuple #[.pointer none,.agg #[iV 0,.slice none 0 0],iV 3]) rfl rfl (Bc.list func78 rfl (vs:= [.pointer none,.agg #[iV 0,.slice none 0 0],iV 3]) ⟨rfl,⟨_,rfl,Ld.many (vs:= [iV 0,.slice none 0 0]) FZ BR (DT (off:=0) 2 aw rfl rfl)⟩,rfl,trivial⟩) ?_;refine Gd 2 aw rfl fun a0=>?_;exact ac _ _ _ _ ((O.trq hle22).trq aa) rfl ⟨.pointer none,none,0,rfl,rfl,rfl,LsR.nil⟩ a0
  ·refine zg 3 rfl ?_;refine JLldN_ (ao.moq (hle22.trq aa)) q_aggT_ofunderlying24 q_szOf_oftype24 rfl rfl ?_;obtain⟨bA,a2,hD45⟩:=bs aZ;refine JScl_ (Kj (h3.moq ((O.trq hle22).trq aa)) (h6.moq ((O.trq hle22).trq aa)) a2) rfl rfl IM av ?_;rintro bB bC _ ah ⟨_,rfl,rfl,a3⟩ a5;obtain⟨ai,a6,a8⟩:=bs hD45;have ay:=a3;refine zg 6 rfl ?_;rw [a6] at ay;obtain⟨ae,ag,_,rfl,az,⟨_,_,rfl,⟨a9,ba,rfl,aA⟩,⟨_,aB,rfl,⟨aC,aD,rfl,aE⟩,h63⟩⟩⟩:=ay;obtain⟨K,bb,bc⟩:=bs a8;refine JScl_ (Ke az aA aE h63 (h9.moq (((O.trq hle22).trq aa).trq ah)) bb) rfl rfl IK a5 ?_;rintro _ bD _ ab ⟨U,V,rfl,rfl,aF⟩ bd;refine JS.alloc rfl rfl rfl bd D5 fun bf bg=>?_;refine JSst_ (v:= .agg #[iV K.1,sV U K.2 V]) (off:=0) 7 bg BR rfl rfl rfl rfl fun bh=>?_;refine JSfreezeB_ 7 bh rfl fun aj Z ak aG=>?_;refine zg 4 rfl ?_;refine Ar underlying97 BX rfl rfl rfl ?_;refine Aw 1 ak CY rfl rfl rfl ?_;refine JLln_ underlying95 rfl rfl rfl ?_;obtain⟨bi,bj,bk⟩:=bs bc;refine zg 2 rfl ?_;refine JLjoinR_ [] (fun L s=>∃(aH:LH),Jm aj H aH [[(ap,.cells #[iV 0,.slice none 0 0] 97 (0,0))]] [(9,pV ap 0),(12,pV ae ag),(13,pV bf 0),(39,.bool bi)] L s) ?_ ?_
   ·rintro _ _ ⟨aH,rfl,rfl,Y,aI⟩;refine JL.done ?_;refine JLfj_ bk (fun bl bm=>?_) (fun bl bn=>?_)
    ·refine JL.seq ?_;refine JGd0_ 2 fun ht=>?_;refine JGldN_ 0 ht (ak.moq Y) FZ BR rfl rfl rfl ?_;refine JGmv_ 1 ht rfl rfl ?_;refine JALlf_ [2,3] ?_;refine JSst_ (v:= .agg #[iV K.1,sV U K.2 V]) (off:=0) 0 aI BR rfl rfl rfl rfl fun aJ=>?_;refine zg 2 rfl ?_;obtain rfl:=oi bm;refine JL.ret (v:= .tuple #[.pointer none,.agg #[iV K.1,sV U K.2 V],iV 11]) rfl rfl (Bc.list func78 rfl (vs:= [.pointer none,.agg #[iV K.1,sV U K.2 V],iV 11]) ⟨rfl,⟨_,rfl,Ld.many (vs:= [iV K.1,sV U K.2 V]) FZ BR (DT (off:=0) 0 aJ rfl rfl)⟩,rfl,trivial⟩) ?_;refine Gd 0 aJ rfl fun bo=>?_;exact ac _ _ _ _ ((((((O.trq hle22).trq aa).trq ah).trq ab).trq Z).trq Y) rfl ⟨.pointer none,U,V,rfl,rfl,rfl,(aF.moq (Z.trq Y))⟩ bo
    ·refine zg 2 rfl ?_;refine JGd0_ 3 fun ht=>?_;refine JGmv_ 0 ht rfl rfl ?_;refine JGldN_ 1 ht (ak.moq Y) FZ BR rfl rfl rfl ?_;refine JGmv_ 2 ht rfl rfl ?_;refine JALlf_ [3,4] ?_;refine JSst_ (v:= .agg #[iV K.1,sV U K.2 V]) (off:=0) 0 aI BR rfl rfl rfl rfl fun aK=>?_;refine zg 2 rfl ?_;obtain rfl:=oi bn;refine JL.ret (v:= .tuple #[pV ae ag,.agg #[iV K.1,sV U K.2 V],iV 0]) rfl rfl (Bc.list func78 rfl (vs:= [pV ae ag,.agg #[iV K.1,sV U K.2 V],iV 0]) ⟨rfl,⟨_,rfl,Ld.many (vs:= [iV K.1,sV U K.2 V]) FZ BR (DT (off:=0) 0 aK rfl rfl)⟩,rfl,trivial⟩) ?_;refine Gd 0 aK rfl fun bp=>?_;exact ac _ _ _ _ ((((((O.trq hle22).trq aa).trq ah).trq ab).trq Z).trq Y) rfl ⟨pV ae ag,U,V,rfl,rfl,⟨_,_,_,rfl,(az.moq ((ab.trq Z).trq Y)),⟨[sV a9 ai.1 ba],(([sV aC ai.2.1 aD]:List Value)++aB),rfl,⟨_,_,rfl,(aA.moq ((ab.trq Z).trq Y))⟩,⟨[sV aC ai.2.1 aD],aB,rfl,⟨_,_,rfl,(aE.moq ((ab.trq Z).trq Y))⟩,(Rp.moq _ ((ab.trq Z).trq Y) h63)⟩⟩⟩,(aF.moq (Z.trq Y))⟩ bp
   ·intro aL;refine C3 36 bj (fun bq br=>?_) (fun bq hD104=>?_)
    ·refine zg 1 rfl ?_;refine Ae (v:= .bool (!p3)) rfl (fun ρ h=>Yl.not (h _ _ rfl)) ?_;refine zg 1 rfl ?_;obtain rfl:=oi br;exact JLkw_ (aL _ _ ⟨aj,rfl,rfl,lR_,aG⟩) rfl
    ·refine zg 3 rfl ?_;obtain rfl:=oi hD104;exact JLkw_ (aL _ _ ⟨aj,rfl,rfl,lR_,aG⟩) rfl
def Ml(fuel:Nat)(p0:JW2)(p1:LKL):Option (Int×Int):= (Hr fuel p0 p1 (-1) true).bind fun K=> some (((K.2.1.2).length:Int),K.2.2)
theorem Uq{E:LH}{a1:OAd}{c2:Nat}{a4:OAd}{c5:Nat}{a7:OAd}{c8:Nat}{p0:JW2}{p1:LKL}(hG:GE E)(h3:LsR (rL rI) E a1 c2 (p0.1))(h6:LsR (rL rI) E a4 c5 (p0.2))(h9:LsR rLK E a7 c8 (p1)){fuel:Nat}{r:Int×Int}(hD:Ml fuel p0 p1=some r):Al (mainWay Tryz.prog) 28 [.agg #[sV a1 p0.1 c2,sV a4 p0.2 c5],sV a7 p1 c8] E [] (fun w E' B'=>w= .tuple #[iV r.1,iV r.2]∧B'= []):=by
 refine Av func28 rfl rfl fun Q an cs H hN U=>?_;unfold Ml at hD;refine zg 2 rfl ?_;refine JS.box (v:= .agg #[sV a1 p0.1 c2,sV a4 p0.2 c5]) rfl rfl rfl hN rfl fun ao V=>?_;refine JSfreezeB_ 1 V rfl fun ap K Y Z=>?_;refine zg 5 rfl ?_;refine JLldN_ Y q_aggT_ofunderlying24 q_szOf_oftype24 rfl rfl ?_;obtain⟨O,aa,ab⟩:=bs hD;refine zg 1 rfl ?_;refine JScl_ (JR (hG.moq K) (h3.moq K) (h6.moq K) (h9.moq K) aa) rfl rfl IL Z ?_;rintro _ aq _ ac ⟨ar,ae,ag,rfl,rfl,au,av⟩ ah;refine zg 4 rfl ?_;refine JS.alloc rfl rfl rfl ah D5 fun aw ai=>?_;refine zg 1 rfl ?_;refine JSst_ (v:= .agg #[iV O.2.1.1,sV ae O.2.1.2 ag]) (off:=0) 3 ai BR rfl rfl rfl rfl fun aj=>?_;refine JSfreezeB_ 3 aj rfl fun ay ak al am=>?_;refine zg 4 rfl ?_;refine Ar underlying97 BX rfl rfl rfl ?_;refine Aw 1 al CY rfl rfl rfl ?_;refine JLln_ underlying95 rfl rfl rfl ?_;refine zg 4 rfl ?_;obtain rfl:=oi ab;refine Af func28 rfl rfl ?_;exact U _ _ _ _ ((K.trq ac).trq ak) rfl ⟨rfl,rfl⟩ am
def Mo(fuel:Nat)(p0:JW2)(p1:LKL):Option (Int×(List Int)×Int):= (Hr fuel p0 p1 (-1) false).bind fun K=> if K.2.2≠0 then(some (0,[],K.2.2)) else((ix K.2.1.2 (0)).bind fun x39=> (ix K.2.1.2 (0)).bind fun O=> some (x39.1,O.2.1,0))
theorem UX{E:LH}{a1:OAd}{c2:Nat}{a4:OAd}{c5:Nat}{a7:OAd}{c8:Nat}{p0:JW2}{p1:LKL}(hG:GE E)(h3:LsR (rL rI) E a1 c2 (p0.1))(h6:LsR (rL rI) E a4 c5 (p0.2))(h9:LsR rLK E a7 c8 (p1)){fuel:Nat}{r:Int×(List Int)×Int}(hD:Mo fuel p0 p1=some r):Al (mainWay Tryz.prog) 30 [.agg #[sV a1 p0.1 c2,sV a4 p0.2 c5],sV a7 p1 c8] E [] (fun w E' B'=>∃(U:OAd) (V:Nat),w= .tuple #[iV r.1,sV U r.2.1 V,iV r.2.2]∧B'= []∧LsR rI E' U V (r.2.1)):=by
 refine Av func30 rfl rfl fun Q aB cs H hN Y=>?_;unfold Mo at hD;refine zg 2 rfl ?_;refine JS.box (v:= .agg #[sV a1 p0.1 c2,sV a4 p0.2 c5]) rfl rfl rfl hN rfl fun aC ag=>?_;refine JSfreezeB_ 1 ag rfl fun aD K ah ai=>?_;refine zg 6 rfl ?_;refine JLldN_ ah q_aggT_ofunderlying24 q_szOf_oftype24 rfl rfl ?_;obtain⟨Z,aj,ak⟩:=bs hD;refine zg 1 rfl ?_;refine JScl_ (JR (hG.moq K) (h3.moq K) (h6.moq K) (h9.moq K) aj) rfl rfl IL ai ?_;rintro _ aE _ aa ⟨aF,al,am,rfl,rfl,aG,ab⟩ an;refine zg 4 rfl ?_;refine JS.alloc rfl rfl rfl an D5 fun aH ao=>?_;refine zg 1 rfl ?_;refine JSst_ (v:= .agg #[iV Z.2.1.1,sV al Z.2.1.2 am]) (off:=0) 3 ao BR rfl rfl rfl rfl fun ap=>?_;refine JSfreezeB_ 3 ap rfl fun aI O ac ae=>?_;refine zg 8 rfl ?_;refine JLfi_ ak (fun aq ar=>?_) (fun aq hD38=>?_)
 ·refine zg 7 rfl ?_;obtain rfl:=oi ar;refine Af func30 rfl rfl ?_;exact Y _ _ _ _ ((K.trq aa).trq O) rfl ⟨none,0,rfl,rfl,LsR.nil⟩ ae
 ·refine zg 2 rfl ?_;refine JGd0_ 11 fun ht=>?_;refine Bf 0 ht underlying97 BX rfl rfl rfl rfl ?_;refine JGld_ 1 ht 1 ac CY rfl rfl rfl rfl ?_;obtain⟨x39,hx39,hD40⟩:=bs hD38;refine JGjd_ 2 (ab.moq O) hx39 ht underlying95 Bn ?_;rintro aJ aK _ ⟨_,_,rfl,rfl,⟨_,_,rfl,⟨aL,aM,rfl,aN⟩,rfl⟩⟩ au;refine Bf 3 ht underlying104 q_szOf_oftype3 rfl rfl rfl rfl ?_;refine JGld_ 4 ht 0 au q_aggT_ofunderlying3 rfl rfl rfl rfl ?_;refine Bf 5 ht underlying97 BX rfl rfl rfl rfl ?_;refine JGld_ 6 ht 1 ac CY rfl rfl rfl rfl ?_;obtain⟨aO,av,aw⟩:=bs hD40;refine JGjd_ 7 (ab.moq O) av ht underlying95 Bn ?_;rintro aP aQ _ ⟨_,_,rfl,rfl,⟨_,_,rfl,⟨ay,az,rfl,aA⟩,rfl⟩⟩ h54;refine Bf 8 ht underlying104 Bg rfl rfl rfl rfl ?_;refine JGld_ 9 ht 1 h54 BL rfl rfl rfl rfl ?_;refine JGmv_ 10 ht rfl rfl ?_;refine JALlf_ [11,12] ?_;refine zg 3 rfl ?_;obtain rfl:=oi aw;refine Af func30 rfl rfl ?_;exact Y _ _ _ _ ((K.trq aa).trq O) rfl ⟨ay,az,rfl,rfl,aA⟩ ae
def OQ(fuel:Nat)(p2:Int)(x56:(List (AK)))(K:(List Int)×Int):Option (AH ((List Int)×Int) ((List Int))):= if K.2<((x56).length:Int) then((ix x56 (K.2)).bind fun O=> Option.bind (if O.2.1≤p2 then((room K.1 O.1).bind fun U=> some U) else(some K.1)) fun V=> (Ac (K.2+1)).bind fun Y=> some (.more (V,Y))) else(some (.done K.1))
def Ma(fuel:Nat)(p0:JW2)(p1:LKL)(p2:Int):Option ((List Int)×Int):= (Fu fuel p0 p1).bind fun K=> if K≠0 then(some ([],K)) else((f101 fuel p2 0 4).bind fun x25=> if x25=true then(some ([],1)) else((f92 fuel p0).bind fun U=> (U).bind fun V=> (JZ fuel V p1).bind fun x56=> Option.bind (iter (OQ fuel p2 x56) fuel ([],0)) fun O=> if((O).length:Int)=0 then(some ([],11)) else(some (O,0))))
theorem VG{E:LH}{a1:OAd}{c2:Nat}{a4:OAd}{c5:Nat}{a7:OAd}{c8:Nat}{p0:JW2}{p1:LKL}{p2:Int}(hG:GE E)(h3:LsR (rL rI) E a1 c2 (p0.1))(h6:LsR (rL rI) E a4 c5 (p0.2))(h9:LsR rLK E a7 c8 (p1)){fuel:Nat}{r:(List Int)×Int}(hD:Ma fuel p0 p1 p2=some r):Al (mainWay Tryz.prog) 43 [.agg #[sV a1 p0.1 c2,sV a4 p0.2 c5],sV a7 p1 c8,iV p2] E [] (fun w E' B'=>∃(aw:OAd) (ay:Nat),w= .tuple #[sV aw r.1 ay,iV r.2]∧B'= []∧LsR rI E' aw ay (r.1)):=by
 refine Av func43 rfl rfl fun Q bK cs H hN aa=>?_;unfold Ma at hD;refine zg 2 rfl ?_;refine JS.box (v:= .agg #[sV a1 p0.1 c2,sV a4 p0.2 c5]) rfl rfl rfl hN rfl fun bL aJ=>?_;refine JSfreezeB_ 1 aJ rfl fun bM K az aK=>?_;refine zg 6 rfl ?_;refine JLldN_ az q_aggT_ofunderlying24 q_szOf_oftype24 rfl rfl ?_;obtain⟨bN,aL,aM⟩:=bs hD;refine zg 1 rfl ?_;refine JScz_ (f69e_w (hG.moq K) (h3.moq K) (h6.moq K) (h9.moq K) aL) rfl rfl q_body_offunc69rfl aK fun bO O aA=>?_;refine zg 7 rfl ?_;refine JLfi_ aM (fun aN aO=>?_) (fun aN aP=>?_)
 ·refine zg 6 rfl ?_;obtain rfl:=oi aO;refine Af func43 rfl rfl ?_;exact aa _ _ _ _ (K.trq O) rfl ⟨none,0,rfl,rfl,LsR.nil⟩ aA
 ·obtain⟨x25,hx25,hD26⟩:=bs aP;refine zg 5 rfl ?_;refine JScz_ (Gf hx25) rfl rfl F0 aA fun E27 hle28 hN29=>?_;refine JL.done ?_;refine JLfj_ hD26 (fun aQ aR=>?_) (fun aQ aS=>?_)
  ·refine zg 5 rfl ?_;obtain rfl:=oi aR;refine Af func43 rfl rfl ?_;exact aa _ _ _ _ ((K.trq O).trq hle28) rfl ⟨none,0,rfl,rfl,LsR.nil⟩ hN29
  ·refine zg 8 rfl ?_;refine JLldN_ (az.moq (O.trq hle28)) q_aggT_ofunderlying24 q_szOf_oftype24 rfl rfl ?_;obtain⟨bP,aT,aU⟩:=bs aS;refine JScl_ (Kj (h3.moq ((K.trq O).trq hle28)) (h6.moq ((K.trq O).trq hle28)) aT) rfl rfl IM hN29 ?_;rintro bQ bR _ al ⟨_,rfl,rfl,aV⟩ aW;obtain⟨bS,aX,aY⟩:=bs aU;have aB:=aV;refine zg 1 rfl ?_;rw [aX] at aB;obtain⟨bT,bU,_,rfl,aZ,⟨_,_,rfl,⟨bV,bW,rfl,a0⟩,⟨_,bX,rfl,⟨bY,bZ,rfl,a2⟩,h54⟩⟩⟩:=aB;obtain⟨x56,hx56,hD57⟩:=bs aY;refine JScl_ (N6 aZ a0 a2 h54 (h9.moq (((K.trq O).trq hle28).trq al)) hx56) rfl rfl (body_of func102 rfl) aW ?_;rintro _ E58 _ hle59 ⟨a61,c62,rfl,rfl,h63⟩ hN60;refine JLln_ underlying130 rfl rfl rfl ?_;obtain⟨aC,a3,a5⟩:=bs hD57;refine zg 2 rfl ?_;refine JLjoin_ (fun L s=>∃(am:LH) (ab:OAd) (ac:Nat) (an:Seg),Jn E58 H am [an] [(9,sV ab aC ac)] L s (OL 3 rI am ab ac an (aC))) ?_ ?_
   ·rintro _ _ ⟨am,ab,ac,an,rfl,rfl,aD,aE,a6⟩;refine zg 4 rfl ?_;refine JLln_ underlying28 rfl rfl rfl ?_;refine zg 2 rfl ?_;refine JLfi_ a5 (fun a8 a9=>?_) (fun a8 ba=>?_)
    ·refine zg 5 rfl ?_;refine JS.drop 0 aE rfl fun bb=>?_;obtain rfl:=oi a9;refine Af func43 rfl rfl ?_;exact aa _ _ _ _ (((((K.trq O).trq hle28).trq al).trq hle59).trq aD) rfl ⟨none,0,rfl,rfl,LsR.nil⟩ bb
    ·refine zg 7 rfl ?_;refine JSfreezeL_ 0 a6 aE rfl fun b0 bc bd hN94=>?_;obtain rfl:=oi ba;refine Af func43 rfl rfl ?_;exact aa _ _ _ _ ((((((K.trq O).trq hle28).trq al).trq hle59).trq aD).trq bc) rfl ⟨ab,ac,rfl,rfl,bd⟩ hN94
   ·intro bf;refine JL.block ?_;refine JLlw_ a3 (fun L s Y=>∃(ae:LH) (U:OAd) (V:Nat) (Z:Seg),Jn E58 H ae [Z] [(2,iV p2),(9,sV U Y.1 V),(23,sV a61 x56 c62),(24,iV ((x56).length:Int)),(25,iV Y.2)] L s (OL 3 rI ae U V Z (Y.1))) ⟨E58,none,0,[],rfl,rfl,lR_,hN60,OL.nil⟩ ?_;rintro _ _ Y ⟨ae,U,V,Z,rfl,rfl,ao,hN101,ap⟩ bg ⟨b1,aq⟩ bh;have aF:=aq;unfold OQ at aF;refine zg 5 rfl ?_;refine JLfi_ aF (fun bi bj=>?_) (fun bi hD160=>?_)
    ·obtain⟨ag,bk,bl⟩:=bs bj;refine zg 5 rfl ?_;refine Bp (h63.moq ao) bk rfl rfl rfl rfl rfl underlying130 An ?_;rintro b2 b3 _ ⟨_,_,rfl,rfl,⟨_,_,rfl,rfl,⟨bm,bn,rfl,b4⟩⟩⟩ bo;refine JLldN_ bo Bl An rfl rfl ?_;refine JS.alloc rfl rfl rfl hN101 F1 fun b5 bp=>?_;refine JSst_ (v:= .agg #[iV ag.1,iV ag.2.1,sV bm ag.2.2 bn]) (off:=0) 1 bp An rfl rfl rfl rfl fun bq=>?_;refine JSfreezeB_ 1 bq rfl fun ar au aG aH=>?_;refine zg 3 rfl ?_;refine Ar underlying133 BR rfl rfl rfl ?_;refine Ar underlying97 q_szOf_oftype3 rfl rfl rfl ?_;refine Aw 1 aG q_aggT_ofunderlying3 rfl rfl rfl ?_;obtain⟨av,br,bu⟩:=bs bl;refine zg 3 rfl ?_;refine JLjoin_ (fun L s=>∃(ah:LH) (ai:OAd) (aj:Nat) (ak:Seg),Jn ar H ah [ak] [(2,iV p2),(9,sV ai av aj),(23,sV a61 x56 c62),(24,iV ((x56).length:Int)),(25,iV Y.2)] L s (OL 3 rI ah ai aj ak (av))) ?_ ?_
     ·rintro _ _ ⟨ah,ai,aj,ak,rfl,rfl,bv,bw,bx⟩;obtain⟨bz,bA,bB⟩:=bs bu;refine zg 2 rfl ?_;refine JLaC_ bA rfl rfl rfl ?_;refine zg 2 rfl ?_;obtain rfl:=oi bB;exact JLkw_ (bh _ _ (av,bz) ⟨ah,ai,aj,ak,rfl,rfl,((ao.trq au).trq bv),bw,bx⟩ aq) rfl
     ·intro aI;refine JLfi_ br (fun bC bD=>?_) (fun bC hD158=>?_)
      ·refine zg 2 rfl ?_;refine Ar underlying133 q_szOf_oftype3 rfl rfl rfl ?_;refine Aw 0 aG q_aggT_ofunderlying3 rfl rfl rfl ?_;obtain⟨b6,bE,hD156⟩:=bs bD;refine JS.app (pp:=rI) (v:=iV ag.1) (a:=U) (c:=V) 0 bE rfl rfl rfl rfl (fun _=>rfl) rfl (fun _=>rfl) rfl rfl rfl underlying28 underlying28 underlying28 q_szOf_oftype3 (Bz type3) q_zeroOf_oftype3 rfl (by decide) (by decide) (by decide) (by decide) (ap.moq au) rfl aH rfl fun b7 bF bG bH bI bJ=>?_;refine zg 2 rfl ?_;obtain rfl:=oi hD156;exact JLkw_ (aI _ _ ⟨ar,bF,bG,bH,rfl,rfl,lR_,bJ,bI⟩) rfl
      ·refine JL.skip ?_;obtain rfl:=oi hD158;exact JLkw_ (aI _ _ ⟨ar,U,V,Z,rfl,rfl,lR_,aH,(ap.moq au)⟩) rfl
    ·refine JL.exit rfl ?_;obtain rfl:=oi hD160;obtain rfl:=bg _ aq;exact JLkw_ (bf _ _ ⟨ae,U,V,Z,rfl,rfl,ao,hN101,ap⟩) rfl
end Pal
namespace Pal
open Go Go.Conc Go.Proofs
open Go.Proofs.Tryz
def Oa(fuel:Nat)(p2:Int)(O:(Option (A1))×(Int×(List (Bb)))×Int)(K:Int×Int):Option (AH (Int×Int) (Int)):= if K.2<((O.2.1.2).length:Int) then((ix O.2.1.2 (K.2)).bind fun x132=> (f103 fuel x132.2.2 p2).bind fun U=> Option.bind (if U=true then((Ac (K.1+1)).bind fun V=> some V) else(some K.1)) fun Y=> (Ac (K.2+1)).bind fun Z=> some (.more (Y,Z))) else(some (.done K.1))
def Mh(fuel:Nat)(p0:JW2)(p1:LKL)(p2:Int):Option (Int×Int):= (Fu fuel p0 p1).bind fun U=> if U≠0 then(some (0,U)) else((Ac (((p1).length:Int) - 1)).bind fun x25=> (f101 fuel p2 0 x25).bind fun V=> if V=true then(some (0,3)) else((Hr fuel p0 p1 p2 false).bind fun K=> if K.2.2≠0 then(some (0,K.2.2)) else(Option.bind (iter (Oa fuel p2 K) fuel (0,0)) fun O=> Option.bind (Option.bind (Option.bind (if 0<O then(some (decide (O<((K.2.1.2).length:Int)))) else(some false)) fun Y=> if Y=true then((Ac (0+1)).bind fun Z=> (Ac (Z+1)).bind fun aa=> some aa) else(if O=0 then((Ac (0+1)).bind fun ab=> some ab) else(some 0))) fun ac=> (Ac (ac+1)).bind fun ae=> some ae) fun ag=> some (ag,0))))
theorem UP{E:LH}{a1:OAd}{c2:Nat}{a4:OAd}{c5:Nat}{a7:OAd}{c8:Nat}{p0:JW2}{p1:LKL}{p2:Int}(hG:GE E)(h3:LsR (rL rI) E a1 c2 (p0.1))(h6:LsR (rL rI) E a4 c5 (p0.2))(h9:LsR rLK E a7 c8 (p1)){fuel:Nat}{r:Int×Int}(hD:Mh fuel p0 p1 p2=some r):Al (mainWay Tryz.prog) 49 [.agg #[sV a1 p0.1 c2,sV a4 p0.2 c5],sV a7 p1 c8,iV p2] E [] (fun w E' B'=>w= .tuple #[iV r.1,iV r.2]∧B'= []):=by
 refine Av func49 rfl rfl fun Q b8 cs H hN aa=>?_;unfold Mh at hD;refine zg 2 rfl ?_;refine JS.box (v:= .agg #[sV a1 p0.1 c2,sV a4 p0.2 c5]) rfl rfl rfl hN rfl fun b9 aK=>?_;refine JSfreezeB_ 1 aK rfl fun ca K au aL=>?_;refine zg 6 rfl ?_;refine JLldN_ au q_aggT_ofunderlying24 q_szOf_oftype24 rfl rfl ?_;obtain⟨cb,aM,aN⟩:=bs hD;refine zg 1 rfl ?_;refine JScz_ (f69e_w (hG.moq K) (h3.moq K) (h6.moq K) (h9.moq K) aM) rfl rfl q_body_offunc69rfl aL fun cc O av=>?_;refine zg 7 rfl ?_;refine JLfi_ aN (fun aO aP=>?_) (fun aO aQ=>?_)
 ·refine zg 6 rfl ?_;obtain rfl:=oi aP;refine Af func49 rfl rfl ?_;exact aa _ _ _ _ (K.trq O) rfl ⟨rfl,rfl⟩ av
 ·refine zg 6 rfl ?_;refine JLln_ underlying25 rfl rfl rfl ?_;obtain⟨x25,hx25,hD26⟩:=bs aQ;refine A9 hx25 rfl rfl rfl ?_;obtain⟨cd,aR,aS⟩:=bs hD26;refine JScz_ (Gf aR) rfl rfl F0 av fun ce U aw=>?_;refine JL.done ?_;refine JLfj_ aS (fun aT aU=>?_) (fun aT aV=>?_)
  ·refine zg 5 rfl ?_;obtain rfl:=oi aU;refine Af func49 rfl rfl ?_;exact aa _ _ _ _ ((K.trq O).trq U) rfl ⟨rfl,rfl⟩ aw
  ·refine zg 3 rfl ?_;refine JLldN_ (au.moq (O.trq U)) q_aggT_ofunderlying24 q_szOf_oftype24 rfl rfl ?_;obtain⟨Y,aW,hD38⟩:=bs aV;refine zg 2 rfl ?_;refine JScl_ (JR (hG.moq ((K.trq O).trq U)) (h3.moq ((K.trq O).trq U)) (h6.moq ((K.trq O).trq U)) (h9.moq ((K.trq O).trq U)) aW) rfl rfl IL aw ?_;rintro _ cf _ ay ⟨cg,ac,ae,rfl,rfl,ci,aX⟩ aY;refine zg 4 rfl ?_;refine JS.alloc rfl rfl rfl aY D5 fun ag aZ=>?_;refine zg 1 rfl ?_;refine JSst_ (v:= .agg #[iV Y.2.1.1,sV ac Y.2.1.2 ae]) (off:=0) 5 aZ BR rfl rfl rfl rfl fun hN50=>?_;refine JSfreezeB_ 5 hN50 rfl fun ah ai az aA=>?_;refine zg 8 rfl ?_;refine JLfi_ hD38 (fun a0 hD57=>?_) (fun a0 a2=>?_)
   ·refine zg 6 rfl ?_;obtain rfl:=oi hD57;refine Af func49 rfl rfl ?_;exact aa _ _ _ _ ((((K.trq O).trq U).trq ay).trq ai) rfl ⟨rfl,rfl⟩ aA
   ·refine zg 8 rfl ?_;refine Ar underlying97 BX rfl rfl rfl ?_;refine Aw 1 az CY rfl rfl rfl ?_;refine JLln_ underlying95 rfl rfl rfl ?_;obtain⟨aB,a3,hD68⟩:=bs a2;refine zg 2 rfl ?_;refine JLjoin_ (fun L s=>∃(V:LH),Jm ah H V [] [(10,pV ag 0),(12,iV aB)] L s) ?_ ?_
    ·rintro _ _ ⟨V,rfl,rfl,aC,aD⟩;obtain⟨a5,a6,a8⟩:=bs hD68;refine zg 5 rfl ?_;refine JLjoin_ (fun L s=>∃(aE:LH),Jm V H aE [] [(15,iV a5)] L s) ?_ ?_
     ·rintro _ _ ⟨aE,rfl,rfl,a9,ba⟩;refine zg 6 rfl ?_;obtain rfl:=oi a8;refine Af func49 rfl rfl ?_;exact aa _ _ _ _ ((((((K.trq O).trq U).trq ay).trq ai).trq aC).trq a9) rfl ⟨rfl,rfl⟩ ba
     ·intro bb;obtain⟨bc,bd,bf⟩:=bs a6;refine zg 2 rfl ?_;refine JLjoin_ (fun L s=>∃(aj:LH),Jm V H aj [] [(15,iV bc)] L s) ?_ ?_
      ·rintro _ _ ⟨aj,rfl,rfl,bg,bh⟩;obtain⟨ck,bi,bj⟩:=bs bf;refine zg 3 rfl ?_;refine JLaC_ bi rfl rfl rfl ?_;refine zg 3 rfl ?_;obtain rfl:=oi bj;exact JLkw_ (bb _ _ ⟨aj,rfl,rfl,bg,bh⟩) rfl
      ·intro ak;obtain⟨bk,bl,bm⟩:=bs bd;refine zg 12 rfl ?_;refine JLjoinR_ [9] (fun L s=>∃(Z:LH),Jm V H Z [] [(12,iV aB),(15,iV 0),(61,.bool bk)] L s) ?_ ?_
       ·rintro _ _ ⟨Z,rfl,rfl,al,am⟩;refine zg 2 rfl ?_;refine JLfj_ bm (fun bn bo=>?_) (fun bn bp=>?_)
        ·obtain⟨cm,bq,br⟩:=bs bo;refine zg 3 rfl ?_;refine JLaC_ bq rfl rfl rfl ?_;obtain⟨cn,bu,bv⟩:=bs br;refine zg 5 rfl ?_;refine JLaC_ bu rfl rfl rfl ?_;refine zg 3 rfl ?_;obtain rfl:=oi bv;exact JLkw_ (ak _ _ ⟨Z,rfl,rfl,al,am⟩) rfl
        ·refine zg 7 rfl ?_;refine JLfi_ bp (fun bw bx=>?_) (fun bw bz=>?_)
         ·obtain⟨co,bA,bB⟩:=bs bx;refine zg 3 rfl ?_;refine JLaC_ bA rfl rfl rfl ?_;refine zg 3 rfl ?_;obtain rfl:=oi bB;exact JLkw_ (ak _ _ ⟨Z,rfl,rfl,al,am⟩) rfl
         ·refine zg 2 rfl ?_;obtain rfl:=oi bz;exact JLkw_ (ak _ _ ⟨Z,rfl,rfl,al,am⟩) rfl
       ·intro aF;refine C3 55 bl (fun bC bD=>?_) (fun bC bE=>?_)
        ·refine zg 1 rfl ?_;refine Ar underlying97 BX rfl rfl rfl ?_;refine Aw 1 (az.moq aC) CY rfl rfl rfl ?_;refine JLln_ underlying95 rfl rfl rfl ?_;refine zg 2 rfl ?_;obtain rfl:=oi bD;exact JLkw_ (aF _ _ ⟨V,rfl,rfl,lR_,aD⟩) rfl
        ·refine zg 6 rfl ?_;obtain rfl:=oi bE;exact JLkw_ (aF _ _ ⟨V,rfl,rfl,lR_,aD⟩) rfl
    ·intro bF;refine JL.block ?_;refine JLlw_ a3 (fun L s ab=>∃(an:LH),Jm ah H an [] [(2,iV p2),(10,pV ag 0),(12,iV ab.1),(39,sV ac Y.2.1.2 ae),(40,iV ((Y.2.1.2).length:Int)),(41,iV ab.2)] L s) ⟨ah,rfl,rfl,lR_,aA⟩ ?_;rintro _ _ ab ⟨an,rfl,rfl,ao,hN124⟩ bG ⟨cp,ap⟩ bH;have aG:=ap;unfold Oa at aG;refine zg 5 rfl ?_;refine JLfi_ aG (fun bI bJ=>?_) (fun bI bK=>?_)
     ·obtain⟨x132,bL,bM⟩:=bs bJ;refine zg 5 rfl ?_;refine Bp (aX.moq (ai.trq ao)) bL rfl rfl rfl rfl rfl underlying95 Bn ?_;rintro cq cr _ ⟨_,_,rfl,rfl,⟨_,_,rfl,⟨bN,bO,rfl,ct⟩,rfl⟩⟩ bP;refine JLldN_ bP DO Bn rfl rfl ?_;refine JS.alloc rfl rfl rfl hN124 EC fun cu bQ=>?_;refine JSst_ (v:= .agg #[iV x132.1,sV bN x132.2.1 bO,.int .u16 ((x132.2.2:Nat):Int)]) (off:=0) 0 bQ Bn rfl rfl rfl rfl fun bR=>?_;refine JSfreezeB_ 0 bR rfl fun cv bS bT bU=>?_;refine zg 3 rfl ?_;refine Ar underlying104 Cq rfl rfl rfl ?_;refine Aw 2 bT Ek rfl rfl rfl ?_;obtain⟨cw,bV,bW⟩:=bs bM;refine zg 1 rfl ?_;refine JScz_ (JJ bV) rfl rfl II bU fun aq bX aH=>?_;obtain⟨aI,bY,hD156⟩:=bs bW;refine JL.done ?_;refine JLjoin_ (fun L s=>∃(ar:LH),Jm aq H ar [] [(2,iV p2),(10,pV ag 0),(12,iV aI),(39,sV ac Y.2.1.2 ae),(40,iV ((Y.2.1.2).length:Int)),(41,iV ab.2)] L s) ?_ ?_
      ·rintro _ _ ⟨ar,rfl,rfl,bZ,b0⟩;obtain⟨b1,b2,b3⟩:=bs hD156;refine zg 2 rfl ?_;refine JLaC_ b2 rfl rfl rfl ?_;refine zg 2 rfl ?_;obtain rfl:=oi b3;exact JLkw_ (bH _ _ (aI,b1) ⟨ar,rfl,rfl,(((ao.trq bS).trq bX).trq bZ),b0⟩ ap) rfl
      ·intro aJ;refine JLfj_ bY (fun c165 b4=>?_) (fun c165 b5=>?_)
       ·obtain⟨cy,b6,b7⟩:=bs b4;refine zg 2 rfl ?_;refine JLaC_ b6 rfl rfl rfl ?_;refine zg 2 rfl ?_;obtain rfl:=oi b7;exact JLkw_ (aJ _ _ ⟨aq,rfl,rfl,lR_,aH⟩) rfl
       ·refine JL.skip ?_;obtain rfl:=oi b5;exact JLkw_ (aJ _ _ ⟨aq,rfl,rfl,lR_,aH⟩) rfl
     ·refine JL.exit rfl ?_;obtain rfl:=oi bK;obtain rfl:=bG _ ap;exact JLkw_ (bF _ _ ⟨an,rfl,rfl,ao,hN124⟩) rfl
def Oc(fuel:Nat)(O:Bb)(K:(List Int))(x231:(List Nat)×Int):Option (AH ((List Nat)×Int) ((List Nat))):= if x231.2<((K).length:Int) then((ix K (x231.2)).bind fun x244=> (ix x231.1 (x244)).bind fun U=> (f90 fuel U O.1).bind fun x252=> (ix x231.1 (x244)).bind fun Y=> (Ac (x231.2+1)).bind fun V=> some (.more ((x231.1.set (Int.toNat x244) x252),V))) else(some (.done x231.1))
def On(fuel:Nat)(O:(Option (A1))×(Int×(List (Bb)))×Int)(V:A1)(Y:Int×Int×Int)(K:(List Nat)×Int):Option (AH ((List Nat)×Int) ((List Nat))):= if K.2<((O.2.1.2).length:Int) then((ix O.2.1.2 (K.2)).bind fun U=> (f88 fuel V U Y.2.2).bind fun Z=> (f89 fuel Z).bind fun aa=> Option.bind (iter (Oc fuel U aa) fuel (K.1,0)) fun ab=> (Ac (K.2+1)).bind fun ac=> some (.more (ab,ac))) else(some (.done K.1))
def OA(fuel:Nat)(O:(List Nat))(K:Int×Int):Option (AH (Int×Int) (Int)):= if K.2<8 then((ix O (K.2)).bind fun U=> (f85 fuel U).bind fun V=> (Ac (K.2+1)).bind fun Y=> some (.more (max (K.1) (V),Y))) else(some (.done K.1))
def Ol(fuel:Nat)(V:(Option (A1))×(Int×(List (Bb)))×Int)(Y:A1)(K:Int×Int×Int):Option (AH (Int×Int×Int) (Int×Int)):= if K.2.2<7 then(Option.bind (iter (On fuel V Y K) fuel ((List.replicate 8 (0:Nat)),0)) fun Z=> Option.bind (iter (OA fuel Z) fuel (0,0)) fun O=> Option.bind (if O<K.2.1 then(some (K.2.2,O)) else(some (K.1,K.2.1))) fun U=> (Ac (K.2.2+1)).bind fun aa=> some (.more (U.1,U.2,aa))) else(some (.done (K.1,K.2.1)))
def Mf(fuel:Nat)(p0:JW2)(p1:LKL):Option (Int×Int×Int):= (Hr fuel p0 p1 (-1) false).bind fun K=> if K.2.2≠0 then(some (0,0,K.2.2)) else((f87 fuel K.2.1.2).bind fun x39=> (f85 fuel x39).bind fun U=> (K.1).bind fun V=> Option.bind (iter (Ol fuel K V) fuel ((-1),U,0)) fun O=> if O.1<0 then(some (0,0,11)) else(some (O.1,O.2,0)))
theorem VC{E:LH}{a1:OAd}{c2:Nat}{a4:OAd}{c5:Nat}{a7:OAd}{c8:Nat}{p0:JW2}{p1:LKL}(hG:GE E)(h3:LsR (rL rI) E a1 c2 (p0.1))(h6:LsR (rL rI) E a4 c5 (p0.2))(h9:LsR rLK E a7 c8 (p1)){fuel:Nat}{r:Int×Int×Int}(hD:Mf fuel p0 p1=some r):Al (mainWay Tryz.prog) 35 [.agg #[sV a1 p0.1 c2,sV a4 p0.2 c5],sV a7 p1 c8] E [] (fun w E' B'=>w= .tuple #[iV r.1,iV r.2.1,iV r.2.2]∧B'= []):=by
 refine Av func35 rfl rfl fun Q du cs H hN aG=>?_;unfold Mf at hD;refine zg 2 rfl ?_;refine JS.box (v:= .agg #[sV a1 p0.1 c2,sV a4 p0.2 c5]) rfl rfl rfl hN rfl fun dv bq=>?_;refine JSfreezeB_ 1 bq rfl fun dw ab br bu=>?_;refine zg 6 rfl ?_;refine JLldN_ br q_aggT_ofunderlying24 q_szOf_oftype24 rfl rfl ?_;obtain⟨U,bv,bw⟩:=bs hD;refine zg 1 rfl ?_;refine JScl_ (JR (hG.moq ab) (h3.moq ab) (h6.moq ab) (h9.moq ab) bv) rfl rfl IL bu ?_;rintro _ dx _ aH ⟨dy,av,aw,rfl,rfl,bx,aU⟩ bz;refine zg 4 rfl ?_;refine JS.alloc rfl rfl rfl bz D5 fun V bA=>?_;refine zg 1 rfl ?_;refine JSst_ (v:= .agg #[iV U.2.1.1,sV av U.2.1.2 aw]) (off:=0) 3 bA BR rfl rfl rfl rfl fun bB=>?_;refine JSfreezeB_ 3 bB rfl fun dz ah aV aW=>?_;refine zg 8 rfl ?_;refine JLfi_ bw (fun bC bD=>?_) (fun bC hD38=>?_)
 ·refine zg 7 rfl ?_;obtain rfl:=oi bD;refine Af func35 rfl rfl ?_;exact aG _ _ _ _ ((ab.trq aH).trq ah) rfl ⟨rfl,rfl⟩ aW
 ·refine zg 8 rfl ?_;refine Ar underlying97 BX rfl rfl rfl ?_;refine Aw 1 aV CY rfl rfl rfl ?_;obtain⟨x39,hx39,hD40⟩:=bs hD38;refine JScz_ (VR (aU.moq ah) hx39) rfl rfl (body_of func87 rfl) aW fun E41 hle42 hN43=>?_;obtain⟨dA,bE,hD45⟩:=bs hD40;refine HY (vs:= [.int .u16 ((x39:Nat):Int)]) (PM bE) rfl rfl rfl rfl (body_of func85 rfl) rfl hN43 ?_;rintro _ aI _ al ⟨rfl,rfl⟩ bF;obtain⟨dB,bG,bH⟩:=bs hD45;have aX:=(bx.moq ((ah.trq hle42).trq al));refine zg 11 rfl ?_;rw [bG] at aX;obtain⟨Y,Z,_,rfl,bI,⟨_,_,rfl,⟨dC,dD,rfl,bJ⟩,⟨_,dE,rfl,⟨dF,dG,rfl,bK⟩,bL⟩⟩⟩:=aX;obtain⟨aY,bM,bN⟩:=bs bH;refine JLjoin_ (fun L s=>∃(aZ:LH),Jm aI H aZ [] [(4,iV aY.1),(10,iV aY.2)] L s) ?_ ?_
  ·rintro _ _ ⟨aZ,rfl,rfl,a0,a2⟩;refine zg 6 rfl ?_;refine JLfi_ bN (fun bO bP=>?_) (fun bO hD79=>?_)
   ·refine zg 6 rfl ?_;obtain rfl:=oi bP;refine Af func35 rfl rfl ?_;exact aG _ _ _ _ (((((ab.trq aH).trq ah).trq hle42).trq al).trq a0) rfl ⟨rfl,rfl⟩ a2
   ·refine zg 9 rfl ?_;obtain rfl:=oi hD79;refine Af func35 rfl rfl ?_;exact aG _ _ _ _ (((((ab.trq aH).trq ah).trq hle42).trq al).trq a0) rfl ⟨rfl,rfl⟩ a2
  ·intro bQ;refine JL.block ?_;refine JLlw_ bM (fun L s K=>∃(ac:LH),Jm aI H ac [] [(4,iV K.1),(7,pV Y Z),(8,pV V 0),(9,(.func (.func 85) #[] #[])),(10,iV K.2.1),(35,iV K.2.2)] L s) ⟨aI,rfl,rfl,lR_,bF⟩ ?_;rintro _ _ K ⟨ac,rfl,rfl,aa,a3⟩ bR ⟨dH,aJ⟩ bS;have a5:=aJ;unfold Ol at a5;refine zg 5 rfl ?_;refine JLfi_ a5 (fun bT bU=>?_) (fun bT bV=>?_)
   ·refine zg 10 rfl ?_;refine JS.alloc rfl rfl rfl a3 (BY type114) fun O hN94=>?_;refine zg 4 rfl ?_;refine Ar underlying97 BX rfl rfl rfl ?_;refine Aw 1 (aV.moq ((hle42.trq al).trq aa)) CY rfl rfl rfl ?_;refine JLln_ underlying95 rfl rfl rfl ?_;obtain⟨bW,bX,bY⟩:=bs bU;refine zg 2 rfl ?_;refine JLjoin_ (fun L s=>∃(ai:LH) (am:List Value),Jn ac H ai [[(O,.cells (([]:List Value)++am).toArray 114 (0,0))]] [(4,iV K.1),(7,pV Y Z),(8,pV V 0),(9,(.func (.func 85) #[] #[])),(10,iV K.2.1),(11,iV K.2.2),(12,pV O 0),(35,iV K.2.2)] L s ((rA 8 (rN .u16)).r ai am (bW))) ?_ ?_
    ·rintro _ _ ⟨ai,am,rfl,rfl,bZ,a6,a8⟩;refine zg 7 rfl ?_;refine Ae (v:= .agg am.toArray) rfl (fun ρ h=>G5 (kk:=8) (pp:=(rN .u16)) a8 (BZ underlying114) (AL type114) (h _ _ rfl) (I8 (l:= []) 0 a6 rfl)) ?_;obtain⟨b0,b1,b2⟩:=bs bY;refine zg 2 rfl ?_;refine JLjoin_ (fun L s=>∃(an:LH),Jm ai H an [] [(4,iV K.1),(7,pV Y Z),(8,pV V 0),(9,(.func (.func 85) #[] #[])),(10,iV K.2.1),(11,iV K.2.2),(17,iV b0),(35,iV K.2.2)] L s) ?_ ?_
     ·rintro _ _ ⟨an,rfl,rfl,b3,hN124⟩;obtain⟨ay,b4,b5⟩:=bs b2;refine zg 6 rfl ?_;refine JLjoin_ (fun L s=>∃(aK:LH),Jm an H aK [] [(4,iV ay.1),(7,pV Y Z),(8,pV V 0),(9,(.func (.func 85) #[] #[])),(10,iV ay.2),(35,iV K.2.2)] L s) ?_ ?_
      ·rintro _ _ ⟨aK,rfl,rfl,b6,b7⟩;obtain⟨b8,b9,ca⟩:=bs b5;refine zg 2 rfl ?_;refine JLaC_ b9 rfl rfl rfl ?_;refine zg 2 rfl ?_;obtain rfl:=oi ca;exact JLkw_ (bS _ _ (ay.1,ay.2,b8) ⟨aK,rfl,rfl,(((aa.trq bZ).trq b3).trq b6),b7⟩ aJ) rfl
      ·intro a9;refine JLfi_ b4 (fun cb cc=>?_) (fun cb hD139=>?_)
       ·refine zg 6 rfl ?_;obtain rfl:=oi cc;exact JLkw_ (a9 _ _ ⟨an,rfl,rfl,lR_,hN124⟩) rfl
       ·refine JL.skip ?_;obtain rfl:=oi hD139;exact JLkw_ (a9 _ _ ⟨an,rfl,rfl,lR_,hN124⟩) rfl
     ·intro cd;refine JL.block ?_;refine JS.drop 0 a6 rfl fun ce=>?_;refine JLlw_ b1 (fun L s ao=>∃(aL:LH),Jm ai H aL [] [(4,iV K.1),(7,pV Y Z),(8,pV V 0),(9,(.func (.func 85) #[] #[])),(10,iV K.2.1),(11,iV K.2.2),(17,iV ao.1),(35,iV K.2.2),(65,.agg am.toArray),(66,iV ao.2)] L s) ⟨ai,rfl,rfl,lR_,ce⟩ ?_;rintro _ _ ao ⟨aL,rfl,rfl,aM,ba⟩ cf ⟨dI,aN⟩ cg;have bb:=aN;unfold OA at bb;refine zg 5 rfl ?_;refine JLfi_ bb (fun ci ck=>?_) (fun ci cm=>?_)
      ·obtain⟨cn,co,cp⟩:=bs ck;refine zg 5 rfl ?_;refine Pp (Rp.moq _ aM a8) co rfl rfl rfl rfl rfl underlying114 Cq Ek ?_ (fun _=>rfl);rintro _ rfl;obtain⟨bc,cq,cr⟩:=bs cp;refine zg 6 rfl ?_;refine HY (vs:= [.int .u16 ((cn:Nat):Int)]) (PM cq) rfl rfl rfl rfl (body_of func85 rfl) rfl ba ?_;rintro _ ct _ cu ⟨rfl,rfl⟩ cv;refine Ae (v:=iV (max (ao.1) (bc))) rfl (fun ρ h=>Yl.max2 (h _ _ rfl) (h _ _ rfl)) ?_;obtain⟨cw,cy,cz⟩:=bs cr;refine zg 4 rfl ?_;refine JLaC_ cy rfl rfl rfl ?_;refine zg 2 rfl ?_;obtain rfl:=oi cz;exact JLkw_ (cg _ _ (max (ao.1) (bc),cw) ⟨ct,rfl,rfl,(aM.trq cu),cv⟩ aN) rfl
      ·refine JL.exit rfl ?_;obtain rfl:=oi cm;obtain rfl:=cf _ aN;exact JLkw_ (cd _ _ ⟨aL,rfl,rfl,aM,ba⟩) rfl
    ·intro cA;refine JL.block ?_;refine JLlw_ bX (fun L s ap=>∃(az:LH) (aq:List Value),Jn ac H az [[(O,.cells (([]:List Value)++aq).toArray 114 (0,0))]] [(4,iV K.1),(7,pV Y Z),(8,pV V 0),(9,(.func (.func 85) #[] #[])),(10,iV K.2.1),(11,iV K.2.2),(12,pV O 0),(35,iV K.2.2),(39,sV av U.2.1.2 aw),(40,iV ((U.2.1.2).length:Int)),(41,iV ap.2)] L s ((rA 8 (rN .u16)).r az aq (ap.1))) ⟨ac,(List.replicate 8 (.int .u16 ((0:Nat):Int)):List Value),rfl,rfl,lR_,hN94,(Hj (E:=ac) (pp:=(rN .u16)) rfl)⟩ ?_;rintro _ _ ap ⟨az,aq,rfl,rfl,ae,bd,bf⟩ cB ⟨dJ,aO⟩ cC;have bg:=aO;unfold On at bg;refine zg 5 rfl ?_;refine JLfi_ bg (fun cD cE=>?_) (fun cD cF=>?_)
     ·obtain⟨ar,cG,cH⟩:=bs cE;refine zg 5 rfl ?_;refine Bp (aU.moq ((((ah.trq hle42).trq al).trq aa).trq ae)) cG rfl rfl rfl rfl rfl underlying95 Bn ?_;rintro dK dL _ ⟨_,_,rfl,rfl,⟨_,_,rfl,⟨cI,cJ,rfl,cK⟩,rfl⟩⟩ h188;refine JLldN_ h188 DO Bn rfl rfl ?_;refine JS.alloc rfl rfl rfl bd EC fun cM cN=>?_;refine JSst_ (v:= .agg #[iV ar.1,sV cI ar.2.1 cJ,.int .u16 ((ar.2.2:Nat):Int)]) (off:=0) 1 cN Bn rfl rfl rfl rfl fun cO=>?_;refine JSfreezeB_ 1 cO rfl fun dM ag bh cP=>?_;refine zg 4 rfl ?_;refine JLldN_ bh DO Bn rfl rfl ?_;obtain⟨dN,cQ,cR⟩:=bs cH;refine zg 1 rfl ?_;refine JScz_ (VW (bI.moq ((aa.trq ae).trq ag)) (bJ.moq ((aa.trq ae).trq ag)) (bK.moq ((aa.trq ae).trq ag)) (Rp.moq _ ((aa.trq ae).trq ag) bL) (cK.moq ag) cQ) rfl rfl (body_of func88 rfl) cP fun dO aP cT=>?_;obtain⟨bi,cV,cW⟩:=bs cR;refine JScl_ (GH cV) rfl rfl Gp cT ?_;rintro _ aQ _ aR ⟨cX,cY,rfl,rfl,cZ⟩ c0;refine JLln_ underlying28 rfl rfl rfl ?_;obtain⟨bj,c1,c3⟩:=bs cW;refine zg 2 rfl ?_;refine JLjoin_ (fun L s=>∃(aA:LH) (aB:List Value),Jn aQ H aA [[(O,.cells (([]:List Value)++aB).toArray 114 (0,0))]] [(4,iV K.1),(7,pV Y Z),(8,pV V 0),(9,(.func (.func 85) #[] #[])),(10,iV K.2.1),(11,iV K.2.2),(12,pV O 0),(35,iV K.2.2),(39,sV av U.2.1.2 aw),(40,iV ((U.2.1.2).length:Int)),(41,iV ap.2)] L s ((rA 8 (rN .u16)).r aA aB (bj))) ?_ ?_
      ·rintro _ _ ⟨aA,aB,rfl,rfl,c4,c6,c7⟩;obtain⟨c9,da,db⟩:=bs c3;refine zg 2 rfl ?_;refine JLaC_ da rfl rfl rfl ?_;refine zg 2 rfl ?_;obtain rfl:=oi db;exact JLkw_ (cC _ _ (bj,c9) ⟨aA,aB,rfl,rfl,((((ae.trq ag).trq aP).trq aR).trq c4),c6,c7⟩ aO) rfl
      ·intro dc;refine JL.block ?_;refine JLlw_ c1 (fun L s x231=>∃(aC:LH) (aj:List Value),Jn aQ H aC [[(O,.cells (([]:List Value)++aj).toArray 114 (0,0))]] [(4,iV K.1),(7,pV Y Z),(8,pV V 0),(9,(.func (.func 85) #[] #[])),(10,iV K.2.1),(11,iV K.2.2),(12,pV O 0),(14,pV cM 0),(35,iV K.2.2),(39,sV av U.2.1.2 aw),(40,iV ((U.2.1.2).length:Int)),(41,iV ap.2),(49,sV cX bi cY),(50,iV ((bi).length:Int)),(51,iV x231.2)] L s ((rA 8 (rN .u16)).r aC aj (x231.1))) ⟨aQ,aq,rfl,rfl,lR_,c0,(Rp.moq _ ((ag.trq aP).trq aR) bf)⟩ ?_;rintro _ _ x231 ⟨aC,aj,rfl,rfl,aD,au,ak⟩ dd ⟨dP,aS⟩ de;have bk:=aS;unfold Oc at bk;refine zg 5 rfl ?_;refine JLfi_ bk (fun df dg=>?_) (fun df dh=>?_)
       ·obtain⟨x244,hx244,hD245⟩:=bs dg;refine zg 5 rfl ?_;refine Bp (cZ.moq aD) hx244 rfl rfl rfl rfl rfl underlying28 q_szOf_oftype3 ?_;rintro dQ dR _ rfl di;refine Aw 0 di q_aggT_ofunderlying3 rfl rfl rfl ?_;refine zg 2 rfl ?_;refine BT 7 [O] ⟨⟨0,_,rfl⟩,trivial⟩ au fun ht=>?_;refine JGms_ ht rfl [0,1] rfl ?_;obtain⟨bl,bm,dj⟩:=bs hD245;obtain⟨_,rfl,_,_,dk⟩:=F8 (kk:=8) (pp:=(rN .u16)) ak bm;refine JGV_ (v:= .pointer (some ⟨O,0+Int.toNat (x244)*1,none⟩)) 2 ht rfl rfl (fun ρ h s' hs=>G1 (kk:=8) (pp:=(rN .u16)) ak bm underlying114 Cq (h _ _ rfl) (h _ _ rfl)) ?_;refine JGV_ (v:= .int .u16 ((bl:Nat):Int)) 3 ht rfl rfl (fun ρ h s' hs=>Yl.load Ek (h _ _ rfl) (Ry (l:= []) 0 au rfl (by simp [Ak]) hs (dk 0 _ rfl))) ?_;refine Bf 4 ht underlying104 q_szOf_oftype3 rfl rfl rfl rfl ?_;refine JGV_ (v:=iV ar.1) 5 ht rfl rfl (fun ρ h s' hs=>Yl.load q_aggT_ofunderlying3 (h _ _ rfl) (At.CF (j:=0) (bh.moq ((aP.trq aR).trq aD)) (CE au hs ⟨⟨0,_,rfl⟩,trivial⟩) rfl)) ?_;obtain⟨x252,hx252,hD253⟩:=bs dj;refine ND (i:=6) ⟨⟨0,_,rfl⟩,trivial⟩ (vs:= [.int .u16 ((bl:Nat):Int),iV ar.1]) (Kc hx252) (by decide+kernel) rfl rfl rfl IN rfl au ?_;rintro _ bn _ aE ⟨rfl,rfl⟩ dl;refine JALlf_ [7,8] ?_;obtain⟨dS,aT,dm⟩:=bs hD253;obtain⟨_,rfl,_,_,dT⟩:=F8 (kk:=8) (pp:=(rN .u16)) (Rp.moq _ aE ak) aT;refine Ae (v:= .pointer (some ⟨O,0+Int.toNat (x244)*1,none⟩)) rfl (fun ρ h=>G1 (kk:=8) (pp:=(rN .u16)) (Rp.moq _ aE ak) aT underlying114 Cq (h _ _ rfl) (h _ _ rfl)) ?_;have aF:=LU (us:= [.int .u16 ((x252:Nat):Int)]) (y:=x252) (Rp.moq _ aE ak) aT rfl;refine HR (v:= .int .u16 ((x252:Nat):Int)) (l:= []) (ws:=aj) (us:= [.int .u16 ((x252:Nat):Int)]) (o:=Int.toNat (x244)*1) 0 rfl rfl rfl dl rfl rfl rfl Cq (by simp [Value.cells,Ba]) rfl aF.2 fun bo=>?_;replace aF:=aF.1;generalize dn:Fs aj (Int.toNat (x244)*1) [.int .u16 ((x252:Nat):Int)]=bp at bo ⊢;have dp:(rA 8 (rN .u16)).r bn bp (x231.1.set (Int.toNat x244) x252):=by rw [← dn];exact aF
        obtain⟨dq,dr,dt⟩:=bs dm;refine zg 3 rfl ?_;refine JLaC_ dr rfl rfl rfl ?_;refine zg 2 rfl ?_;obtain rfl:=oi dt;exact JLkw_ (de _ _ ((x231.1.set (Int.toNat x244) x252),dq) ⟨bn,bp,rfl,rfl,(aD.trq aE),bo,dp⟩ aS) rfl
       ·refine JL.exit rfl ?_;obtain rfl:=oi dh;obtain rfl:=dd _ aS;exact JLkw_ (dc _ _ ⟨aC,aj,rfl,rfl,aD,au,ak⟩) rfl
     ·refine JL.exit rfl ?_;obtain rfl:=oi cF;obtain rfl:=cB _ aO;exact JLkw_ (cA _ _ ⟨az,aq,rfl,rfl,ae,bd,bf⟩) rfl
   ·refine JL.exit rfl ?_;obtain rfl:=oi bV;obtain rfl:=bR _ aJ;exact JLkw_ (bQ _ _ ⟨ac,rfl,rfl,aa,a3⟩) rfl
def Mn(fuel:Nat)(p0:JW2)(p1:LKL)(p2:LKL):Option (Bool×Int):= (Fu fuel p0 p1).bind fun O=> if O≠0 then(some (false,O)) else((Fu fuel p0 p2).bind fun U=> if U≠0 then(some (false,U)) else((f92 fuel p0).bind fun Z=> (Z).bind fun K=> (f93 fuel K p1).bind fun V=> (f93 fuel K p2).bind fun x67=> Option.bind (if((V.2).length:Int)=0 then(some true) else(some (decide (((x67.2).length:Int)=0)))) fun aa=> if aa=true then(some (false,0)) else((f94 fuel p1 p2).bind fun x103=> (f93 fuel K x103).bind fun Y=> Option.bind (if 0<((Y.2).length:Int) then((Ac (V.1+x67.1)).bind fun ab=> some (decide (Y.1≤ab))) else(some false)) fun ac=> some (ac,0))))
theorem Vn{E:LH}{a1:OAd}{c2:Nat}{a4:OAd}{c5:Nat}{a7:OAd}{c8:Nat}{a10:OAd}{c11:Nat}{p0:JW2}{p1:LKL}{p2:LKL}(hG:GE E)(h3:LsR (rL rI) E a1 c2 (p0.1))(h6:LsR (rL rI) E a4 c5 (p0.2))(h9:LsR rLK E a7 c8 (p1))(h12:LsR rLK E a10 c11 (p2)){fuel:Nat}{r:Bool×Int}(hD:Mn fuel p0 p1 p2=some r):Al (mainWay Tryz.prog) 37 [.agg #[sV a1 p0.1 c2,sV a4 p0.2 c5],sV a7 p1 c8,sV a10 p2 c11] E [] (fun w E' B'=>w= .tuple #[.bool r.1,iV r.2]∧B'= []):=by
 refine Av func37 rfl rfl fun Q bF cs H hN ab=>?_;unfold Mn at hD;refine zg 2 rfl ?_;refine JS.box (v:= .agg #[sV a1 p0.1 c2,sV a4 p0.2 c5]) rfl rfl rfl hN rfl fun r14 hN13=>?_;refine JSfreezeB_ 1 hN13 rfl fun E15 hle16 h17 hN18=>?_;refine zg 6 rfl ?_;refine JLldN_ h17 q_aggT_ofunderlying24 q_szOf_oftype24 rfl rfl ?_;obtain⟨bG,aE,aF⟩:=bs hD;refine zg 1 rfl ?_;refine JScz_ (f69e_w (hG.moq hle16) (h3.moq hle16) (h6.moq hle16) (h9.moq hle16) aE) rfl rfl q_body_offunc69rfl hN18 fun E21 hle22 am=>?_;refine zg 7 rfl ?_;refine JLfi_ aF (fun aG aH=>?_) (fun aG aI=>?_)
 ·refine zg 6 rfl ?_;obtain rfl:=oi aH;refine Af func37 rfl rfl ?_;exact ab _ _ _ _ (hle16.trq hle22) rfl ⟨rfl,rfl⟩ am
 ·refine zg 4 rfl ?_;refine JLldN_ (h17.moq hle22) q_aggT_ofunderlying24 q_szOf_oftype24 rfl rfl ?_;obtain⟨bH,aJ,aK⟩:=bs aI;refine zg 1 rfl ?_;refine JScz_ (f69e_w (hG.moq (hle16.trq hle22)) (h3.moq (hle16.trq hle22)) (h6.moq (hle16.trq hle22)) (h12.moq (hle16.trq hle22)) aJ) rfl rfl q_body_offunc69rfl am fun bI O aL=>?_;refine Bm (S':= [[],[],[],[]]) rfl aL fun an=>?_;refine zg 7 rfl ?_;refine JLfi_ aK (fun aM aN=>?_) (fun aM aO=>?_)
  ·refine zg 6 rfl ?_;obtain rfl:=oi aN;refine Af func37 rfl rfl ?_;exact ab _ _ _ _ ((hle16.trq hle22).trq O) rfl ⟨rfl,rfl⟩ an
  ·refine zg 3 rfl ?_;refine JLldN_ (h17.moq (hle22.trq O)) q_aggT_ofunderlying24 q_szOf_oftype24 rfl rfl ?_;obtain⟨bJ,aP,aQ⟩:=bs aO;refine JScl_ (Kj (h3.moq ((hle16.trq hle22).trq O)) (h6.moq ((hle16.trq hle22).trq O)) aP) rfl rfl IM an ?_;rintro bK bL _ aa ⟨_,rfl,rfl,aR⟩ aS;obtain⟨bM,aT,aU⟩:=bs aQ;have ao:=aR;refine zg 6 rfl ?_;rw [aT] at ao;obtain⟨aV,aW,_,rfl,ac,⟨_,_,rfl,⟨bN,bO,rfl,ae⟩,⟨_,bP,rfl,⟨bQ,bR,rfl,ag⟩,ah⟩⟩⟩:=ao;obtain⟨ap,aX,aY⟩:=bs aU;refine JScl_ (Ke ac ae ag ah (h9.moq (((hle16.trq hle22).trq O).trq aa)) aX) rfl rfl IK aS ?_;rintro _ bS _ K ⟨a64,c65,rfl,rfl,h66⟩ aZ;obtain⟨x67,hx67,hD68⟩:=bs aY;refine zg 2 rfl ?_;refine JScl_ (Ke (ac.moq K) (ae.moq K) (ag.moq K) (Rp.moq _ K ah) (h12.moq ((((hle16.trq hle22).trq O).trq aa).trq K)) hx67) rfl rfl IK aZ ?_;rintro _ bT _ Y ⟨a72,c73,rfl,rfl,h74⟩ a0;refine Bm (S':= [[],[],[],[],[],[],[]]) rfl a0 fun a2=>?_;refine JS.alloc rfl rfl rfl a2 D5 fun a3 a5=>?_;refine JS.alloc rfl rfl rfl a5 D5 fun aq a6=>?_;refine JSst_ (v:= .agg #[iV ap.1,sV a64 ap.2 c65]) (off:=0) 7 a6 BR rfl rfl rfl rfl fun hN82=>?_;refine JSfreezeB_ 7 hN82 rfl fun bU Z h85 a8=>?_;refine Bm (S':= [[],[],[],[],[],[],[],[],[(aq,.cells #[iV 0,.slice none 0 0] 97 (0,0))]]) rfl a8 fun a9=>?_;refine JSst_ (v:= .agg #[iV x67.1,sV a72 x67.2 c73]) (off:=0) 8 a9 BR rfl rfl rfl rfl fun ba=>?_;refine JSfreezeB_ 8 ba rfl fun ai U ar au=>?_;refine zg 4 rfl ?_;refine Ar underlying97 BX rfl rfl rfl ?_;refine Aw 1 (h85.moq U) CY rfl rfl rfl ?_;refine JLln_ underlying95 rfl rfl rfl ?_;obtain⟨bb,bc,bd⟩:=bs hD68;refine zg 2 rfl ?_;refine JLjoinR_ [] (fun L s=>∃(av:LH),Jm ai H av [] [(1,sV a7 p1 c8),(2,sV a10 p2 c11),(10,pV aV aW),(11,pV a3 0),(12,pV aq 0),(43,.bool bb)] L s) ?_ ?_
   ·rintro _ _ ⟨av,rfl,rfl,V,aw⟩;refine JL.done ?_;refine JLfj_ bd (fun bf bg=>?_) (fun bf bh=>?_)
    ·refine zg 5 rfl ?_;obtain rfl:=oi bg;refine Af func37 rfl rfl ?_;exact ab _ _ _ _ ((((((((hle16.trq hle22).trq O).trq aa).trq K).trq Y).trq Z).trq U).trq V) rfl ⟨rfl,rfl⟩ aw
    ·obtain⟨x103,hx103,hD104⟩:=bs bh;refine zg 6 rfl ?_;refine JScl_ (VX (h9.moq ((((((((hle16.trq hle22).trq O).trq aa).trq K).trq Y).trq Z).trq U).trq V)) (h12.moq ((((((((hle16.trq hle22).trq O).trq aa).trq K).trq Y).trq Z).trq U).trq V)) hx103) rfl rfl (body_of func94 rfl) aw ?_;rintro _ E105 _ hle106 ⟨a108,c109,rfl,rfl,h110⟩ hN107;obtain⟨ay,bi,bj⟩:=bs hD104;refine JScl_ (Ke (ac.moq (((((K.trq Y).trq Z).trq U).trq V).trq hle106)) (ae.moq (((((K.trq Y).trq Z).trq U).trq V).trq hle106)) (ag.moq (((((K.trq Y).trq Z).trq U).trq V).trq hle106)) (Rp.moq _ (((((K.trq Y).trq Z).trq U).trq V).trq hle106) ah) h110 bi) rfl rfl IK hN107 ?_;rintro _ bV _ aj ⟨bk,bl,rfl,rfl,bW⟩ hN115;refine Bm (S':= [[],[]]) rfl hN115 fun bm=>?_;refine JS.alloc rfl rfl rfl bm D5 fun bX bn=>?_;refine JSst_ (v:= .agg #[iV ay.1,sV bk ay.2 bl]) (off:=0) 2 bn BR rfl rfl rfl rfl fun bo=>?_;refine JSfreezeB_ 2 bo rfl fun ak al az aA=>?_;refine zg 3 rfl ?_;refine Ar underlying97 BX rfl rfl rfl ?_;refine Aw 1 az CY rfl rfl rfl ?_;refine JLln_ underlying95 rfl rfl rfl ?_;obtain⟨bp,bq,br⟩:=bs bj;refine zg 2 rfl ?_;refine JLjoinR_ [14,15] (fun L s=>∃(aB:LH),Jm ak H aB [] [(62,.bool bp)] L s) ?_ ?_
     ·rintro _ _ ⟨aB,rfl,rfl,bu,bv⟩;refine zg 3 rfl ?_;obtain rfl:=oi br;refine Af func37 rfl rfl ?_;exact ab _ _ _ _ ((((((((((((hle16.trq hle22).trq O).trq aa).trq K).trq Y).trq Z).trq U).trq V).trq hle106).trq aj).trq al).trq bu) rfl ⟨rfl,rfl⟩ bv
     ·intro aC;refine C3 53 bq (fun bw bx=>?_) (fun bw bz=>?_)
      ·refine Ar underlying97 q_szOf_oftype3 rfl rfl rfl ?_;refine Aw 0 az q_aggT_ofunderlying3 rfl rfl rfl ?_;refine Ar underlying97 q_szOf_oftype3 rfl rfl rfl ?_;refine Aw 0 (h85.moq ((((U.trq V).trq hle106).trq aj).trq al)) q_aggT_ofunderlying3 rfl rfl rfl ?_;refine Ar underlying97 q_szOf_oftype3 rfl rfl rfl ?_;refine Aw 0 (ar.moq (((V.trq hle106).trq aj).trq al)) q_aggT_ofunderlying3 rfl rfl rfl ?_;obtain⟨bY,bA,bB⟩:=bs bx;refine JLaC_ bA rfl rfl rfl ?_;refine zg 2 rfl ?_;obtain rfl:=oi bB;exact JLkw_ (aC _ _ ⟨ak,rfl,rfl,lR_,aA⟩) rfl
      ·refine zg 9 rfl ?_;obtain rfl:=oi bz;exact JLkw_ (aC _ _ ⟨ak,rfl,rfl,lR_,aA⟩) rfl
   ·intro aD;refine C3 38 bc (fun bC bD=>?_) (fun bC bE=>?_)
    ·refine zg 5 rfl ?_;obtain rfl:=oi bD;exact JLkw_ (aD _ _ ⟨ai,rfl,rfl,lR_,au⟩) rfl
    ·refine Ar underlying97 BX rfl rfl rfl ?_;refine Aw 1 ar CY rfl rfl rfl ?_;refine JLln_ underlying95 rfl rfl rfl ?_;refine zg 2 rfl ?_;obtain rfl:=oi bE;exact JLkw_ (aD _ _ ⟨ai,rfl,rfl,lR_,au⟩) rfl
end Pal
namespace Pal
open Go Go.Conc Go.Proofs
open Go.Proofs.Tryz
def Ht(fuel:Nat):Option (Bool):= (f71 fuel).bind fun ac=> (Hu fuel ac 4).bind fun U=> (f71 fuel).bind fun ae=> (Mc fuel ae 5).bind fun V=> (f71 fuel).bind fun ag=> (f72 fuel).bind fun ah=> (Ma fuel ag ah 2).bind fun Y=> (f71 fuel).bind fun ai=> (Ml fuel ai ([])).bind fun Z=> (f71 fuel).bind fun aj=> (f73 fuel).bind fun ak=> (Mh fuel aj ak 1).bind fun aa=> (f71 fuel).bind fun al=> (Mf fuel al ([])).bind fun K=> (f71 fuel).bind fun am=> (f72 fuel).bind fun x135=> (f72 fuel).bind fun an=> (Mn fuel am x135 an).bind fun ab=> (f71 fuel).bind fun ao=> (f73 fuel).bind fun ap=> (Mo fuel ao ap).bind fun O=> Option.bind (if U.2=0 then(some (decide (V.2=0))) else(some false)) fun aq=> Option.bind (if aq=true then(some (decide (Y.2=0))) else(some false)) fun ar=> Option.bind (if ar=true then(some (decide (Z.2=0))) else(some false)) fun au=> Option.bind (if au=true then(some (decide (aa.2=0))) else(some false)) fun av=> Option.bind (if av=true then(some (decide (K.2.2=0))) else(some false)) fun aw=> Option.bind (if aw=true then(some (decide (ab.2=0))) else(some false)) fun x215=> Option.bind (if x215=true then(some (decide (O.2.2=0))) else(some false)) fun ay=> Option.bind (if ay=true then(some (decide (V.1=3))) else(some false)) fun az=> Option.bind (if az=true then(some (decide (Z.1=15))) else(some false)) fun aA=> Option.bind (if aA=true then(some (decide (aa.1=1))) else(some false)) fun x239=> Option.bind (if x239=true then(some (decide (K.1=0))) else(some false)) fun aB=> Option.bind (if aB=true then(some (decide (K.2.1=9))) else(some false)) fun aC=> Option.bind (if aC=true then(some ab.1) else(some false)) fun aD=> Option.bind (if aD=true then(some (decide (O.1=3))) else(some false)) fun x263=> Option.bind (if x263=true then((f32 fuel U.1 ([4,5]:List Int)).bind fun aE=> some aE) else(some false)) fun aF=> Option.bind (if aF=true then((f32 fuel Y.1 ([2,3,4]:List Int)).bind fun aG=> some aG) else(some false)) fun aH=> Option.bind (if aH=true then((f32 fuel O.2.1 ([3,4]:List Int)).bind fun aI=> some aI) else(some false)) fun aJ=> some aJ
theorem f22e_w{E:LH}(hG:GE E){fuel:Nat}{r:Bool}(hD:Ht fuel=some r):Al (mainWay Tryz.prog) 22 [] E [] (fun w E' B'=>w= .bool r∧B'= []):=by
 refine Av func22 rfl rfl fun Q fx cs H hN bV=>?_;unfold Ht at hD;obtain⟨fy,bW,bX⟩:=bs hD;refine zg 6 rfl ?_;refine JScl_ (Gj bW) rfl rfl F2 hN ?_;rintro _ fz _ ak ⟨fA,fB,fC,fD,rfl,rfl,bY,bZ⟩ b0;obtain⟨ac,b1,b2⟩:=bs bX;refine JScl_ (f51e_w (hG.moq ak) bY bZ b1) rfl rfl (body_of func51 rfl) b0 ?_;rintro _ fE _ an ⟨ae,ag,rfl,rfl,b3⟩ b4;obtain⟨fF,b5,b6⟩:=bs b2;refine zg 8 rfl ?_;refine JScl_ (Gj b5) rfl rfl F2 b4 ?_;rintro _ fG _ al ⟨fH,fI,fJ,fK,rfl,rfl,b7,b8⟩ hN24;obtain⟨ar,b9,hD33⟩:=bs b6;refine JScz_ (UA (hG.moq ((ak.trq an).trq al)) b7 b8 b9) rfl rfl (body_of func57 rfl) hN24 fun E34 hle35 hN36=>?_;obtain⟨fL,ca,hD38⟩:=bs hD33;refine zg 8 rfl ?_;refine JScl_ (Gj ca) rfl rfl F2 hN36 ?_;rintro _ fM _ ao ⟨fN,fO,fP,fQ,rfl,rfl,cb,cc⟩ cd;obtain⟨fR,ce,cf⟩:=bs hD38;refine JScl_ (L9 ce) rfl rfl KN cd ?_;rintro _ fS _ ai ⟨fT,fU,rfl,rfl,cg⟩ ci;obtain⟨V,ck,cm⟩:=bs cf;refine JScl_ (VG (hG.moq (((((ak.trq an).trq al).trq hle35).trq ao).trq ai)) (cb.moq ai) (cc.moq ai) cg ck) rfl rfl (body_of func43 rfl) ci ?_;rintro _ fV _ au ⟨aa,ab,rfl,rfl,cn⟩ co;obtain⟨fW,cp,cq⟩:=bs cm;refine zg 8 rfl ?_;refine JScl_ (Gj cp) rfl rfl F2 co ?_;rintro _ fX _ ap ⟨fY,fZ,ga,gb,rfl,rfl,cr,ct⟩ cu;obtain⟨aj,cv,cw⟩:=bs cq;refine JScz_ (Uq (hG.moq (((((((ak.trq an).trq al).trq hle35).trq ao).trq ai).trq au).trq ap)) cr ct LsR.nil cv) rfl rfl (body_of func28 rfl) cu fun gc av cy=>?_;obtain⟨gd,cz,cA⟩:=bs cw;refine zg 8 rfl ?_;refine JScl_ (Gj cz) rfl rfl F2 cy ?_;rintro _ ge _ aw ⟨gf,gg,gh,gi,rfl,rfl,cB,cC⟩ cD;obtain⟨gj,cE,cF⟩:=bs cA;refine JScl_ (PL cE) rfl rfl (body_of func73 rfl) cD ?_;rintro _ gk _ am ⟨gl,gm,rfl,rfl,h100⟩ cG;obtain⟨ah,cH,cI⟩:=bs cF;refine JScz_ (UP (hG.moq ((((((((((ak.trq an).trq al).trq hle35).trq ao).trq ai).trq au).trq ap).trq av).trq aw).trq am)) (cB.moq am) (cC.moq am) h100 cH) rfl rfl (body_of func49 rfl) cG fun gn az cJ=>?_;obtain⟨gp,cK,cM⟩:=bs cI;refine zg 8 rfl ?_;refine JScl_ (Gj cK) rfl rfl F2 cJ ?_;rintro _ gq _ aA ⟨gr,gt,gu,gv,rfl,rfl,h114,cN⟩ cO;obtain⟨O,cP,cQ⟩:=bs cM;refine JScz_ (VC (hG.moq ((((((((((((ak.trq an).trq al).trq hle35).trq ao).trq ai).trq au).trq ap).trq av).trq aw).trq am).trq az).trq aA)) h114 cN LsR.nil cP) rfl rfl (body_of func35 rfl) cO fun gw aC cR=>?_;obtain⟨gx,cT,cV⟩:=bs cQ;refine zg 10 rfl ?_;refine JScl_ (Gj cT) rfl rfl F2 cR ?_;rintro _ gy _ aD ⟨gz,gA,gB,gC,rfl,rfl,cW,cX⟩ cY;obtain⟨x135,cZ,c0⟩:=bs cV;refine JScl_ (L9 cZ) rfl rfl KN cY ?_;rintro _ gD _ ay ⟨gE,gF,rfl,rfl,c1⟩ c3;obtain⟨gG,c4,c6⟩:=bs c0;refine JScl_ (L9 c4) rfl rfl KN c3 ?_;rintro _ gH _ aq ⟨gI,gJ,rfl,rfl,c7⟩ c9;obtain⟨U,da,db⟩:=bs c6;refine JScz_ (Vn (hG.moq ((((((((((((((((ak.trq an).trq al).trq hle35).trq ao).trq ai).trq au).trq ap).trq av).trq aw).trq am).trq az).trq aA).trq aC).trq aD).trq ay).trq aq)) (cW.moq (ay.trq aq)) (cX.moq (ay.trq aq)) (c1.moq aq) c7 da) rfl rfl (body_of func37 rfl) c9 fun gK aR dc=>?_;obtain⟨gL,dd,hD158⟩:=bs db;refine zg 8 rfl ?_;refine JScl_ (Gj dd) rfl rfl F2 dc ?_;rintro _ gM _ aS ⟨gN,gO,gP,gQ,rfl,rfl,de,df⟩ dg;obtain⟨gR,dh,di⟩:=bs hD158;refine JScl_ (PL dh) rfl rfl (body_of func73 rfl) dg ?_;rintro _ gS _ aB ⟨gT,gU,rfl,rfl,dj⟩ dk;obtain⟨K,dl,dm⟩:=bs di;refine JScl_ (UX (hG.moq (((((((((((((((((((ak.trq an).trq al).trq hle35).trq ao).trq ai).trq au).trq ap).trq av).trq aw).trq am).trq az).trq aA).trq aC).trq aD).trq ay).trq aq).trq aR).trq aS).trq aB)) (de.moq aB) (df.moq aB) dj dl) rfl rfl (body_of func30 rfl) dk ?_;rintro _ bd _ bf ⟨Y,Z,rfl,rfl,dn⟩ bh;obtain⟨dp,dq,dr⟩:=bs dm;refine zg 13 rfl ?_;refine JLjoinR_ [6,7,8,9,10,11,12,13,14,15,16,17,18,19,20,21,22,23,24,25,26,27,28,29,30,31,32,33,34,35,36,37,38,39,40,41,42,43,44,45,46,47,48,49,50,51,52,53,54,55,56,57,58,59,60,61,62,63,64,65,66,67,68,69,70,71,72] (fun L s=>∃(aE:LH),Jm bd H aE [] [(1,sV ae ac.1 ag),(3,iV ar.1),(5,sV aa V.1 ab),(6,iV V.2),(7,iV aj.1),(8,iV aj.2),(9,iV ah.1),(10,iV ah.2),(11,iV O.1),(12,iV O.2.1),(13,iV O.2.2),(14,.bool U.1),(15,iV U.2),(16,iV K.1),(17,sV Y K.2.1 Z),(18,iV K.2.2),(71,.bool dp)] L s) ?_ ?_
 ·rintro _ _ ⟨aE,rfl,rfl,aT,bi⟩;obtain⟨dt,du,dv⟩:=bs dr;refine zg 1 rfl ?_;refine JLjoinR_ [10,11,12,13,14,15,16,17,18,19,20,21,22,23,24,25,26,27,28,29,30,31,32,33,34,35,36,37,38,39,40,41,42,43,44,45,46,47,48,49,50,51,52,53,54,55,56,57,58,59,60,61,62,63,64,65,66,67,68,69,70,71,72] (fun L s=>∃(aF:LH),Jm aE H aF [] [(1,sV ae ac.1 ag),(3,iV ar.1),(5,sV aa V.1 ab),(7,iV aj.1),(8,iV aj.2),(9,iV ah.1),(10,iV ah.2),(11,iV O.1),(12,iV O.2.1),(13,iV O.2.2),(14,.bool U.1),(15,iV U.2),(16,iV K.1),(17,sV Y K.2.1 Z),(18,iV K.2.2),(75,.bool dt)] L s) ?_ ?_
  ·rintro _ _ ⟨aF,rfl,rfl,aU,bj⟩;obtain⟨dw,dx,dy⟩:=bs dv;refine zg 1 rfl ?_;refine JLjoinR_ [14,15,16,17,18,19,20,21,22,23,24,25,26,27,28,29,30,31,32,33,34,35,36,37,38,39,40,41,42,43,44,45,46,47,48,49,50,51,52,53,54,55,56,57,58,59,60,61,62,63,64,65,66,67,68,69,70,71,72] (fun L s=>∃(aG:LH),Jm aF H aG [] [(1,sV ae ac.1 ag),(3,iV ar.1),(5,sV aa V.1 ab),(7,iV aj.1),(9,iV ah.1),(10,iV ah.2),(11,iV O.1),(12,iV O.2.1),(13,iV O.2.2),(14,.bool U.1),(15,iV U.2),(16,iV K.1),(17,sV Y K.2.1 Z),(18,iV K.2.2),(79,.bool dw)] L s) ?_ ?_
   ·rintro _ _ ⟨aG,rfl,rfl,aV,bk⟩;obtain⟨dz,dA,dB⟩:=bs dy;refine zg 1 rfl ?_;refine JLjoinR_ [18,19,20,21,22,23,24,25,26,27,28,29,30,31,32,33,34,35,36,37,38,39,40,41,42,43,44,45,46,47,48,49,50,51,52,53,54,55,56,57,58,59,60,61,62,63,64,65,66,67,68,69,70,71,72] (fun L s=>∃(aH:LH),Jm aG H aH [] [(1,sV ae ac.1 ag),(3,iV ar.1),(5,sV aa V.1 ab),(7,iV aj.1),(9,iV ah.1),(11,iV O.1),(12,iV O.2.1),(13,iV O.2.2),(14,.bool U.1),(15,iV U.2),(16,iV K.1),(17,sV Y K.2.1 Z),(18,iV K.2.2),(83,.bool dz)] L s) ?_ ?_
    ·rintro _ _ ⟨aH,rfl,rfl,aW,bl⟩;obtain⟨dC,dD,dE⟩:=bs dB;refine zg 1 rfl ?_;refine JLjoinR_ [22,23,24,25,26,27,28,29,30,31,32,33,34,35,36,37,38,39,40,41,42,43,44,45,46,47,48,49,50,51,52,53,54,55,56,57,58,59,60,61,62,63,64,65,66,67,68,69,70,71,72] (fun L s=>∃(aI:LH),Jm aH H aI [] [(1,sV ae ac.1 ag),(3,iV ar.1),(5,sV aa V.1 ab),(7,iV aj.1),(9,iV ah.1),(11,iV O.1),(12,iV O.2.1),(14,.bool U.1),(15,iV U.2),(16,iV K.1),(17,sV Y K.2.1 Z),(18,iV K.2.2),(87,.bool dC)] L s) ?_ ?_
     ·rintro _ _ ⟨aI,rfl,rfl,aX,bm⟩;obtain⟨x215,dF,dG⟩:=bs dE;refine zg 1 rfl ?_;refine JLjoinR_ [26,27,28,29,30,31,32,33,34,35,36,37,38,39,40,41,42,43,44,45,46,47,48,49,50,51,52,53,54,55,56,57,58,59,60,61,62,63,64,65,66,67,68,69,70,71,72] (fun L s=>∃(aJ:LH),Jm aI H aJ [] [(1,sV ae ac.1 ag),(3,iV ar.1),(5,sV aa V.1 ab),(7,iV aj.1),(9,iV ah.1),(11,iV O.1),(12,iV O.2.1),(14,.bool U.1),(16,iV K.1),(17,sV Y K.2.1 Z),(18,iV K.2.2),(91,.bool x215)] L s) ?_ ?_
      ·rintro _ _ ⟨aJ,rfl,rfl,aY,bn⟩;obtain⟨dH,dI,dJ⟩:=bs dG;refine zg 1 rfl ?_;refine JLjoinR_ [30,31,32,33,34,35,36,37,38,39,40,41,42,43,44,45,46,47,48,49,50,51,52,53,54,55,56,57,58,59,60,61,62,63,64,65,66,67,68,69,70,71,72] (fun L s=>∃(aK:LH),Jm aJ H aK [] [(1,sV ae ac.1 ag),(3,iV ar.1),(5,sV aa V.1 ab),(7,iV aj.1),(9,iV ah.1),(11,iV O.1),(12,iV O.2.1),(14,.bool U.1),(16,iV K.1),(17,sV Y K.2.1 Z),(95,.bool dH)] L s) ?_ ?_
       ·rintro _ _ ⟨aK,rfl,rfl,aZ,bo⟩;obtain⟨dK,dL,dM⟩:=bs dJ;refine zg 1 rfl ?_;refine JLjoinR_ [34,35,36,37,38,39,40,41,42,43,44,45,46,47,48,49,50,51,52,53,54,55,56,57,58,59,60,61,62,63,64,65,66,67,68,69,70,71,72] (fun L s=>∃(aL:LH),Jm aK H aL [] [(1,sV ae ac.1 ag),(5,sV aa V.1 ab),(7,iV aj.1),(9,iV ah.1),(11,iV O.1),(12,iV O.2.1),(14,.bool U.1),(16,iV K.1),(17,sV Y K.2.1 Z),(99,.bool dK)] L s) ?_ ?_
        ·rintro _ _ ⟨aL,rfl,rfl,a0,bp⟩;obtain⟨dN,dO,dP⟩:=bs dM;refine zg 1 rfl ?_;refine JLjoinR_ [38,39,40,41,42,43,44,45,46,47,48,49,50,51,52,53,54,55,56,57,58,59,60,61,62,63,64,65,66,67,68,69,70,71,72] (fun L s=>∃(aM:LH),Jm aL H aM [] [(1,sV ae ac.1 ag),(5,sV aa V.1 ab),(9,iV ah.1),(11,iV O.1),(12,iV O.2.1),(14,.bool U.1),(16,iV K.1),(17,sV Y K.2.1 Z),(103,.bool dN)] L s) ?_ ?_
         ·rintro _ _ ⟨aM,rfl,rfl,a2,bq⟩;obtain⟨x239,dQ,dR⟩:=bs dP;refine zg 1 rfl ?_;refine JLjoinR_ [42,43,44,45,46,47,48,49,50,51,52,53,54,55,56,57,58,59,60,61,62,63,64,65,66,67,68,69,70,71,72] (fun L s=>∃(aN:LH),Jm aM H aN [] [(1,sV ae ac.1 ag),(5,sV aa V.1 ab),(11,iV O.1),(12,iV O.2.1),(14,.bool U.1),(16,iV K.1),(17,sV Y K.2.1 Z),(107,.bool x239)] L s) ?_ ?_
          ·rintro _ _ ⟨aN,rfl,rfl,a3,br⟩;obtain⟨dS,dT,dU⟩:=bs dR;refine zg 1 rfl ?_;refine JLjoinR_ [46,47,48,49,50,51,52,53,54,55,56,57,58,59,60,61,62,63,64,65,66,67,68,69,70,71,72] (fun L s=>∃(aO:LH),Jm aN H aO [] [(1,sV ae ac.1 ag),(5,sV aa V.1 ab),(12,iV O.2.1),(14,.bool U.1),(16,iV K.1),(17,sV Y K.2.1 Z),(111,.bool dS)] L s) ?_ ?_
           ·rintro _ _ ⟨aO,rfl,rfl,a5,bu⟩;obtain⟨dV,dW,hD253⟩:=bs dU;refine zg 1 rfl ?_;refine JLjoinR_ [50,51,52,53,54,55,56,57,58,59,60,61,62,63,64,65,66,67,68,69,70,71,72] (fun L s=>∃(aP:LH),Jm aO H aP [] [(1,sV ae ac.1 ag),(5,sV aa V.1 ab),(14,.bool U.1),(16,iV K.1),(17,sV Y K.2.1 Z),(115,.bool dV)] L s) ?_ ?_
            ·rintro _ _ ⟨aP,rfl,rfl,a6,bv⟩;obtain⟨dX,dY,dZ⟩:=bs hD253;refine zg 1 rfl ?_;refine JLjoinR_ [53,54,55,56,57,58,59,60,61,62,63,64,65,66,67,68,69,70,71,72] (fun L s=>∃(aQ:LH),Jm aP H aQ [] [(1,sV ae ac.1 ag),(5,sV aa V.1 ab),(16,iV K.1),(17,sV Y K.2.1 Z),(118,.bool dX)] L s) ?_ ?_
             ·rintro _ _ ⟨aQ,rfl,rfl,a8,bw⟩;obtain⟨x263,ea,eb⟩:=bs dZ;refine zg 1 rfl ?_;refine JLjoinR_ [57,58,59,60,61,62,63,64,65,66,67,68,69,70,71,72] (fun L s=>∃(a9:LH),Jm aQ H a9 [] [(1,sV ae ac.1 ag),(5,sV aa V.1 ab),(17,sV Y K.2.1 Z),(122,.bool x263)] L s) ?_ ?_
              ·rintro _ _ ⟨a9,rfl,rfl,ba,bx⟩;obtain⟨ec,ed,ee⟩:=bs eb;refine zg 1 rfl ?_;refine JLjoinR_ [62,63,64,65,66,67,68,69,70,71,72] (fun L s=>∃(bb:LH),Jm a9 H bb [] [(5,sV aa V.1 ab),(17,sV Y K.2.1 Z),(127,.bool ec)] L s) ?_ ?_
               ·rintro _ _ ⟨bb,rfl,rfl,bg,bz⟩;obtain⟨ef,eg,hD277⟩:=bs ee;refine zg 1 rfl ?_;refine JLjoinR_ [67,68,69,70,71,72] (fun L s=>∃(bc:LH),Jm bb H bc [] [(17,sV Y K.2.1 Z),(132,.bool ef)] L s) ?_ ?_
                ·rintro _ _ ⟨bc,rfl,rfl,bA,bB⟩;obtain⟨eh,ei,ej⟩:=bs hD277;refine zg 1 rfl ?_;refine JLjoinR_ [72] (fun L s=>∃(bC:LH),Jm bc H bC [] [(137,.bool eh)] L s) ?_ ?_
                 ·rintro _ _ ⟨bC,rfl,rfl,ek,el⟩;refine zg 2 rfl ?_;obtain rfl:=oi ej;refine Af func22 rfl rfl ?_;exact bV _ _ _ _ (((((((((((((((((((((((((((((((((((((ak.trq an).trq al).trq hle35).trq ao).trq ai).trq au).trq ap).trq av).trq aw).trq am).trq az).trq aA).trq aC).trq aD).trq ay).trq aq).trq aR).trq aS).trq aB).trq bf).trq aT).trq aU).trq aV).trq aW).trq aX).trq aY).trq aZ).trq a0).trq a2).trq a3).trq a5).trq a6).trq a8).trq ba).trq bg).trq bA).trq ek) rfl ⟨rfl,rfl⟩ el
                 ·intro bD;refine JLgj_ 133 ei (fun em en=>?_) (fun em eo=>?_)
                  ·refine zg 1 rfl ?_;refine JSlit_ (pp:=rI) [iV 3,iV 4] [3,4] rfl rfl rfl underlying28 q_szOf_oftype3 q_zeroOf_oftype3 (by decide) rfl rfl rfl ⟨rfl,rfl,trivial⟩ bB fun gV gW ep eq=>?_;refine JSfreezeL_ 0 ep eq rfl fun gX bE er et=>?_;obtain⟨gY,eu,ew⟩:=bs en;refine JScz_ (f32_w (dn.moq ((((((((((((((((aT.trq aU).trq aV).trq aW).trq aX).trq aY).trq aZ).trq a0).trq a2).trq a3).trq a5).trq a6).trq a8).trq ba).trq bg).trq bA).trq bE)) er eu) rfl rfl q_body_offunc32rfl et fun ex ey ez=>?_;refine zg 1 rfl ?_;obtain rfl:=oi ew;exact JLkw_ (bD _ _ ⟨ex,rfl,rfl,(bE.trq ey),ez⟩) rfl
                  ·refine zg 4 rfl ?_;obtain rfl:=oi eo;exact JLkw_ (bD _ _ ⟨bc,rfl,rfl,lR_,bB⟩) rfl
                ·intro bF;refine JLgj_ 128 eg (fun eA eB=>?_) (fun eA eC=>?_)
                 ·refine zg 1 rfl ?_;refine JSlit_ (pp:=rI) [iV 2,iV 3,iV 4] [2,3,4] rfl rfl rfl underlying28 q_szOf_oftype3 q_zeroOf_oftype3 (by decide) rfl rfl rfl ⟨rfl,rfl,rfl,trivial⟩ bz fun gZ g0 eD eE=>?_;refine JSfreezeL_ 0 eD eE rfl fun g1 bG eF eG=>?_;obtain⟨g2,eH,eI⟩:=bs eB;refine JScz_ (f32_w (cn.moq (((((((((((((((((((((((((((((ap.trq av).trq aw).trq am).trq az).trq aA).trq aC).trq aD).trq ay).trq aq).trq aR).trq aS).trq aB).trq bf).trq aT).trq aU).trq aV).trq aW).trq aX).trq aY).trq aZ).trq a0).trq a2).trq a3).trq a5).trq a6).trq a8).trq ba).trq bg).trq bG)) eF eH) rfl rfl q_body_offunc32rfl eG fun eJ eK eL=>?_;refine zg 1 rfl ?_;obtain rfl:=oi eI;exact JLkw_ (bF _ _ ⟨eJ,rfl,rfl,(bG.trq eK),eL⟩) rfl
                 ·refine zg 4 rfl ?_;obtain rfl:=oi eC;exact JLkw_ (bF _ _ ⟨bb,rfl,rfl,lR_,bz⟩) rfl
               ·intro bH;refine JLgj_ 123 ed (fun eM hD335=>?_) (fun eM eN=>?_)
                ·refine zg 1 rfl ?_;refine JSlit_ (pp:=rI) [iV 4,iV 5] [4,5] rfl rfl rfl underlying28 q_szOf_oftype3 q_zeroOf_oftype3 (by decide) rfl rfl rfl ⟨rfl,rfl,trivial⟩ bx fun g3 g4 eO eP=>?_;refine JSfreezeL_ 0 eO eP rfl fun g5 bI eQ hN344=>?_;obtain⟨g6,eR,hD346⟩:=bs hD335;refine JScz_ (f32_w (b3.moq (((((((((((((((((((((((((((((((((al.trq hle35).trq ao).trq ai).trq au).trq ap).trq av).trq aw).trq am).trq az).trq aA).trq aC).trq aD).trq ay).trq aq).trq aR).trq aS).trq aB).trq bf).trq aT).trq aU).trq aV).trq aW).trq aX).trq aY).trq aZ).trq a0).trq a2).trq a3).trq a5).trq a6).trq a8).trq ba).trq bI)) eQ eR) rfl rfl q_body_offunc32rfl hN344 fun eS eT eU=>?_;refine zg 1 rfl ?_;obtain rfl:=oi hD346;exact JLkw_ (bH _ _ ⟨eS,rfl,rfl,(bI.trq eT),eU⟩) rfl
                ·refine zg 4 rfl ?_;obtain rfl:=oi eN;exact JLkw_ (bH _ _ ⟨a9,rfl,rfl,lR_,bx⟩) rfl
              ·intro bJ;refine JLgj_ 119 ea (fun eV eW=>?_) (fun eV eX=>?_)
               ·refine zg 3 rfl ?_;obtain rfl:=oi eW;exact JLkw_ (bJ _ _ ⟨aQ,rfl,rfl,lR_,bw⟩) rfl
               ·refine zg 3 rfl ?_;obtain rfl:=oi eX;exact JLkw_ (bJ _ _ ⟨aQ,rfl,rfl,lR_,bw⟩) rfl
             ·intro bK;refine JLgj_ 116 dY (fun eY eZ=>?_) (fun eY e0=>?_)
              ·refine zg 2 rfl ?_;obtain rfl:=oi eZ;exact JLkw_ (bK _ _ ⟨aP,rfl,rfl,lR_,bv⟩) rfl
              ·refine zg 2 rfl ?_;obtain rfl:=oi e0;exact JLkw_ (bK _ _ ⟨aP,rfl,rfl,lR_,bv⟩) rfl
            ·intro bL;refine JLgj_ 112 dW (fun e1 e2=>?_) (fun e1 e3=>?_)
             ·refine zg 3 rfl ?_;obtain rfl:=oi e2;exact JLkw_ (bL _ _ ⟨aO,rfl,rfl,lR_,bu⟩) rfl
             ·refine zg 3 rfl ?_;obtain rfl:=oi e3;exact JLkw_ (bL _ _ ⟨aO,rfl,rfl,lR_,bu⟩) rfl
           ·intro hj375;refine JLgj_ 108 dT (fun c377 hD378=>?_) (fun c377 hD380=>?_)
            ·refine zg 3 rfl ?_;obtain rfl:=oi hD378;exact JLkw_ (hj375 _ _ ⟨aN,rfl,rfl,lR_,br⟩) rfl
            ·refine zg 3 rfl ?_;obtain rfl:=oi hD380;exact JLkw_ (hj375 _ _ ⟨aN,rfl,rfl,lR_,br⟩) rfl
          ·intro bM;refine JLgj_ 104 dQ (fun c384 e4=>?_) (fun c384 e5=>?_)
           ·refine zg 3 rfl ?_;obtain rfl:=oi e4;exact JLkw_ (bM _ _ ⟨aM,rfl,rfl,lR_,bq⟩) rfl
           ·refine zg 3 rfl ?_;obtain rfl:=oi e5;exact JLkw_ (bM _ _ ⟨aM,rfl,rfl,lR_,bq⟩) rfl
         ·intro bN;refine JLgj_ 100 dO (fun e6 e7=>?_) (fun e6 e8=>?_)
          ·refine zg 3 rfl ?_;obtain rfl:=oi e7;exact JLkw_ (bN _ _ ⟨aL,rfl,rfl,lR_,bp⟩) rfl
          ·refine zg 3 rfl ?_;obtain rfl:=oi e8;exact JLkw_ (bN _ _ ⟨aL,rfl,rfl,lR_,bp⟩) rfl
        ·intro bO;refine JLgj_ 96 dL (fun e9 fa=>?_) (fun e9 hD401=>?_)
         ·refine zg 3 rfl ?_;obtain rfl:=oi fa;exact JLkw_ (bO _ _ ⟨aK,rfl,rfl,lR_,bo⟩) rfl
         ·refine zg 3 rfl ?_;obtain rfl:=oi hD401;exact JLkw_ (bO _ _ ⟨aK,rfl,rfl,lR_,bo⟩) rfl
       ·intro bP;refine JLgj_ 92 dI (fun fb fc=>?_) (fun fb fd=>?_)
        ·refine zg 3 rfl ?_;obtain rfl:=oi fc;exact JLkw_ (bP _ _ ⟨aJ,rfl,rfl,lR_,bn⟩) rfl
        ·refine zg 3 rfl ?_;obtain rfl:=oi fd;exact JLkw_ (bP _ _ ⟨aJ,rfl,rfl,lR_,bn⟩) rfl
      ·intro hj410;refine JLgj_ 88 dF (fun fe ff=>?_) (fun fe fg=>?_)
       ·refine zg 3 rfl ?_;obtain rfl:=oi ff;exact JLkw_ (hj410 _ _ ⟨aI,rfl,rfl,lR_,bm⟩) rfl
       ·refine zg 3 rfl ?_;obtain rfl:=oi fg;exact JLkw_ (hj410 _ _ ⟨aI,rfl,rfl,lR_,bm⟩) rfl
     ·intro bQ;refine JLgj_ 84 dD (fun fh hD420=>?_) (fun fh fj=>?_)
      ·refine zg 3 rfl ?_;obtain rfl:=oi hD420;exact JLkw_ (bQ _ _ ⟨aH,rfl,rfl,lR_,bl⟩) rfl
      ·refine zg 3 rfl ?_;obtain rfl:=oi fj;exact JLkw_ (bQ _ _ ⟨aH,rfl,rfl,lR_,bl⟩) rfl
    ·intro bR;refine JLgj_ 80 dA (fun fk hD427=>?_) (fun fk hD429=>?_)
     ·refine zg 3 rfl ?_;obtain rfl:=oi hD427;exact JLkw_ (bR _ _ ⟨aG,rfl,rfl,lR_,bk⟩) rfl
     ·refine zg 3 rfl ?_;obtain rfl:=oi hD429;exact JLkw_ (bR _ _ ⟨aG,rfl,rfl,lR_,bk⟩) rfl
   ·intro bS;refine JLgj_ 76 dx (fun fm fo=>?_) (fun fm fp=>?_)
    ·refine zg 3 rfl ?_;obtain rfl:=oi fo;exact JLkw_ (bS _ _ ⟨aF,rfl,rfl,lR_,bj⟩) rfl
    ·refine zg 3 rfl ?_;obtain rfl:=oi fp;exact JLkw_ (bS _ _ ⟨aF,rfl,rfl,lR_,bj⟩) rfl
  ·intro bT;refine JLgj_ 72 du (fun fq fs=>?_) (fun fq fu=>?_)
   ·refine zg 3 rfl ?_;obtain rfl:=oi fs;exact JLkw_ (bT _ _ ⟨aE,rfl,rfl,lR_,bi⟩) rfl
   ·refine zg 3 rfl ?_;obtain rfl:=oi fu;exact JLkw_ (bT _ _ ⟨aE,rfl,rfl,lR_,bi⟩) rfl
 ·intro bU;refine C3 68 dq (fun fv hD448=>?_) (fun fv fw=>?_)
  ·refine zg 3 rfl ?_;obtain rfl:=oi hD448;exact JLkw_ (bU _ _ ⟨bd,rfl,rfl,lR_,bh⟩) rfl
  ·refine zg 3 rfl ?_;obtain rfl:=oi fw;exact JLkw_ (bU _ _ ⟨bd,rfl,rfl,lR_,bh⟩) rfl
end Pal
namespace Pal
theorem Cg{f:Nat→Option Int}{n i:Nat}{c:Int}(K:∀q,q<i→f q=none)(O:f i=some c)(hi:i<n):(List.range n).findSome? f=some c:=by
 have key:∀(k:Nat),i<k→(List.range k).findSome? f=some c:=by
  intro k
  induction k with
  | zero=>intro h;omega
  | succ k U=>
   intro h;rw [List.range_succ,List.findSome?_append];by_cases e:i=k
   ·subst e;have:(List.range i).findSome? f=none:=List.findSome?_eq_none_iff.2 fun q V=>K q (List.mem_range.1 V);rw [this];simp [O]
   ·rw [U (by omega)];rfl
 exact key n hi
theorem Em{f:Nat→Option Int}{n:Nat}(K:∀q,q<n→f q=none):(List.range n).findSome? f=none:=List.findSome?_eq_none_iff.2 fun q O=>K q (List.mem_range.1 O)
def Dg(n:Nat)(m:Int)(b:Bool)(l:List Int)(i:Nat):Option Int:=
 if l.getD i 0<0∨(n:Int) - 1<l.getD i 0 then some 3 else if l.getD i 0=m∧b=false then some 8 else if 0<i∧l.getD i 0≤l.getD (i - 1) 0 then some 5 else none
def C4(n:Nat)(m:Int)(b:Bool)(l:List Int):Option Int:=(List.range l.length).findSome? (Dg n m b l)
theorem Dc{α:Type}{l:List α}{i:Nat}{d:α}(h:i<l.length):l.getD i d=l[i]:=by rw [List.getD_eq_getElem?_getD,List.getElem?_eq_getElem h];rfl
theorem N5{F:Nat}{J:JW}{m:Int}{l:List Int}{b:Bool}(ab:100<F)(ac:l.length<100)(ae:J.1.length<100):Aa (f136 F J m l b) (fun e=>e.map (·.1)=C4 J.1.length m b l):=by
 unfold f136;refine Aa.b (S:=fun q=>(∃c,q=Sum.inl (some (c,m))∧C4 J.1.length m b l=some c)∨(q=Sum.inr ()∧C4 J.1.length m b l=none)) ?_ ?_
 ·refine Aa.upto l.length (fun i s=>s=(i:Int)∧∀q,q<i→Dg J.1.length m b l q=none) ⟨rfl,fun q aa=>by omega⟩ (by omega) ?_ ?_
  ·rintro i s hi ⟨rfl,O⟩;unfold Jv;have hg:l.getD i 0=l[i]:=Dc hi;refine Aa.pos (by omega) ?_;refine Aa.AR (m:=i) rfl hi ?_;refine Aa.AE ((J.1.length:Int) - 1) rfl (by omega) (by omega) ?_;refine Aa.be (H2 F _ _ _) ?_;refine Aa.ite (fun h=>?_) (fun h=>?_)
   ·have U:=of_decide_eq_true h;exact Aa.intro (.inl ⟨3,rfl,Cg O (by unfold Dg;rw [hg,if_pos U]) hi⟩)
   ·have U:¬(l[i]<0∨(J.1.length:Int) - 1<l[i]):=fun x=>h (decide_eq_true x);refine Aa.b (S:=fun c=>c=decide (l[i]=m∧b=false)) ?_ ?_
    ·refine Aa.ite (fun K=>Aa.intro ?_) (fun K=>Aa.intro ?_)
     ·cases b <;> simp [K]
     ·simp [K]
    ·rintro c rfl;refine Aa.ite (fun K=>?_) (fun K=>?_)
     ·have V:=of_decide_eq_true K;exact Aa.intro (.inl ⟨8,rfl,Cg O (by unfold Dg;rw [hg,if_neg U,if_pos V]) hi⟩)
     ·have V:¬(l[i]=m∧b=false):=fun x=>K (decide_eq_true x);refine Aa.b (S:=fun c=>c=decide (0<i∧l[i]≤l.getD (i - 1) 0)) ?_ ?_
      ·refine Aa.ite (fun h3=>?_) (fun h3=>?_)
       ·have Z:i - 1<l.length:=by omega
        refine Aa.AE ((i - 1:Nat):Int) (by omega) (by omega) (by omega) ?_;refine Aa.AR (m:=i - 1) rfl Z ?_;refine Aa.intro ?_;rw [Dc Z];exact decide_eq_decide.2 ⟨fun x=>⟨by omega,x⟩,fun x=>x.2⟩
       ·exact Aa.intro (decide_eq_false (by omega)).symm
      ·rintro c rfl;refine Aa.ite (fun h3=>?_) (fun h3=>?_)
       ·have Y:=of_decide_eq_true h3;exact Aa.intro (.inl ⟨5,rfl,Cg O (by unfold Dg;rw [hg,if_neg U,if_neg V,if_pos Y]) hi⟩)
       ·have Y:¬(0<i∧l[i]≤l.getD (i - 1) 0):=fun x=>h3 (decide_eq_true x);refine Aa.AE ((i+1:Nat):Int) (by simp) (by omega) (by omega) ?_;refine Aa.intro ⟨rfl,fun q aa=>?_⟩;by_cases e:q=i
        ·subst e;unfold Dg;rw [hg,if_neg U,if_neg V,if_neg Y]
        ·exact O q (by omega)
  ·rintro s ⟨rfl,O⟩;unfold Jv;exact Aa.neg (by omega) (Aa.intro ⟨_,rfl,.inr ⟨rfl,Em O⟩⟩)
 ·rintro q (⟨c,rfl,h⟩ | ⟨rfl,h⟩)
  ·exact Aa.intro h.symm
  ·exact Aa.intro h.symm
theorem G6(F:Nat)(a lo hi:Int):f104 F a lo hi=some (decide (lo≤a∧a≤hi)):=by
 unfold f104;by_cases h:lo≤a
 ·simp [h]
 ·simp [h]
theorem Sj{F:Nat}{J:JW}{m:Int}{l:List Int}(Z:100<F)(aa:l.length<100)(ab:J.1.length<100):f114 F J l=some (if l.length=0 then 7 else if 3<l.length then 6 else(C4 J.1.length m true l).getD 0):=by
 refine Aa.Ck ?_;unfold f114;refine Aa.ite (fun h=>?_) (fun h=>?_)
 ·rw [if_pos (show l.length=0 by omega)];exact Aa.intro rfl
 rw [if_neg (show ¬l.length=0 by omega)];refine Aa.ite (fun h=>?_) (fun h=>?_)
 ·rw [if_pos (show 3<l.length by omega)];exact Aa.intro rfl
 rw [if_neg (show ¬3<l.length by omega)];refine Aa.b (S:=fun q=>(∃c,q=Sum.inl c∧C4 J.1.length m true l=some c)∨(q=Sum.inr ()∧C4 J.1.length m true l=none)) ?_ ?_
 ·refine Aa.upto l.length (fun i s=>s=(i:Int)∧∀q,q<i→Dg J.1.length m true l q=none) ⟨rfl,fun q Y=>by omega⟩ (by omega) ?_ ?_
  ·rintro i s hi ⟨rfl,K⟩;unfold Jk;have hg:l.getD i 0=l[i]:=Dc hi;refine Aa.pos (by omega) ?_;refine Aa.AR (m:=i) rfl hi ?_;refine Aa.AE ((J.1.length:Int) - 1) rfl (by omega) (by omega) ?_;refine Aa.be (G6 F _ _ _) ?_;refine Aa.ite (fun h=>?_) (fun h=>?_)
   ·have O:l[i]<0∨(J.1.length:Int) - 1<l[i]:=by simp at h;omega
    exact Aa.intro (.inl ⟨3,rfl,Cg K (by unfold Dg;rw [hg,if_pos O]) hi⟩)
   ·have O:¬(l[i]<0∨(J.1.length:Int) - 1<l[i]):=by simp at h;omega
    refine Aa.b (S:=fun c=>c=decide (0<i∧l[i]≤l.getD (i - 1) 0)) ?_ ?_
    ·refine Aa.ite (fun h3=>?_) (fun h3=>?_)
     ·have V:i - 1<l.length:=by omega
      refine Aa.AR (m:=i) rfl hi ?_;refine Aa.AE ((i - 1:Nat):Int) (by omega) (by omega) (by omega) ?_;refine Aa.AR (m:=i - 1) rfl V ?_;refine Aa.intro ?_;rw [Dc V];exact decide_eq_decide.2 ⟨fun x=>⟨by omega,x⟩,fun x=>x.2⟩
     ·exact Aa.intro (decide_eq_false (by omega)).symm
    ·rintro c rfl;refine Aa.ite (fun h3=>?_) (fun h3=>?_)
     ·have U:=of_decide_eq_true h3;exact Aa.intro (.inl ⟨5,rfl,Cg K (by unfold Dg;rw [hg,if_neg O,if_neg (by simp),if_pos U]) hi⟩)
     ·have U:¬(0<i∧l[i]≤l.getD (i - 1) 0):=fun x=>h3 (decide_eq_true x);refine Aa.AE ((i+1:Nat):Int) (by simp) (by omega) (by omega) ?_;refine Aa.intro ⟨rfl,fun q Y=>?_⟩;by_cases e:q=i
      ·subst e;unfold Dg;rw [hg,if_neg O,if_neg (by simp),if_neg U]
      ·exact K q (by omega)
  ·rintro s ⟨rfl,K⟩;unfold Jk;exact Aa.neg (by omega) (Aa.intro ⟨_,rfl,.inr ⟨rfl,Em K⟩⟩)
 ·rintro q (⟨c,rfl,h⟩ | ⟨rfl,h⟩)
  ·exact Aa.intro (by rw [h];rfl)
  ·exact Aa.intro (by rw [h];rfl)
theorem RU{F:Nat}{J:JW}{m:Int}{l:List Int}(ab:100<F)(ac:l.length<100)(ae:J.1.length<100):f115 F J m l=some (if 3<l.length then 6 else(C4 J.1.length m false l).getD 0):=by
 refine Aa.Ck ?_;unfold f115;refine Aa.ite (fun h=>?_) (fun h=>?_)
 ·rw [if_pos (show 3<l.length by omega)];exact Aa.intro rfl
 rw [if_neg (show ¬3<l.length by omega)];refine Aa.b (S:=fun q=>(∃c,q=Sum.inl c∧C4 J.1.length m false l=some c)∨(q=Sum.inr ()∧C4 J.1.length m false l=none)) ?_ ?_
 ·refine Aa.upto l.length (fun i s=>s=(i:Int)∧∀q,q<i→Dg J.1.length m false l q=none) ⟨rfl,fun q aa=>by omega⟩ (by omega) ?_ ?_
  ·rintro i s hi ⟨rfl,K⟩;unfold Jg;have hg:l.getD i 0=l[i]:=Dc hi;refine Aa.pos (by omega) ?_;refine Aa.AR (m:=i) rfl hi ?_;refine Aa.AE ((J.1.length:Int) - 1) rfl (by omega) (by omega) ?_;refine Aa.be (G6 F _ _ _) ?_;refine Aa.ite (fun h=>?_) (fun h=>?_)
   ·have O:l[i]<0∨(J.1.length:Int) - 1<l[i]:=by simp at h;omega
    exact Aa.intro (.inl ⟨3,rfl,Cg K (by unfold Dg;rw [hg,if_pos O]) hi⟩)
   ·have O:¬(l[i]<0∨(J.1.length:Int) - 1<l[i]):=by simp at h;omega
    refine Aa.AR (m:=i) rfl hi ?_;refine Aa.ite (fun U=>?_) (fun U=>?_)
    ·exact Aa.intro (.inl ⟨8,rfl,Cg K (by unfold Dg;rw [hg,if_neg O,if_pos ⟨U,rfl⟩]) hi⟩)
    have Y:¬(l[i]=m∧false=false):=fun x=>U x.1;refine Aa.b (S:=fun c=>c=decide (0<i∧l[i]≤l.getD (i - 1) 0)) ?_ ?_
    ·refine Aa.ite (fun h3=>?_) (fun h3=>?_)
     ·have Z:i - 1<l.length:=by omega
      refine Aa.AR (m:=i) rfl hi ?_;refine Aa.AE ((i - 1:Nat):Int) (by omega) (by omega) (by omega) ?_;refine Aa.AR (m:=i - 1) rfl Z ?_;refine Aa.intro ?_;rw [Dc Z];exact decide_eq_decide.2 ⟨fun x=>⟨by omega,x⟩,fun x=>x.2⟩
     ·exact Aa.intro (decide_eq_false (by omega)).symm
    ·rintro c rfl;refine Aa.ite (fun h3=>?_) (fun h3=>?_)
     ·have V:=of_decide_eq_true h3;exact Aa.intro (.inl ⟨5,rfl,Cg K (by unfold Dg;rw [hg,if_neg O,if_neg Y,if_pos V]) hi⟩)
     ·have V:¬(0<i∧l[i]≤l.getD (i - 1) 0):=fun x=>h3 (decide_eq_true x);refine Aa.AE ((i+1:Nat):Int) (by simp) (by omega) (by omega) ?_;refine Aa.intro ⟨rfl,fun q aa=>?_⟩;by_cases e:q=i
      ·subst e;unfold Dg;rw [hg,if_neg O,if_neg Y,if_neg V]
      ·exact K q (by omega)
  ·rintro s ⟨rfl,K⟩;unfold Jg;exact Aa.neg (by omega) (Aa.intro ⟨_,rfl,.inr ⟨rfl,Em K⟩⟩)
 ·rintro q (⟨c,rfl,h⟩ | ⟨rfl,h⟩)
  ·exact Aa.intro (by rw [h];rfl)
  ·exact Aa.intro (by rw [h];rfl)
def Cs(J:JW)(i:Nat):Option Int:=
 if(J.1.getD i []).length=0 then some 7 else if 3<(J.1.getD i []).length then some 6 else match C4 J.1.length i true (J.1.getD i []) with
  | some c=>some c
  | none=>if 3<(J.2.getD i []).length then some 6 else C4 J.1.length i false (J.2.getD i [])
def CJ(J:JW):Option Int:=if J.1.length=0 then some 7 else if 8<J.1.length then some 6 else if J.2.length≠J.1.length then some 9 else(List.range J.1.length).findSome? (Cs J)
structure NL (J:JW):Prop where
 l1:J.1.length≤20
 l2:J.2.length≤20
 n1:∀l∈J.1,l.length≤20
 n2:∀l∈J.2,l.length≤20
theorem Ny{F:Nat}{J:JW}(aa:100<F)(V:NL J):Aa (f113 F J) (fun e=>e.map (·.1)=CJ J):=by
 have ag:=V.l1;unfold f113 CJ;refine Aa.ite (fun h=>?_) (fun h=>?_)
 ·rw [if_pos (show J.1.length=0 by omega)];exact Aa.intro rfl
 rw [if_neg (show ¬J.1.length=0 by omega)];refine Aa.ite (fun h=>?_) (fun h=>?_)
 ·rw [if_pos (show 8<J.1.length by omega)];exact Aa.intro rfl
 rw [if_neg (show ¬8<J.1.length by omega)];refine Aa.ite (fun h=>?_) (fun h=>?_)
 ·rw [if_pos (show J.2.length≠J.1.length by omega)];exact Aa.intro rfl
 rw [if_neg (show ¬J.2.length≠J.1.length by omega)];refine Aa.b (S:=fun q=>(∃c,q=Sum.inl (some c)∧(List.range J.1.length).findSome? (Cs J)=some c.1)∨(q=Sum.inr ()∧(List.range J.1.length).findSome? (Cs J)=none)) ?_ ?_
 ·refine Aa.upto J.1.length (fun i s=>s=(i:Int)∧∀q,q<i→Cs J q=none) ⟨rfl,fun q ae=>by omega⟩ (by omega) ?_ ?_
  ·rintro i s hi ⟨rfl,K⟩;unfold Jy;have U:i<J.2.length:=by omega
   have O:J.1.getD i []=J.1[i]:=Dc hi;have Y:J.2.getD i []=J.2[i]:=Dc U;have n1:=V.n1 _ (List.getElem_mem hi);have n2:=V.n2 _ (List.getElem_mem U);refine Aa.pos (by omega) ?_;refine Aa.AR (m:=i) rfl hi ?_;refine Aa.ite (fun h=>?_) (fun h3=>?_)
   ·exact Aa.intro (.inl ⟨(7,(i:Int)),rfl,Cg K (by unfold Cs;rw [O,if_pos (by omega)]) hi⟩)
   refine Aa.ite (fun h=>?_) (fun ah=>?_)
   ·exact Aa.intro (.inl ⟨(6,(i:Int)),rfl,Cg K (by unfold Cs;rw [O,if_neg (by omega),if_pos (by omega)]) hi⟩)
   refine Aa.b (N5 aa (by omega) (by omega)) ?_;intro e he;refine Aa.ite (fun h=>?_) (fun h=>?_)
   ·obtain⟨c,rfl⟩:=Option.isSome_iff_exists.1 h;refine Aa.intro (.inl ⟨c,rfl,Cg K ?_ hi⟩);unfold Cs;rw [O,if_neg (by omega),if_neg (by omega),← he];rfl
   ·obtain rfl:e=none:=by cases e <;> simp_all
    have Z:C4 J.1.length (i:Int) true J.1[i]=none:=he.symm;refine Aa.AR (m:=i) rfl U ?_;refine Aa.ite (fun h=>?_) (fun ai=>?_)
    ·refine Aa.intro (.inl ⟨(6,(i:Int)),rfl,Cg K ?_ hi⟩);unfold Cs;rw [O,Y,if_neg (by omega),if_neg (by omega),Z];simp only;rw [if_pos (by omega)]
    refine Aa.AR (m:=i) rfl U ?_;refine Aa.b (N5 aa (by omega) (by omega)) ?_;intro ab ac;refine Aa.ite (fun h=>?_) (fun h=>?_)
    ·obtain⟨c,rfl⟩:=Option.isSome_iff_exists.1 h;refine Aa.intro (.inl ⟨c,rfl,Cg K ?_ hi⟩);unfold Cs;rw [O,Y,if_neg (by omega),if_neg (by omega),Z];simp only;rw [if_neg (by omega),← ac];rfl
    ·obtain rfl:ab=none:=by cases ab <;> simp_all
     refine Aa.AE ((i+1:Nat):Int) (by simp) (by omega) (by omega) ?_;refine Aa.intro ⟨rfl,fun q ae=>?_⟩;by_cases e:q=i
     ·subst e;unfold Cs;rw [O,Y,if_neg (by omega),if_neg (by omega),Z];simp only;rw [if_neg (by omega),← ac];rfl
     ·exact K q (by omega)
  ·rintro s ⟨rfl,K⟩;unfold Jy;exact Aa.neg (by omega) (Aa.intro ⟨_,rfl,.inr ⟨rfl,Em K⟩⟩)
 ·rintro q (⟨c,rfl,h⟩ | ⟨rfl,h⟩)
  ·exact Aa.intro h.symm
  ·exact Aa.intro h.symm
theorem Jf{n:Nat}{m:Int}{b:Bool}{l:List Int}{c:Int}(h:C4 n m b l=some c):c≠0:=by
 obtain⟨i,_,hi⟩:=List.exists_of_findSome?_eq_some h;unfold Dg at hi;split at hi
 ·cases hi;omega
 ·split at hi
  ·cases hi;omega
  ·split at hi
   ·cases hi;omega
   ·cases hi
theorem Uc{J:JW}{i:Nat}{c:Int}(h:Cs J i=some c):c≠0:=by
 unfold Cs at h;split at h
 ·cases h;omega
 ·split at h
  ·cases h;omega
  ·split at h
   ·rename_i e;cases h;exact Jf e
   ·split at h
    ·cases h;omega
    ·exact Jf h
theorem Hn{J:JW}{c:Int}(h:CJ J=some c):c≠0:=by
 unfold CJ at h;split at h
 ·cases h;omega
 ·split at h
  ·cases h;omega
  ·split at h
   ·cases h;omega
   ·obtain⟨i,_,hi⟩:=List.exists_of_findSome?_eq_some h;exact Uc hi
theorem Ji{F:Nat}{J:JW}(ab:100<F)(V:NL J):f68 F J=some ((CJ J).getD 0):=by
 have ae:=V.l1;refine Aa.Ck ?_;unfold f68 CJ;refine Aa.ite (fun h=>?_) (fun h=>?_)
 ·rw [if_pos (show J.1.length=0 by omega)];exact Aa.intro rfl
 rw [if_neg (show ¬J.1.length=0 by omega)];refine Aa.ite (fun h=>?_) (fun h=>?_)
 ·rw [if_pos (show 8<J.1.length by omega)];exact Aa.intro rfl
 rw [if_neg (show ¬8<J.1.length by omega)];refine Aa.ite (fun h=>?_) (fun h=>?_)
 ·rw [if_pos (show J.2.length≠J.1.length by omega)];exact Aa.intro rfl
 rw [if_neg (show ¬J.2.length≠J.1.length by omega)];refine Aa.b (S:=fun q=>(∃c,q=Sum.inl c∧(List.range J.1.length).findSome? (Cs J)=some c)∨(q=Sum.inr ()∧(List.range J.1.length).findSome? (Cs J)=none)) ?_ ?_
 ·refine Aa.upto J.1.length (fun i s=>s=(i:Int)∧∀q,q<i→Cs J q=none) ⟨rfl,fun q ac=>by omega⟩ (by omega) ?_ ?_
  ·rintro i s hi ⟨rfl,K⟩;unfold JH;have Y:i<J.2.length:=by omega
   have U:J.1.getD i []=J.1[i]:=Dc hi;have Z:J.2.getD i []=J.2[i]:=Dc Y;have n1:=V.n1 _ (List.getElem_mem hi);have n2:=V.n2 _ (List.getElem_mem Y);refine Aa.pos (by omega) ?_;refine Aa.AR (m:=i) rfl hi ?_;refine Aa.be (Sj (m:=(i:Int)) ab (by omega) (by omega)) ?_;by_cases O:J.1[i].length=0
   ·rw [if_pos O];exact Aa.pos (by omega) (Aa.intro (.inl ⟨7,rfl,Cg K (by unfold Cs;rw [U,if_pos O]) hi⟩))
   rw [if_neg O];by_cases c2:3<J.1[i].length
   ·rw [if_pos c2];exact Aa.pos (by omega) (Aa.intro (.inl ⟨6,rfl,Cg K (by unfold Cs;rw [U,if_neg O,if_pos c2]) hi⟩))
   rw [if_neg c2];cases he:C4 J.1.length (i:Int) true J.1[i] with
   | some c=>
    exact Aa.pos (Jf he) (Aa.intro (.inl ⟨c,rfl,Cg K (by unfold Cs;rw [U,if_neg O,if_neg c2,he]) hi⟩))
   | none=>
    refine Aa.neg (by simp) ?_;refine Aa.AR (m:=i) rfl Y ?_;refine Aa.be (RU (m:=(i:Int)) ab (by omega) (by omega)) ?_;by_cases c3:3<J.2[i].length
    ·rw [if_pos c3];refine Aa.pos (by omega) (Aa.intro (.inl ⟨6,rfl,Cg K ?_ hi⟩));unfold Cs;rw [U,Z,if_neg O,if_neg c2,he];simp only;rw [if_pos c3]
    rw [if_neg c3];cases aa:C4 J.1.length (i:Int) false J.2[i] with
    | some c=>
     refine Aa.pos (Jf aa) (Aa.intro (.inl ⟨c,rfl,Cg K ?_ hi⟩));unfold Cs;rw [U,Z,if_neg O,if_neg c2,he];simp only;rw [if_neg c3,aa]
    | none=>
     refine Aa.neg (by simp) ?_;refine Aa.AE ((i+1:Nat):Int) (by simp) (by omega) (by omega) ?_;refine Aa.intro ⟨rfl,fun q ac=>?_⟩;by_cases e:q=i
     ·subst e;unfold Cs;rw [U,Z,if_neg O,if_neg c2,he];simp only;rw [if_neg c3,aa]
     ·exact K q (by omega)
  ·rintro s ⟨rfl,K⟩;unfold JH;exact Aa.neg (by omega) (Aa.intro ⟨_,rfl,.inr ⟨rfl,Em K⟩⟩)
 ·rintro q (⟨c,rfl,h⟩ | ⟨rfl,h⟩)
  ·exact Aa.intro (by rw [h];rfl)
  ·exact Aa.intro (by rw [h];rfl)
theorem M1{n:Nat}{m:Int}{b:Bool}{l:List Int}(h:C4 n m b l=none):DK n l∧l.Pairwise (·<·)∧(b=false→m ∉ l):=by
 have K:∀i (hi:i<l.length),¬(l[i]<0∨(n:Int) - 1<l[i])∧¬(l[i]=m∧b=false)∧¬(0<i∧l[i]≤l.getD (i - 1) 0):=fun i hi=>by
  have:=List.findSome?_eq_none_iff.1 h i (List.mem_range.2 hi);unfold Dg at this;rw [Dc hi] at this;split at this
  ·cases this
  ·split at this
   ·cases this
   ·split at this
    ·cases this
    ·rename_i a1 U V;exact⟨a1,U,V⟩
 refine⟨fun x Y=>?_,?_,fun hb hm=>?_⟩
 ·obtain⟨i,hi,rfl⟩:=List.mem_iff_getElem.1 Y;have:=(K i hi).1;omega
 ·have step:∀i (hi:i+1<l.length),l[i]<l[i+1]:=fun i hi=>by
   have:=(K (i+1) hi).2.2;rw [show i+1 - 1=i by omega,Dc (by omega)] at this;omega
  rw [List.pairwise_iff_getElem];intro i j hi ac ae;have key:∀k (O:i+1+k<l.length),l[i]<l[i+1+k]:=fun k=>by
   induction k with
   | zero=>intro O;exact step i O
   | succ k Z=>intro O;have aa:=Z (by omega);have ab:=step (i+1+k) (by omega);exact Int.lt_trans aa ab
  have:=key (j - i - 1) (by omega);simpa [show i+1+(j - i - 1)=j by omega] using this
 ·obtain⟨i,hi,e⟩:=List.mem_iff_getElem.1 hm;exact(K i hi).2.1 ⟨e,hb⟩
theorem HU{J:JW}(h:CJ J=none):VJ J.1.length J:=by
 unfold CJ at h;split at h
 ·cases h
 rename_i ae;split at h
 ·cases h
 rename_i ag;split at h
 ·cases h
 rename_i h3;have O:∀i,i<J.1.length→(J.1.getD i []).length≠0∧(J.1.getD i []).length≤3∧C4 J.1.length i true (J.1.getD i [])=none∧(J.2.getD i []).length≤3∧C4 J.1.length i false (J.2.getD i [])=none:=fun i hi=>by
  have:=List.findSome?_eq_none_iff.1 h i (List.mem_range.2 hi);unfold Cs at this;split at this
  ·cases this
  ·split at this
   ·cases this
   ·split at this
    ·cases this
    ·rename_i a1 ah _ aa;split at this
     ·cases this
     ·rename_i a4;exact⟨a1,by omega,aa,by omega,this⟩
 refine⟨by omega,by omega,rfl,by omega,fun i l K=>?_,fun i l K=>?_⟩
 ·have hi:=(List.getElem?_eq_some_iff.1 K).1;obtain⟨ab,U,V,_,_⟩:=O i hi;have e:J.1.getD i []=l:=by rw [List.getD_eq_getElem?_getD,K];rfl
  rw [e] at ab U V;obtain⟨v1,v2,_⟩:=M1 V;exact⟨⟨U,v1,v2⟩,by omega⟩
 ·have hi:i<J.1.length:=by have:=(List.getElem?_eq_some_iff.1 K).1;omega
  obtain⟨_,_,_,Y,Z⟩:=O i hi;have e:J.2.getD i []=l:=by rw [List.getD_eq_getElem?_getD,K];rfl
  rw [e] at Y Z;obtain⟨v1,v2,ac⟩:=M1 Z;exact⟨⟨Y,v1,v2⟩,ac rfl⟩
theorem Lw{F:Nat}{J:JW}(K:100<F)(O:NL J):Hv F J=some ((CJ J).getD 0):=by
 refine Aa.Ck ?_;unfold Hv;refine Aa.b (Ny K O) ?_;intro e he;rw [← he];cases e with
 | none=>
  refine Aa.be (b:=0) ?_ (Aa.intro rfl);have:=MU F;unfold Kd at this;exact this
 | some q=>exact Aa.be (b:=q.1) rfl (Aa.intro rfl)
end Pal
namespace Pal
theorem Ng{F:Nat}{J:JW}{ys:List Int}{c:Int}(K:100<F)(O:NL J)(h:CJ J=some c):FN F J ys=some (none,c):=by
 refine Aa.Ck ?_;unfold FN;refine Aa.be (Lw K O) ?_;rw [h];exact Aa.pos (Hn h) (Aa.intro rfl)
theorem M8{F:Nat}{J:JW}{ys:List Int}(V:100<F)(Y:NL J)(ab:ys.length<100)(h:CJ J=none):Aa (FN F J ys) (fun r=>(DK 13 ys∧r=(some (J.1,J.2,Fx J),0))∨(¬DK 13 ys∧r=(none,1))):=by
 have Z:=HU h;unfold FN;refine Aa.be (Lw V Y) ?_;rw [h];refine Aa.neg (by simp) ?_;refine Aa.b (S:=fun q=>(DK 13 ys∧q=Sum.inr ())∨(¬DK 13 ys∧q=Sum.inl (none,1))) ?_ ?_
 ·refine Aa.upto ys.length (fun i s=>s=(i:Int)∧DK 13 (ys.take i)) ⟨rfl,fun x K=>by simp at K⟩ (by omega) ?_ ?_
  ·rintro i s hi ⟨rfl,O⟩;unfold I3;have hm:=List.getElem_mem hi;refine Aa.pos (by omega) ?_;refine Aa.AR (m:=i) rfl hi ?_;refine Aa.be (H2 F _ _ _) ?_;refine Aa.ite (fun h=>?_) (fun h=>?_)
   ·have aa:=of_decide_eq_true h;refine Aa.intro (.inr ⟨fun K=>?_,rfl⟩);have:=K _ hm;omega
   ·have aa:¬(ys[i]<0∨12<ys[i]):=fun x=>h (decide_eq_true x);refine Aa.AE ((i+1:Nat):Int) (by simp) (by omega) (by omega) ?_;refine Aa.intro ⟨rfl,fun x K=>?_⟩;rw [List.take_add_one,List.getElem?_eq_getElem hi] at K;simp only [Option.toList_some,List.mem_append,List.mem_singleton] at K;rcases K with K | rfl
    ·exact O x K
    ·omega
  ·rintro s ⟨rfl,O⟩;unfold I3;rw [List.take_length] at O;exact Aa.neg (by omega) (Aa.intro ⟨_,rfl,.inl ⟨O,rfl⟩⟩)
 ·rintro q (⟨U,rfl⟩ | ⟨U,rfl⟩)
  ·rw [Sum.elim_inr];refine Aa.be (UD V Z) ?_;exact Aa.intro (.inl ⟨U,rfl⟩)
  ·exact Aa.intro (.inr ⟨U,rfl⟩)
theorem TM{F n a m:Nat}{J:JW}{due K:List Bool}(aj:100<F)(V:VJ n J)(ah:FT J n a due)(hm:m<n)(aa:K.length=n):
  Aa (iter (Hf F J due (K,(m:Int))) F (K,0)) (fun r=>r.length=n∧∀x:Nat,x<n→(r[x]? =some true↔K[x]? =some true∨((AG J a).testBit m=true∧(x:Int)∈J.1.getD m []))):=by
 have ak:=V.l1;have al:=V.le;have O:m<J.1.length:=by omega
 obtain⟨ab,am⟩:=V.nx m _ (List.getElem?_eq_getElem O);have hlen:=ab.len;have hD:J.1.getD m []=J.1[m]:=Dc O;have ac:=ah.2 m hm;cases ae:(AG J a).testBit m with
 | false=>
  refine Aa.upto 0 (fun i st=>st=(K,0)) rfl (by omega) (fun i st hi=>by omega) ?_;rintro st rfl;unfold Hf;refine Aa.AR (m:=m) rfl O ?_;refine Aa.b (S:=fun c=>c=false) ?_ ?_
  ·refine Aa.ite (fun h=>?_) (fun h=>Aa.intro rfl);refine Aa.be (B6 (m:=m) rfl ac) ?_;exact Aa.intro ae
  ·rintro c rfl;refine Aa.neg (by simp) (Aa.intro ⟨_,rfl,aa,fun x U=>?_⟩);simp
 | true=>
  refine Aa.upto J.1[m].length (fun i st=>∃nx:List Bool,st=(nx,(i:Int))∧nx.length=n∧∀x:Nat,x<n→(nx[x]? =some true↔K[x]? =some true∨(x:Int)∈J.1[m].take i)) ⟨K,rfl,aa,fun x U=>by simp⟩ (by omega) ?_ ?_
  ·rintro i st hi ⟨nx,rfl,Y,Z⟩;unfold Hf;refine Aa.AR (m:=m) rfl O ?_;refine Aa.b (S:=fun c=>c=true) ?_ ?_
   ·refine Aa.pos (by simp only;omega) ?_;refine Aa.be (B6 (m:=m) rfl ac) ?_;exact Aa.intro ae
   ·rintro c rfl;refine Aa.pos rfl ?_;refine Aa.AR (m:=m) rfl O ?_;refine Aa.AR (m:=i) rfl hi ?_;have U:=ab.inr J.1[m][i] (List.getElem_mem hi);have ag:J.1[m][i].toNat<nx.length:=by omega
    refine Aa.AR (m:=J.1[m][i].toNat) (show J.1[m][i]=_ by omega) ag ?_;refine Aa.AE ((i+1:Nat):Int) (by simp) (by omega) (by omega) ?_;refine Aa.intro ⟨nx.set J.1[m][i].toNat true,rfl,by simpa using Y,fun x ai=>?_⟩;rw [Sl ag,Z x ai,List.take_add_one,List.getElem?_eq_getElem hi];simp only [Option.toList_some,List.mem_append,List.mem_singleton];rw [or_assoc];refine or_congr Iff.rfl (or_congr Iff.rfl ⟨fun h=>by omega,fun h=>by omega⟩)
  ·rintro st ⟨nx,rfl,Y,Z⟩;unfold Hf;refine Aa.AR (m:=m) rfl O ?_;refine Aa.b (S:=fun c=>c=false) (Aa.neg (by simp) (Aa.intro rfl)) ?_;rintro c rfl;refine Aa.neg (by simp) (Aa.intro ⟨_,rfl,Y,fun x U=>?_⟩);rw [Z x U,List.take_length,hD];simp
theorem Tk{F n a:Nat}{J:JW}{due:List Bool}(aa:100<F)(Y:VJ n J)(Z:FT J n a due):Aa (f119 F J due) (FT J n (a+1)):=by
 have ak:=Y.le;have ab:=Z.1;unfold f119;refine Aa.be (b:=List.replicate n false) ?_ ?_
 ·unfold Gi;rw [if_pos (by omega),ab];rfl
 refine Aa.b (S:=FT J n (a+1)) ?_ (fun r ac=>Aa.intro ac);refine Aa.upto n (fun k st=>∃nx:List Bool,st=(nx,(k:Int))∧Mv J n a k nx) ⟨_,rfl,by simp,fun x U=>?_⟩ (by omega) ?_ ?_
 ·rw [List.getElem?_replicate,if_pos U];simp
 ·rintro k st ae ⟨nx,rfl,V⟩;unfold Jp;refine Aa.pos (by simp only;omega) ?_;refine Aa.b (TM (m:=k) aa Y Z ae V.1) ?_;rintro ag ⟨ah,ai⟩;refine Aa.AE ((k+1:Nat):Int) (by simp) (by omega) (by omega) ?_;refine Aa.intro ⟨ag,rfl,ah,fun x U=>?_⟩;rw [ai x U,V.2 x U];constructor
  ·rintro(⟨m,aj,K,O⟩ | ⟨K,O⟩)
   ·exact⟨m,by omega,K,O⟩
   ·exact⟨k,by omega,K,O⟩
  ·rintro⟨m,aj,K,O⟩;rcases Nat.lt_or_ge m k with h | h
   ·exact .inl ⟨m,h,K,O⟩
   ·obtain rfl:m=k:=by omega
    exact .inr ⟨K,O⟩
 ·rintro st ⟨nx,rfl,V⟩;unfold Jp;exact Aa.neg (by simp only;omega) (Aa.intro ⟨_,rfl,V.due Y⟩)
theorem V5{n:Nat}{J:JW}(K:0<n):FT J n 0 ((List.replicate n false).set 0 true):=by
 refine⟨by simp,fun m hm=>?_⟩;by_cases e:m=0
 ·subst e;rw [List.getElem?_set_self (by simpa using hm)];exact congrArg some (show true=(1:Nat).testBit 0 by decide)
 ·rw [List.getElem?_set_ne (by omega),List.getElem?_replicate,if_pos hm];have:(AG J 0).testBit m=false:=by
   show(1:Nat).testBit m=false;have:=Nat.testBit_two_pow_of_ne (n:=0) (m:=m) (by omega);simpa using this
  rw [this]
theorem Px{F n a:Nat}{J:JW}(V:100<F)(K:VJ n J)(ab:a<13):Aa (f82 F J (a:Int)) (FT J n a):=by
 have ac:=K.le;have U:=K.pos;have Y:=K.l1;unfold f82;refine Aa.be (b:=List.replicate n false) ?_ ?_
 ·unfold Gi;rw [if_pos (by omega),Y];rfl
 refine Aa.AR (m:=0) rfl (by simpa using U) ?_;refine Aa.b (S:=FT J n a) ?_ (fun r Z=>Aa.intro Z);refine Aa.upto a (fun i st=>∃d:List Bool,st=(d,(i:Int))∧FT J n i d) ⟨_,rfl,V5 U⟩ (by omega) ?_ ?_
 ·rintro i st hi ⟨d,rfl,O⟩;unfold J2;refine Aa.pos (by simp only;omega) ?_;refine Aa.b (Tk V K O) ?_;intro d2 aa;refine Aa.AE ((i+1:Nat):Int) (by simp) (by omega) (by omega) ?_;exact Aa.intro ⟨d2,rfl,aa⟩
 ·rintro st ⟨d,rfl,O⟩;unfold J2;exact Aa.neg (by simp) (Aa.intro ⟨_,rfl,O⟩)
theorem Pd{F:Nat}{l:List (List Int)}(aa:100<F)(ab:l.length≤20)(U:∀x∈l,x.length≤20):f77 F l=some l:=by
 refine Aa.Ck ?_;unfold f77;refine Aa.be (b:=List.replicate l.length []) ?_ ?_
 ·unfold Gi;rw [if_pos (by omega)];rfl
 refine Aa.b (S:=fun r=>r=l) ?_ (fun r V=>Aa.intro V);refine Aa.upto l.length (fun i s=>s.2=(i:Int)∧s.1=l.take i++List.replicate (l.length - i) []) ⟨rfl,by simp⟩ (by omega) ?_ ?_
 ·rintro i ⟨o,c⟩ hi ⟨K,O⟩;simp only at K O;subst K;subst O;unfold Jz;refine Aa.pos (by simp only;omega) ?_;refine Aa.AR (m:=i) rfl hi ?_;refine Aa.be (b:=l[i]) ?_ ?_
  ·unfold f108;have:Cj ([]:List Int) l[i]=some l[i]:=by unfold Cj;rw [if_pos (by have:=U _ (List.getElem_mem hi);simp;omega)];rfl
   rw [this];rfl
  have Y:(l.take i).length=i:=by rw [List.length_take];omega
  refine Aa.AR (m:=i) rfl (by simp;omega) ?_;refine Aa.AE ((i+1:Nat):Int) (by simp) (by omega) (by omega) ?_;refine Aa.intro ⟨rfl,?_⟩;simp only;rw [show Int.toNat (i:Int)=i by omega,List.set_append,if_neg (by omega),Y,Nat.sub_self];obtain⟨k,Z⟩:∃k,l.length - i=k+1:=⟨l.length - i - 1,by omega⟩;rw [Z,List.replicate_succ,List.set_cons_zero,List.take_add_one,List.getElem?_eq_getElem hi,show l.length - (i+1)=k by omega];simp only [Option.toList_some,List.append_assoc,List.cons_append,List.nil_append]
 ·rintro⟨o,c⟩ ⟨K,O⟩;simp only at K O;subst K;subst O;unfold Jz;exact Aa.neg (by simp) (Aa.intro ⟨_,rfl,by simp⟩)
theorem Vi{F:Nat}{J:JW}(O:100<F)(K:NL J):f26 F J=some J:=by
 unfold f26;rw [Pd O K.l1 K.n1,Option.bind_some,Pd O K.l2 K.n2];rfl
theorem LK{F:Nat}{l:List Int}(K:100<F)(O:l.length≤20):f32 F l l=some true:=by
 refine Aa.Ck ?_;unfold f32;refine Aa.b (S:=fun q=>q=Sum.inr ()) ?_ (by rintro q rfl;exact Aa.intro (by simp));refine Aa.upto l.length (fun i s=>s=(i:Int)) rfl (by omega) ?_ ?_
 ·rintro i s hi rfl;unfold JF;refine Aa.b (S:=fun c=>c=true) (Aa.pos (by omega) (Aa.intro (decide_eq_true (by omega)))) ?_;rintro c rfl;refine Aa.pos rfl ?_;refine Aa.AR (m:=i) rfl hi ?_;refine Aa.AR (m:=i) rfl hi ?_;refine Aa.neg (by simp) ?_;refine Aa.AE ((i+1:Nat):Int) (by simp) (by omega) (by omega) ?_;exact Aa.intro rfl
 ·rintro s rfl;unfold JF;refine Aa.b (S:=fun c=>c=false) (Aa.neg (by omega) (Aa.intro rfl)) ?_;rintro c rfl;exact Aa.neg (by simp) (Aa.intro ⟨_,rfl,rfl⟩)
theorem Pt{F:Nat}{l:List (List Int)}(K:100<F)(U:l.length≤20)(O:∀x∈l,x.length≤20):f84 F l l=some true:=by
 refine Aa.Ck ?_;unfold f84;refine Aa.b (S:=fun q=>q=Sum.inr ()) ?_ (by rintro q rfl;exact Aa.intro (by simp));refine Aa.upto l.length (fun i s=>s=(i:Int)) rfl (by omega) ?_ ?_
 ·rintro i s hi rfl;unfold J5;refine Aa.b (S:=fun c=>c=true) (Aa.pos (by omega) (Aa.intro (decide_eq_true (by omega)))) ?_;rintro c rfl;refine Aa.pos rfl ?_;refine Aa.AR (m:=i) rfl hi ?_;refine Aa.AR (m:=i) rfl hi ?_;refine Aa.be (LK K (O _ (List.getElem_mem hi))) ?_;refine Aa.neg (by simp) ?_;refine Aa.AE ((i+1:Nat):Int) (by simp) (by omega) (by omega) ?_;exact Aa.intro rfl
 ·rintro s rfl;unfold J5;refine Aa.b (S:=fun c=>c=false) (Aa.neg (by omega) (Aa.intro rfl)) ?_;rintro c rfl;exact Aa.neg (by simp) (Aa.intro ⟨_,rfl,rfl⟩)
theorem Vq{F:Nat}{J:JW}(O:100<F)(K:NL J):f33 F J J=some true:=by
 refine Aa.Ck ?_;unfold f33;refine Aa.be (Pt O K.l1 K.n1) ?_;refine Aa.b (S:=fun c=>c=true) (Aa.pos rfl (Aa.be (Pt O K.l2 K.n2) (Aa.intro rfl))) ?_;rintro c rfl;exact Aa.intro rfl
theorem VJ.nl{n:Nat}{J:JW}(K:VJ n J):NL J:=by
 have U:=K.l1;have V:=K.l2;have Y:=K.le;refine⟨by omega,by omega,fun l O=>?_,fun l O=>?_⟩
 ·obtain⟨i,hi,rfl⟩:=List.mem_iff_getElem.1 O;have:=(K.nx i _ (List.getElem?_eq_getElem hi)).1.len;omega
 ·obtain⟨i,hi,rfl⟩:=List.mem_iff_getElem.1 O;have:=(K.fl i _ (List.getElem?_eq_getElem hi)).1.len;omega
theorem Py{F:Nat}{l:List (List Int)}(Z:100<F):Aa (f76 F l) (fun r=>r=false→l.length≤20∧∀x∈l,x.length≤20):=by
 unfold f76;refine Aa.b (S:=fun q=>q=Sum.inl true∨(q=Sum.inr ()∧∀x∈l.take 20,x.length≤20)) ?_ ?_
 ·refine Aa.upto (min l.length 20) (fun i s=>s=(i:Int)∧∀x∈l.take i,x.length≤20) ⟨rfl,by simp⟩ (by omega) ?_ ?_
  ·rintro i s hi ⟨rfl,O⟩;have U:i<l.length:=by omega
   unfold JD;refine Aa.b (S:=fun c=>c=true) (Aa.pos (by omega) (Aa.intro (decide_eq_true (by omega)))) ?_;rintro c rfl;refine Aa.pos rfl ?_;refine Aa.AR (m:=i) rfl U ?_;refine Aa.ite (fun h=>Aa.intro (.inl rfl)) (fun h=>?_);refine Aa.AE ((i+1:Nat):Int) (by simp) (by omega) (by omega) ?_;refine Aa.intro ⟨rfl,fun x K=>?_⟩;rw [List.take_add_one,List.getElem?_eq_getElem U] at K;simp only [Option.toList_some,List.mem_append,List.mem_singleton] at K;rcases K with K | rfl
   ·exact O x K
   ·omega
  ·rintro s ⟨rfl,O⟩;unfold JD;refine Aa.b (S:=fun c=>c=false) (Aa.ite (fun h=>Aa.intro (decide_eq_false (by omega))) (fun _=>Aa.intro rfl)) ?_;rintro c rfl;refine Aa.neg (by simp) (Aa.intro ⟨_,rfl,.inr ⟨rfl,fun x K=>O x ?_⟩⟩);rcases Nat.lt_or_ge l.length 20 with h | h
   ·rw [Nat.min_eq_left (by omega),List.take_length];exact List.mem_of_mem_take K
   ·rw [Nat.min_eq_right h];exact K
 ·rintro q (rfl | ⟨rfl,h⟩)
  ·exact Aa.intro fun h=>by cases h
  ·refine Aa.intro fun Y=>?_;have:=of_decide_eq_false Y;have V:l.length≤20:=by omega
   rw [List.take_of_length_le V] at h;exact⟨V,h⟩
theorem Vp{F:Nat}{J:JW}(O:100<F):Aa (f21 F J) (fun r=>r=false→NL J):=by
 unfold f21;refine Aa.b (Py O) ?_;intro r U;refine Aa.b (S:=fun c=>c=false→NL J) ?_ (fun c V=>Aa.intro V);refine Aa.ite (fun h=>Aa.intro fun K=>(by cases K)) (fun h=>?_);obtain⟨Y,Z⟩:=U (by simpa using h);refine Aa.b (Py O) ?_;intro q aa;refine Aa.intro fun K=>?_;obtain⟨ab,ac⟩:=aa K;exact⟨Y,ab,Z,ac⟩
theorem Ui{F k:Nat}{b:Dh}{J:JW}(O:100<F)(Z:NL J)(hb:BG k b)(U:k<100):Aa (f24 F J b) (fun r=>(∃n K,VJ n K∧r.1= [J,K,K])∧BG (k+301) r.2):=by
 unfold f24;refine Aa.b (Vg (mx:=7) O hb U (by omega) (by omega)) ?_;rintro⟨K,aa⟩ ⟨⟨n,_,V⟩,Y⟩;exact Aa.intro ⟨⟨n,K,V,rfl⟩,Y⟩
end Pal
namespace Pal
theorem NM(F:Nat)(e:Option (Int×Int)):Ig F e=some ((e.map (·.1)).getD 0):=by
 cases e with
 | none=>
  have:=MU F;unfold Kd at this;exact this
 | some q=>rfl
theorem Qx{s n:Nat}(h:s<2 ^ n)(d:Nat):BN s (n+d)=BN s n:=by
 induction d with
 | zero=>rfl
 | succ d K=>
  rw [← Nat.add_assoc,K7,if_neg,K];have:s<2 ^ (n+d):=Nat.lt_of_lt_of_le h (Nat.pow_le_pow_right (by omega) (by omega));rw [Nat.testBit_lt_two_pow this];decide
theorem TS{F n s:Nat}{d:List Bool}(O:100<F)(U:n≤8)(V:d.length=n)(K:∀m,m<n→d[m]? =some (s.testBit m)):f111 F d=some (BN s n):=by
 refine Aa.Ck ?_;unfold f111;refine Aa.b (S:=fun r=>r=BN s n) ?_ (by rintro r rfl;exact Aa.intro rfl);refine Aa.upto n (fun i st=>st=(BN s i,(i:Int))) rfl (by omega) ?_ ?_
 ·rintro i st hi rfl;unfold Jd;have hlen:=IV s i;refine Aa.pos (by simp only;omega) ?_;refine Aa.be (B6 (m:=i) rfl (K i hi)) ?_;refine Aa.b (S:=fun r=>r=BN s (i+1)) ?_ ?_
  ·rw [K7];refine Aa.ite (fun h=>?_) (fun h=>?_)
   ·rw [if_pos h];exact Aa.Hm (by simp only;omega) (Aa.intro rfl)
   ·rw [if_neg h];exact Aa.intro rfl
  ·rintro r rfl;refine Aa.AE ((i+1:Nat):Int) (by simp) (by omega) (by omega) ?_;exact Aa.intro rfl
 ·rintro st rfl;unfold Jd;exact Aa.neg (by simp only;omega) (Aa.intro ⟨_,rfl,rfl⟩)
def Hy(J:JW)(a:Int):List Int×Int:=match CJ J with | some c=>([],c) | none=>if 0≤a∧a≤12 then(BN (AG J a.toNat) 16,0) else([],1)
def Hs(J:JW)(m:Int):List Int×Int:=match CJ J with | some c=>([],c) | none=>if 0≤m∧m≤(J.1.length:Int) - 1 then(Ed J m.toNat 13,0) else([],3)
theorem Si(J:JW)(a:Int):(Hy J a).1.length≤20:=by
 unfold Hy;split
 ·simp
 ·split
  ·exact Nat.le_trans (IV _ _) (by omega)
  ·simp
theorem SZ(J:JW)(a:Int):(Hs J a).1.length≤20:=by
 unfold Hs;split
 ·simp
 ·split
  ·exact Nat.le_trans (Lg _ _ _) (by omega)
  ·simp
theorem SP{F:Nat}{J:JW}{a:Int}(K:100<F)(U:NL J):Hu F J a=some (Hy J a):=by
 refine Aa.Ck ?_;unfold Hu Hy;cases h:CJ J with
 | some c=>
  refine Aa.be (Ng K U h) ?_;exact Aa.pos (Hn h) (Aa.intro rfl)
 | none=>
  have V:=HU h;refine Aa.b (M8 K U (by simp) h) ?_;rintro r (⟨O,rfl⟩ | ⟨O,rfl⟩)
  ·have Z:=O a (by simp);obtain⟨b,rfl⟩:∃b:Nat,a=(b:Int):=⟨a.toNat,by omega⟩;have aa:=LC V.le;have hg:=GJ V b;refine Aa.neg (by simp) ?_;refine Aa.be (b:=(J.1,J.2,Fx J)) rfl ?_;refine Aa.be (B6 (m:=b) rfl (OS J (by omega))) ?_;refine Aa.be (OV K (by omega)) ?_;refine Aa.intro ?_;simp only;rw [if_pos (by omega)];rfl
  ·refine Aa.pos (by simp) (Aa.intro ?_);simp only;rw [if_neg];rintro⟨x,y⟩;exact O fun z Y=>by simp at Y;subst Y;omega
theorem TU{F:Nat}{J:JW}{a:Int}(O:100<F)(Y:NL J):f64 F J a=some (Hy J a):=by
 refine Aa.Ck ?_;unfold f64 Hy;refine Aa.be (Ji O Y) ?_;cases h:CJ J with
 | some c=>exact Aa.pos (Hn h) (Aa.intro rfl)
 | none=>
  have K:=HU h;refine Aa.neg (by simp) ?_;refine Aa.be (G6 F _ _ _) ?_;refine Aa.ite (fun U=>?_) (fun U=>?_)
  ·have h3:¬(0≤a∧a≤12):=by simp at U;omega
   refine Aa.intro ?_;simp only;rw [if_neg h3]
  ·have h3:0≤a∧a≤12:=by simpa using U
   obtain⟨b,rfl⟩:∃b:Nat,a=(b:Int):=⟨a.toNat,by omega⟩;refine Aa.b (Px O K (by omega)) ?_;intro d V;refine Aa.be (TS O K.le V.1 V.2) ?_;refine Aa.intro ?_;simp only;rw [if_pos h3];have e:(16:Nat)=J.1.length+(16 - J.1.length):=by have:=K.le;omega
   show(BN (AG J b) J.1.length,(0:Int))=(BN (AG J b) 16,0);rw [e,Qx (GJ K b)]
theorem S1{F:Nat}{J:JW}{m:Int}(U:100<F)(V:NL J):Im F J m=some (Hs J m):=by
 refine Aa.Ck ?_;unfold Im Hs;cases h:CJ J with
 | some c=>
  refine Aa.be (Ng U V h) ?_;exact Aa.pos (Hn h) (Aa.intro rfl)
 | none=>
  have K:=HU h;have aa:=LC K.le;have ab:=K.le;refine Aa.b (M8 U V (by simp) h) ?_;rintro r (⟨Y,rfl⟩ | ⟨Y,rfl⟩)
  ·refine Aa.neg (by simp) ?_;refine Aa.AE ((J.1.length:Int) - 1) rfl (by omega) (by omega) ?_;refine Aa.be (H2 F _ _ _) ?_;refine Aa.ite (fun O=>?_) (fun O=>?_)
   ·have h3:=of_decide_eq_true O;refine Aa.intro ?_;simp only;rw [if_neg (by omega)]
   ·have h3:¬(m<0∨(J.1.length:Int) - 1<m):=fun x=>O (decide_eq_true x);obtain⟨q,rfl⟩:∃b:Nat,m=(b:Int):=⟨m.toNat,by omega⟩;refine Aa.be (b:=(J.1,J.2,Fx J)) rfl ?_;refine Aa.b (S:=fun r=>r=Ed J q 13) ?_ (by rintro r rfl;refine Aa.intro ?_;simp only;rw [if_pos (by omega)];rfl);refine Aa.upto 13 (fun i st=>st=(Ed J q i,(i:Int))) rfl (by omega) ?_ ?_
    ·rintro i st hi rfl;unfold Jw;have hg:=GJ K i;have hlen:=Lg J q i;refine Aa.pos (by simp only;omega) ?_;refine Aa.be (B6 (m:=i) rfl (OS J hi)) ?_;refine Aa.be (Oh F (by omega) (by omega)) ?_;refine Aa.b (S:=fun r=>r=Ed J q (i+1)) ?_ ?_
     ·rw [MJ];refine Aa.ite (fun h=>?_) (fun h=>?_)
      ·rw [if_pos h];exact Aa.Hm (by simp only;omega) (Aa.intro rfl)
      ·rw [if_neg h];exact Aa.intro rfl
     ·rintro r rfl;refine Aa.AE ((i+1:Nat):Int) (by simp) (by omega) (by omega) ?_;exact Aa.intro rfl
    ·rintro st rfl;unfold Jw;exact Aa.neg (by simp) (Aa.intro ⟨_,rfl,rfl⟩)
  ·exact absurd (fun x Z=>by simp at Z) Y
theorem TT{F:Nat}{J:JW}{m:Int}(O:100<F)(V:NL J):f66 F J m=some (Hs J m):=by
 refine Aa.Ck ?_;unfold f66 Hs;refine Aa.be (Ji O V) ?_;cases h:CJ J with
 | some c=>exact Aa.pos (Hn h) (Aa.intro rfl)
 | none=>
  have U:=HU h;have Z:=U.le;refine Aa.neg (by simp) ?_;refine Aa.AE ((J.1.length:Int) - 1) rfl (by omega) (by omega) ?_;refine Aa.be (G6 F _ _ _) ?_;refine Aa.ite (fun K=>?_) (fun K=>?_)
  ·have h3:¬(0≤m∧m≤(J.1.length:Int) - 1):=by simp at K;omega
   refine Aa.intro ?_;simp only;rw [if_neg h3]
  ·have h3:0≤m∧m≤(J.1.length:Int) - 1:=by simpa using K
   obtain⟨q,rfl⟩:∃b:Nat,m=(b:Int):=⟨m.toNat,by omega⟩;refine Aa.b (S:=fun r=>r=Ed J q 13) ?_ (by rintro r rfl;refine Aa.intro ?_;simp only;rw [if_pos h3];rfl);refine Aa.upto 13 (fun i st=>st=(Ed J q i,(i:Int))) rfl (by omega) ?_ ?_
   ·rintro i st hi rfl;unfold JP;have hlen:=Lg J q i;refine Aa.pos (by simp only;omega) ?_;refine Aa.b (Px O U hi) ?_;intro d Y;refine Aa.be (B6 (m:=q) rfl (Y.2 q (by omega))) ?_;refine Aa.b (S:=fun r=>r=Ed J q (i+1)) ?_ ?_
    ·rw [MJ];refine Aa.ite (fun h=>?_) (fun h=>?_)
     ·rw [if_pos h];exact Aa.Hm (by simp only;omega) (Aa.intro rfl)
     ·rw [if_neg h];exact Aa.intro rfl
    ·rintro r rfl;refine Aa.AE ((i+1:Nat):Int) (by simp) (by omega) (by omega) ?_;exact Aa.intro rfl
   ·rintro st rfl;unfold JP;exact Aa.neg (by simp) (Aa.intro ⟨_,rfl,rfl⟩)
def DL(n:Nat)(K:List (Int×Int))(i:Nat):Option Int:=
 if(K.getD i (0,0)).1<0∨6<(K.getD i (0,0)).1 then some 1 else if 0<i∧(K.getD i (0,0)).1<(K.getD (i - 1) (0,0)).1 then some 5 else if(K.getD i (0,0)).2<0∨(n:Int) - 1<(K.getD i (0,0)).2 then some 3 else none
def It(n:Nat)(K:List (Int×Int)):Option Int:=if 4<K.length then some 6 else(List.range K.length).findSome? (DL n K)
def CL(J:JW)(K:List (Int×Int)):Int:=match CJ J with | some c=>c | none=>(It J.1.length K).getD 0
theorem SU{F:Nat}{J:JW}{K:List (Int×Int)}(ac:100<F)(ae:J.1.length<100):Aa (f116 F J K) (fun e=>e.map (·.1)=It J.1.length K):=by
 unfold f116 It;refine Aa.ite (fun h=>?_) (fun h=>?_)
 ·rw [if_pos (by omega)];exact Aa.intro rfl
 rw [if_neg (by omega)];refine Aa.b (S:=fun q=>(∃c,q=Sum.inl (some c)∧(List.range K.length).findSome? (DL J.1.length K)=some c.1)∨(q=Sum.inr ()∧(List.range K.length).findSome? (DL J.1.length K)=none)) ?_ ?_
 ·refine Aa.upto K.length (fun i s=>s=(i:Int)∧∀q,q<i→DL J.1.length K q=none) ⟨rfl,fun q ab=>by omega⟩ (by omega) ?_ ?_
  ·rintro i s hi ⟨rfl,O⟩;unfold Jh;have hg:K.getD i (0,0)=K[i]:=Dc hi;refine Aa.pos (by omega) ?_;refine Aa.AR (m:=i) rfl hi ?_;refine Aa.be (H2 F _ _ _) ?_;refine Aa.ite (fun h=>?_) (fun h=>?_)
   ·have U:=of_decide_eq_true h;exact Aa.intro (.inl ⟨(1,(i:Int)),rfl,Cg O (by unfold DL;rw [hg,if_pos U]) hi⟩)
   have U:¬(K[i].1<0∨6<K[i].1):=fun x=>h (decide_eq_true x);refine Aa.b (S:=fun c=>c=decide (0<i∧K[i].1<(K.getD (i - 1) (0,0)).1)) ?_ ?_
   ·refine Aa.ite (fun h3=>?_) (fun h3=>?_)
    ·have aa:i - 1<K.length:=by omega
     refine Aa.AE ((i - 1:Nat):Int) (by omega) (by omega) (by omega) ?_;refine Aa.AR (m:=i - 1) rfl aa ?_;refine Aa.intro ?_;rw [Dc aa];exact decide_eq_decide.2 ⟨fun x=>⟨by omega,x⟩,fun x=>x.2⟩
    ·exact Aa.intro (decide_eq_false (by omega)).symm
   ·rintro c rfl;refine Aa.ite (fun h3=>?_) (fun h3=>?_)
    ·have V:=of_decide_eq_true h3;exact Aa.intro (.inl ⟨(5,(i:Int)),rfl,Cg O (by unfold DL;rw [hg,if_neg U,if_pos V]) hi⟩)
    have V:¬(0<i∧K[i].1<(K.getD (i - 1) (0,0)).1):=fun x=>h3 (decide_eq_true x);refine Aa.AE ((J.1.length:Int) - 1) rfl (by omega) (by omega) ?_;refine Aa.be (H2 F _ _ _) ?_;refine Aa.ite (fun Y=>?_) (fun Y=>?_)
    ·have Z:=of_decide_eq_true Y;exact Aa.intro (.inl ⟨(3,(i:Int)),rfl,Cg O (by unfold DL;rw [hg,if_neg U,if_neg V,if_pos Z]) hi⟩)
    have Z:¬(K[i].2<0∨(J.1.length:Int) - 1<K[i].2):=fun x=>Y (decide_eq_true x);refine Aa.AE ((i+1:Nat):Int) (by simp) (by omega) (by omega) ?_;refine Aa.intro ⟨rfl,fun q ab=>?_⟩;by_cases e:q=i
    ·subst e;unfold DL;rw [hg,if_neg U,if_neg V,if_neg Z]
    ·exact O q (by omega)
  ·rintro s ⟨rfl,O⟩;unfold Jh;exact Aa.neg (by omega) (Aa.intro ⟨_,rfl,.inr ⟨rfl,Em O⟩⟩)
 ·rintro q (⟨c,rfl,h⟩ | ⟨rfl,h⟩)
  ·exact Aa.intro h.symm
  ·exact Aa.intro h.symm
theorem Sp{F:Nat}{J:JW}{K:List (Int×Int)}(O:100<F)(U:NL J):Fu F J K=some (CL J K):=by
 have Z:=U.l1;refine Aa.Ck ?_;unfold Fu CL;refine Aa.b (Ny O U) ?_;intro e he;rw [← he];cases e with
 | some q=>
  refine Aa.pos rfl ?_;exact Aa.be (NM F _) (Aa.intro rfl)
 | none=>
  refine Aa.neg (by simp) ?_;refine Aa.b (SU O (by omega)) ?_;intro V Y;refine Aa.be (NM F _) (Aa.intro ?_);show(V.map (·.1)).getD 0=(It J.1.length K).getD 0;rw [Y]
theorem TR{F:Nat}{J:JW}{K:List (Int×Int)}(ac:100<F)(aa:NL J):f70 F J K=some (CL J K):=by
 have ag:=aa.l1;refine Aa.Ck ?_;unfold f70 CL;refine Aa.be (Ji ac aa) ?_;cases h:CJ J with
 | some c=>exact Aa.pos (Hn h) (Aa.intro rfl)
 | none=>
  refine Aa.neg (by simp) ?_;unfold It;refine Aa.ite (fun h=>?_) (fun h=>?_)
  ·simp only;rw [if_pos (by omega)];exact Aa.intro rfl
  simp only;rw [if_neg (show ¬4<K.length by omega)];refine Aa.b (S:=fun q=>(∃c,q=Sum.inl c∧(List.range K.length).findSome? (DL J.1.length K)=some c)∨(q=Sum.inr ()∧(List.range K.length).findSome? (DL J.1.length K)=none)) ?_ ?_
  ·refine Aa.upto K.length (fun i s=>s=(i:Int)∧∀q,q<i→DL J.1.length K q=none) ⟨rfl,fun q ae=>by omega⟩ (by omega) ?_ ?_
   ·rintro i s hi ⟨rfl,O⟩;unfold JV;have hg:K.getD i (0,0)=K[i]:=Dc hi;refine Aa.pos (by omega) ?_;refine Aa.AR (m:=i) rfl hi ?_;refine Aa.be (G6 F _ _ _) ?_;refine Aa.ite (fun h=>?_) (fun h=>?_)
    ·have U:K[i].1<0∨6<K[i].1:=by simp at h;omega
     exact Aa.intro (.inl ⟨1,rfl,Cg O (by unfold DL;rw [hg,if_pos U]) hi⟩)
    have U:¬(K[i].1<0∨6<K[i].1):=by simp at h;omega
    refine Aa.b (S:=fun c=>c=decide (0<i∧K[i].1<(K.getD (i - 1) (0,0)).1)) ?_ ?_
    ·refine Aa.ite (fun h3=>?_) (fun h3=>?_)
     ·have ab:i - 1<K.length:=by omega
      refine Aa.AR (m:=i) rfl hi ?_;refine Aa.AE ((i - 1:Nat):Int) (by omega) (by omega) (by omega) ?_;refine Aa.AR (m:=i - 1) rfl ab ?_;refine Aa.intro ?_;rw [Dc ab];exact decide_eq_decide.2 ⟨fun x=>⟨by omega,x⟩,fun x=>x.2⟩
     ·exact Aa.intro (decide_eq_false (by omega)).symm
    ·rintro c rfl;refine Aa.ite (fun h3=>?_) (fun h3=>?_)
     ·have V:=of_decide_eq_true h3;exact Aa.intro (.inl ⟨5,rfl,Cg O (by unfold DL;rw [hg,if_neg U,if_pos V]) hi⟩)
     have V:¬(0<i∧K[i].1<(K.getD (i - 1) (0,0)).1):=fun x=>h3 (decide_eq_true x);refine Aa.AR (m:=i) rfl hi ?_;refine Aa.AE ((J.1.length:Int) - 1) rfl (by omega) (by omega) ?_;refine Aa.be (G6 F _ _ _) ?_;refine Aa.ite (fun Y=>?_) (fun Y=>?_)
     ·have Z:K[i].2<0∨(J.1.length:Int) - 1<K[i].2:=by simp at Y;omega
      exact Aa.intro (.inl ⟨3,rfl,Cg O (by unfold DL;rw [hg,if_neg U,if_neg V,if_pos Z]) hi⟩)
     have Z:¬(K[i].2<0∨(J.1.length:Int) - 1<K[i].2):=by simp at Y;omega
     refine Aa.AE ((i+1:Nat):Int) (by simp) (by omega) (by omega) ?_;refine Aa.intro ⟨rfl,fun q ae=>?_⟩;by_cases e:q=i
     ·subst e;unfold DL;rw [hg,if_neg U,if_neg V,if_neg Z]
     ·exact O q (by omega)
   ·rintro s ⟨rfl,O⟩;unfold JV;exact Aa.neg (by omega) (Aa.intro ⟨_,rfl,.inr ⟨rfl,Em O⟩⟩)
  ·rintro q (⟨c,rfl,h⟩ | ⟨rfl,h⟩)
   ·rw [h];exact Aa.intro rfl
   ·rw [h];exact Aa.intro rfl
theorem UQ{F:Nat}{K:List (Int×Int)}(O:100<F)(U:K.length≤20):f34 F K K=some true:=by
 refine Aa.Ck ?_;unfold f34;refine Aa.b (S:=fun q=>q=Sum.inr ()) ?_ (by rintro q rfl;exact Aa.intro (by simp));refine Aa.upto K.length (fun i s=>s=(i:Int)) rfl (by omega) ?_ ?_
 ·rintro i s hi rfl;unfold JE;refine Aa.b (S:=fun c=>c=true) (Aa.pos (by omega) (Aa.intro (decide_eq_true (by omega)))) ?_;rintro c rfl;refine Aa.pos rfl ?_;refine Aa.AR (m:=i) rfl hi ?_;refine Aa.AR (m:=i) rfl hi ?_;refine Aa.neg (by simp) ?_;refine Aa.AE ((i+1:Nat):Int) (by simp) (by omega) (by omega) ?_;exact Aa.intro rfl
 ·rintro s rfl;unfold JE;refine Aa.b (S:=fun c=>c=false) (Aa.neg (by omega) (Aa.intro rfl)) ?_;rintro c rfl;exact Aa.neg (by simp) (Aa.intro ⟨_,rfl,rfl⟩)
theorem Uy{F:Nat}{K:List (Int×Int)}(O:K.length<1000):f27 F K=some K:=by
 unfold f27 Cj;rw [if_pos (by simp;omega)]
 rfl
end Pal
namespace Pal
abbrev Mq:=List (Int×Int)
structure Ds (n:Nat) (K:Mq):Prop where
 len:K.length≤8
 yr:∀l∈K,0≤l.1∧l.1≤6
 sn:∀l∈K,0≤l.2∧l.2<(n:Int)
 Kx:K.Pairwise (fun a b=>a.1≤b.1)
end Pal
namespace Pal
end Pal
namespace Pal
end Pal
namespace Pal
end Pal
namespace Pal
def EL(J:JW)(a:Nat)(p:List Int):Prop:=(∀m,p[0]? =some m→∃k:Nat,m=(k:Int)∧(AG J a).testBit k=true)∧∀(y:Nat) m m',p[y]? =some m→p[y+1]? =some m'→m'∈J.1.getD m.toNat []
theorem EL.range{n a:Nat}{J:JW}{p:List Int}(K:VJ n J)(h:EL J a p):∀(y:Nat) m,p[y]? =some m→0≤m∧m<(n:Int)
 | 0,m,hm=>by
  obtain⟨k,rfl,O⟩:=h.1 m hm
  have:=HT (GJ K a) O
  omega
 | y+1,m,hm=>by
  have U:y<p.length:=by have:=(List.getElem?_eq_some_iff.1 hm).1;omega
  exact(K.HD _).inr _ (h.2 y p[y] m (List.getElem?_eq_getElem U) hm)
theorem EL.take{a:Nat}{J:JW}{p:List Int}(h:EL J a p)(k:Nat):EL J a (p.take k):=by
 have key:∀(y:Nat) m,(p.take k)[y]? =some m→p[y]? =some m:=fun y m hm=>by
  rw [List.getElem?_take] at hm;split at hm
  ·exact hm
  ·cases hm
 exact⟨fun m hm=>h.1 m (key 0 m hm),fun y m m' K O=>h.2 y m m' (key _ _ K) (key _ _ O)⟩
theorem EL.snoc{a:Nat}{J:JW}{p:List Int}{m x:Int}(h:EL J a (p++ [m]))(U:x∈J.1.getD m.toNat []):EL J a (p++ [m]++ [x]):=by
 constructor
 ·intro y O;rw [List.getElem?_append_left (by simp)] at O;exact h.1 y O
 ·intro y u V hu K;rcases Nat.lt_or_ge (y+1) (p++ [m]).length with Y | Z
  ·rw [List.getElem?_append_left (by omega)] at hu;rw [List.getElem?_append_left Y] at K;exact h.2 y u V hu K
  ·have aa:=(List.getElem?_eq_some_iff.1 K).1;simp only [List.length_append,List.length_singleton] at Z aa;have e:y=p.length:=by omega
   subst e;rw [List.getElem?_append_left (by simp),List.getElem?_append_right (by omega)] at hu;rw [List.getElem?_append_right (by simp)] at K;simp at hu K;subst hu;subst K;exact U
theorem TC{n a q:Nat}{J:JW}{x:Int}(K:VJ n J)(O:(AG J a).testBit q=true)(U:x∈J.1.getD q []):∃k:Nat,x=(k:Int)∧(AG J (a+1)).testBit k=true:=by
 have V:=(K.HD q).inr x U;refine⟨x.toNat,by omega,?_⟩;show(Ex J.1 (AG J a)).testBit _=true;rw [LJ K];exact⟨q,by have:=HT (GJ K a) O;have:=K.le;omega,O,by rw [show((x.toNat:Nat):Int)=x by omega];exact U⟩
theorem VJ.PZ{n q:Nat}{J:JW}(K:VJ n J)(U:q<n):J.1[q]? =some (J.1.getD q [])∧0<(J.1.getD q []).length:=by
 have V:=K.l1;have O:J.1[q]? =some (J.1.getD q []):=by rw [List.getD_eq_getElem?_getD,List.getElem?_eq_getElem (by omega)];rfl
 exact⟨O,(K.nx q _ O).2⟩
theorem Uj{F k n yrs:Nat}{b:Dh}{J:JW}(aA:100<F)(K:VJ n J)(hb:BG k b)(aB:k<1000)(aC:yrs≤20):
  Aa (f45 F b J (yrs:Int)) (fun r=>∃a:Nat,r.1=(a:Int)∧a≤6∧r.2.1.length=yrs∧EL J a r.2.1∧BG (k+30) r.2.2):=by
 have aD:=K.le;have aE:=K.pos;unfold f45;refine Aa.b (EI hb (by omega) (by omega)) ?_;rintro⟨al,aF⟩ ⟨ao,ap,am⟩;simp only at ao ap am ⊢;obtain⟨a,rfl⟩:∃a:Nat,al=(a:Int):=⟨al.toNat,by omega⟩;refine Aa.b (S:=fun r=>∃q:Nat,r.1=(q:Int)∧(AG J a).testBit q=true∧BG (k+7) r.2) ?_ ?_
 ·refine Aa.upto a (fun i s=>∃q:Nat,s.2.2.2.1=(q:Int)∧(AG J i).testBit q=true∧s.2.2.2.2=(i:Int)∧BG (k+1+i) (s.1,s.2.1,s.2.2.1)) ⟨0,rfl,by show(1:Nat).testBit 0=true;decide,rfl,am⟩ (by omega) ?_ ?_
  ·rintro i ⟨s1,s2,ai,Y,ah⟩ hi ⟨q,O,Z,aa,ab⟩;simp only at O aa ab;subst O;subst aa;unfold J4;have aq:=HT (GJ K i) Z;obtain⟨aj,ak⟩:=K.PZ aq;refine Aa.pos (by simp only;omega) ?_;refine Aa.be (B6 (m:=q) rfl aj) ?_;refine Aa.b (JN (F:=F) ab (by omega) ak (by have:=(K.HD q).len;omega)) ?_;rintro⟨x,ar⟩ ⟨ac,ae⟩;simp only at ac ae ⊢;obtain⟨au,rfl,av⟩:=TC K Z ac;refine Aa.AE ((i+1:Nat):Int) (by simp) (by omega) (by omega) ?_;exact Aa.intro ⟨au,rfl,av,rfl,ae⟩
  ·rintro⟨s1,s2,ai,Y,ah⟩ ⟨q,O,Z,aa,ab⟩;simp only at O aa ab;subst O;subst aa;unfold J4;exact Aa.neg (by simp) (Aa.intro ⟨_,rfl,q,rfl,Z,ab.moq (by omega)⟩)
 ·rintro⟨aG,ar⟩ ⟨q,O,Z,ae⟩;simp only at O ae ⊢;subst O;refine Aa.b (S:=fun r=>r.1.length=yrs∧EL J a r.1∧BG (k+30) r.2) ?_ ?_
  ·refine Aa.upto yrs (fun i s=>s.2.2.2.2.1.length=i∧s.2.2.2.2.2=(i:Int)∧EL J a (s.2.2.2.2.1++ [s.2.2.2.1])∧BG (k+7+i) (s.1,s.2.1,s.2.2.1)) ⟨rfl,rfl,⟨?_,?_⟩,ae⟩ (by omega) ?_ ?_
   ·intro m hm;simp at hm;subst hm;exact⟨q,rfl,Z⟩
   ·intro y m m' _ aw;simp at aw
   ·rintro i ⟨s1,s2,ai,Y,ah,ay⟩ hi ⟨U,V,h3,ag⟩;simp only at U V h3 ag;subst V;unfold JI;have aH:=h3.range K i Y (by rw [List.getElem?_append_right (by omega)];simp [U]);obtain⟨u,hu⟩:∃u:Nat,Y=(u:Int):=⟨Y.toNat,by omega⟩;subst hu;obtain⟨aj,ak⟩:=K.PZ (q:=u) (by omega);refine Aa.pos (by simp only;omega) ?_;refine Aa.Hm (by simp only;omega) ?_;refine Aa.be (B6 (m:=u) rfl aj) ?_;refine Aa.b (JN (F:=F) ag (by omega) ak (by have:=(K.HD u).len;omega)) ?_;rintro⟨x,az⟩ ⟨ac,an⟩;simp only at ac an ⊢;refine Aa.AE ((i+1:Nat):Int) (by simp) (by omega) (by omega) ?_;exact Aa.intro ⟨by simp [U],rfl,h3.snoc (by simpa using ac),an⟩
   ·rintro⟨s1,s2,ai,Y,ah,ay⟩ ⟨U,V,h3,ag⟩;simp only at U V h3 ag;subst V;unfold JI;refine Aa.neg (by simp) (Aa.intro ⟨_,rfl,U,?_,ag.moq (by omega)⟩);have:=h3.take ah.length
    rwa [List.take_left' rfl] at this
  ·rintro⟨ms,az⟩ ⟨U,V,h3⟩;exact Aa.intro ⟨a,rfl,by omega,U,V,h3⟩
theorem Ds.snoc{n:Nat}{O:Mq}{l:Int×Int}(h:Ds n O)(Z:O.length<4)(V:0≤l.1∧l.1≤6)(Y:0≤l.2∧l.2<(n:Int))(h3:∀x∈O,x.1≤l.1):Ds n (O++ [l]) where
 len:=by simp;omega
 yr x K:=by
  rcases List.mem_append.1 K with K | K
  ·exact h.yr x K
  ·simp at K;subst K;exact V
 sn x K:=by
  rcases List.mem_append.1 K with K | K
  ·exact h.sn x K
  ·simp at K;subst K;exact Y
 Kx:=by
  rw [List.pairwise_append];exact⟨h.Kx,by simp,fun x K y U=>by simp at U;subst U;exact h3 x K⟩
theorem Ds.nil{n:Nat}:Ds n []:=⟨by simp,by simp,by simp,by simp⟩
theorem UG{F k n many:Nat}{b:Dh}{J:JW}{ms:List Int}(fl:Bool)(aE:100<F)(ae:VJ n J)(hb:BG k b)(aF:k<1000)(hm:many≤4)(ao:0<ms.length∧ms.length≤7)(Y:∀(y:Nat) m,ms[y]? =some m→0≤m∧m<(n:Int)):
  Aa (f46 F b J ms (many:Int) fl) (fun r=>Ds n r.1∧r.1.length≤many∧(∀l∈r.1,l.1.toNat<ms.length)∧(fl=false→∀l∈r.1,ms[l.1.toNat]? =some l.2)∧BG (k+30) r.2):=by
 have ap:=ae.l2;unfold f46;refine Aa.b (EI hb (by omega) (by omega)) ?_;rintro⟨ct,aG⟩ ⟨aq,ar,ag⟩;simp only at aq ar ag ⊢;obtain⟨c,rfl⟩:∃c:Nat,ct=(c:Int):=⟨ct.toNat,by omega⟩;refine Aa.b (S:=fun r=>Ds n r.1∧r.1.length≤many∧(∀l∈r.1,l.1.toNat<ms.length)∧(fl=false→∀l∈r.1,ms[l.1.toNat]? =some l.2)∧BG (k+30) r.2) ?_ (fun r Y=>Aa.intro Y);refine Aa.iter (fun m s=>∃y:Nat,s.2.2.2.2.2=(m:Int)∧s.2.2.2.2.1=(y:Int)∧y<ms.length∧s.2.2.2.1.length+m≤many∧Ds n s.2.2.2.1∧(∀l∈s.2.2.2.1,l.1≤(y:Int))∧(fl=false→∀l∈s.2.2.2.1,ms[l.1.toNat]? =some l.2)∧BG (k+29 - 4*m) (s.1,s.2.1,s.2.2.1)) ?_ (m:=c) ⟨0,rfl,rfl,ao.1,by simp;omega,Ds.nil,by simp,by simp,ag.moq (by omega)⟩ (by omega);rintro m ⟨s1,s2,aH,out,yr,cnt⟩ ⟨y,ah,ai,aI,hlen,U,hle,Z,aa⟩;simp only at ah ai hlen U hle Z aa;subst ah;subst ai;unfold LR;refine Aa.ite (fun au=>?_) (fun av=>?_)
 ·simp only at au;have aJ:0<m:=by omega
  refine Aa.AE ((ms.length - 1:Nat):Int) (by omega) (by omega) (by omega) ?_;refine Aa.AE ((y+2:Nat):Int) (by simp only;omega) (by omega) (by omega) ?_;refine Aa.b (LN (F:=F) aa (by omega) (by simp only;omega) (by simp only;omega) (by omega)) ?_;rintro⟨aj,aK⟩ ⟨v1,v2,ab⟩;simp only at v1 v2 ab ⊢;obtain⟨z,rfl⟩:∃z:Nat,aj=(z:Int):=⟨aj.toNat,by omega⟩;have ak:z<ms.length:=by omega
  have hg:ms[z]? =some ms[z]:=List.getElem?_eq_getElem ak;obtain⟨aL,aw⟩:=Y z _ hg;obtain⟨q,ay⟩:∃q:Nat,ms[z]=(q:Int):=⟨ms[z].toNat,by omega⟩;rw [ay] at hg aw;have aM:q<n:=by omega
  have az:J.2[q]? =some (J.2.getD q []):=by rw [List.getD_eq_getElem?_getD,List.getElem?_eq_getElem (by omega)];rfl
  have al:=ae.Wa q;refine Aa.be (B6 (m:=z) rfl hg) ?_;refine Aa.be (B6 (m:=z) rfl hg) ?_;refine Aa.be (B6 (m:=q) rfl az) ?_;refine Aa.b (S:=fun c=>c=true→fl=true∧0<(J.2.getD q []).length) ?_ ?_
  ·refine Aa.ite (fun h=>Aa.intro fun O=>⟨h,by have:=of_decide_eq_true O;omega⟩) (fun _=>Aa.intro fun O=>by cases O)
  ·intro aN aA;refine Aa.b (S:=fun r=>(r.1=true→fl=true∧0<(J.2.getD q []).length)∧BG (k+29 - 4*m+2) r.2) ?_ ?_
   ·refine Aa.ite (fun h=>?_) (fun _=>Aa.intro ⟨fun O=>(by cases O),BG.moq ab (by omega)⟩);refine Aa.b (Ia (F:=F) ab (by omega) (by omega) (by omega)) ?_;rintro⟨o,aB⟩ V;exact Aa.intro ⟨fun _=>aA h,V⟩
   ·rintro⟨c2,aB⟩ ⟨am,V⟩;simp only at am V ⊢;refine Aa.b (S:=fun r=>0≤r.2.2.2∧r.2.2.2<(n:Int)∧(fl=false→r.2.2.2=(q:Int))∧BG (k+29 - 4*m+3) (r.1,r.2.1,r.2.2.1)) ?_ ?_
    ·refine Aa.ite (fun h=>?_) (fun _=>Aa.intro ⟨by simp only;omega,by simp only;omega,fun _=>rfl,BG.moq V (by omega)⟩);obtain⟨f1,f2⟩:=am h;refine Aa.b (JN (F:=F) V (by omega) f2 (by have:=al.len;omega)) ?_;rintro⟨x,aO⟩ ⟨ac,aC⟩;have:=al.inr x ac;exact Aa.intro ⟨this.1,this.2,fun O=>(by rw [f1] at O;cases O),aC⟩
    ·rintro⟨u1,u2,aP,sn⟩ ⟨w1,w2,w3,w4⟩;simp only at w1 w2 w3 w4 ⊢;refine Aa.Hm (by have:=U.len;omega) ?_;refine Aa.AE ((m - 1:Nat):Int) (by omega) (by omega) (by omega) ?_;refine Aa.intro ⟨m - 1,by omega,z,rfl,rfl,ak,by simp;omega,?_,?_,?_,w4.moq (by omega)⟩
     ·exact U.snoc (by have:=U.len;omega) ⟨by simp only;omega,by simp only;omega⟩ ⟨w1,w2⟩ fun x ac=>by have:=hle x ac;simp only;omega
     ·intro l K;rcases List.mem_append.1 K with K | K
      ·have:=hle l K;omega
      ·simp at K;subst K;exact Int.le_refl _
     ·intro an l K;rcases List.mem_append.1 K with K | K
      ·exact Z an l K
      ·simp at K;subst K;rw [w3 an];exact hg
 ·simp only at av;have aD:m=0:=by omega
  subst aD;exact Aa.intro ⟨U,by omega,fun l K=>by have aQ:=hle l K;have ap:=U.yr l K;omega,Z,aa.moq (by omega)⟩
theorem Ds.set{n i:Nat}{K:Mq}{s:Int}(h:Ds n K)(hi:i<K.length)(hs:0≤s∧s<(n:Int)):Ds n (K.set i (K[i].1,s)):=by
 have hm:=List.getElem_mem hi;refine⟨by simpa using h.len,fun l O=>?_,fun l O=>?_,?_⟩
 ·rcases List.mem_or_eq_of_mem_set O with U | rfl
  ·exact h.yr l U
  ·exact h.yr K[i] hm
 ·rcases List.mem_or_eq_of_mem_set O with U | rfl
  ·exact h.sn l U
  ·exact hs
 ·have key:(K.set i (K[i].1,s)).map (fun l=>l.1)=K.map (fun l=>l.1):=by
   rw [List.map_set];apply List.ext_getElem?;intro j;by_cases e:i=j
   ·subst e;rw [List.getElem?_set_self (by simpa using hi)];simp [hi]
   ·rw [List.getElem?_set_ne e]
  have V:(K.map fun l=>l.1).Pairwise (·≤·):=List.pairwise_map.2 h.Kx;rw [← key] at V;exact List.pairwise_map.1 V
theorem Vu{F k n many:Nat}{b:Dh}{J:JW}(Y:100<F)(K:VJ n J)(hb:BG k b)(au:k<900)(hm:many≤4):
  Aa (f40 F b J (many:Int)) (fun r=>Ds n r.1∧r.1.length≤many∧(∀l∈r.1,l.1.toNat<5)∧BG (k+100) r.2):=by
 have av:=K.l1;have aw:=K.pos;have ay:=K.le;unfold f40;refine Aa.b (Uj (yrs:=5) Y K hb (by omega) (by omega)) ?_;rintro⟨az,ms,aA⟩ ⟨a,_,_,aj,Z,aa⟩;simp only at aj Z aa ⊢;refine Aa.b (UG (many:=many) true Y K aa (by omega) hm ⟨by omega,by omega⟩ (Z.range K)) ?_;rintro⟨O,aB⟩ ⟨v1,v2,ab,_,ac⟩;simp only at v1 v2 ab ac ⊢;refine Aa.b (S:=fun r=>Ds n r.1∧r.1.length≤many∧(∀l∈r.1,l.1.toNat<5)∧BG (k+100) r.2) ?_ (fun r ak=>Aa.intro ak);refine Aa.upto O.length (fun i s=>s.2.2.2.2=(i:Int)∧Ds n s.2.2.2.1∧s.2.2.2.1.length=O.length∧(∀l∈s.2.2.2.1,l.1.toNat<5)∧BG (k+60+3*i) (s.1,s.2.1,s.2.2.1)) ⟨rfl,v1,rfl,fun l al=>by have:=ab l al;omega,ac⟩ (by have:=v1.len;omega) ?_ ?_
 ·rintro i ⟨s1,s2,am,l,c⟩ hi ⟨e,w1,w2,w3,w4⟩;simp only at e w1 w2 w3 w4;subst e;unfold JM;have U:i<l.length:=by omega
  have an:=v1.len;refine Aa.pos (by simp only;omega) ?_;refine Aa.b (Ia (F:=F) w4 (by omega) (by omega) (by omega)) ?_;rintro⟨o,aC⟩ V;simp only at V ⊢;refine Aa.b (S:=fun r=>Ds n r.1∧r.1.length=O.length∧(∀x∈r.1,x.1.toNat<5)∧BG (k+60+3*i+2) r.2) ?_ ?_
  ·refine Aa.ite (fun _=>?_) (fun _=>Aa.intro ⟨w1,w2,w3,BG.moq V (by omega)⟩);refine Aa.AE ((n - 1:Nat):Int) (by omega) (by omega) (by omega) ?_;refine Aa.b (EI (F:=F) V (by omega) (by omega)) ?_;rintro⟨x,ao⟩ ⟨ae,ap,ag⟩;simp only at ae ap ag ⊢;refine Aa.AR (m:=i) rfl U ?_;refine Aa.intro ⟨?_,by simpa using w2,?_,ag⟩
   ·rw [show Int.toNat (i:Int)=i by omega];exact w1.set U ⟨ae,by omega⟩
   ·intro y aq;rcases List.mem_or_eq_of_mem_set aq with ar | rfl
    ·exact w3 y ar
    ·exact w3 l[i] (List.getElem_mem U)
  ·rintro⟨l2,ao⟩ ⟨u1,u2,ah,ai⟩;simp only at u1 u2 ah ai ⊢;refine Aa.AE ((i+1:Nat):Int) (by simp) (by omega) (by omega) ?_;exact Aa.intro ⟨rfl,u1,u2,ah,BG.moq ai (by omega)⟩
 ·rintro⟨s1,s2,am,l,c⟩ ⟨e,w1,w2,w3,w4⟩;simp only at e w1 w2 w3 w4;subst e;unfold JM;have an:=v1.len;exact Aa.neg (by simp only;omega) (Aa.intro ⟨_,rfl,w1,by simp only;omega,w3,BG.moq w4 (by omega)⟩)
end Pal
namespace Pal
open Go Go.Conc Go.Proofs
open Go.Proofs.Tryz
variable {J:Judge Tryz.prog}{E:LH}
def Ku(fuel:Nat)(p0:LKL):Option ((LKL)):= (Cj ([]:LKL) p0).bind fun K=> some K
theorem Ps{a1:OAd}{c2:Nat}{p0:LKL}(h3:LsR rLK E a1 c2 (p0)){fuel:Nat}{r:(LKL)}(hD:Ku fuel p0=some r):Al J 27 [sV a1 p0 c2] E [] (fun w E' B'=>∃(K:OAd) (O:Nat) (g0:Seg),w= sV K r O∧B'=g0∧OL 27 rLK E' K O g0 (r)):=by
 refine Av func27 rfl rfl fun Q ah cs H hN U=>?_;unfold Ku at hD;refine zg 6 rfl ?_;refine H8 (pp:=rLK) rfl rfl rfl underlying25 q_szOf_oftype27 hN fun ai aj h6 V=>?_;obtain⟨ak,Y,Z⟩:=bs hD;refine zg 1 rfl ?_;refine H0 (pp:=rLK) 1 Y rfl rfl rfl rfl rfl rfl rfl underlying25 underlying25 q_szOf_oftype27 (Bz type27) CK rfl (by decide) (by decide) h6 h3 V rfl fun aa ab ac ae ag=>?_;refine zg 2 rfl ?_;obtain rfl:=oi Z;refine Af func27 rfl rfl ?_;exact U _ _ _ _ lR_ rfl ⟨aa,ab,ac,rfl,(by first | rfl | simp | (simp [Value.cells])),ae⟩ ag
def f25(fuel:Nat)(p0:LKL)(p1:Int×Int)(p2:JW2)(p3:A3):Option ((List (LKL))×(A3)):= (f40 fuel p3 p2 3).bind fun x25=> (Ku fuel x25.1).bind fun K=> (Cj K ([p1]:LKL)).bind fun x39=> some (([p0,x25.1,x39]:List (LKL)),x25.2)
theorem f25_w{a1:OAd}{c2:Nat}{a4:OAd}{c5:Nat}{a7:OAd}{c8:Nat}{K:Nat}{a10:OAd}{c11:Nat}{p0:LKL}{p1:Int×Int}{p2:JW2}{p3:A3}(h3:LsR rLK E a1 c2 (p0))(h6:LsR (rL rI) E a4 c5 (p2.1))(h9:LsR (rL rI) E a7 c8 (p2.2))(h12:LsR rI E a10 c11 (p3.1)){fuel:Nat}{r:(List (LKL))×(A3)}(hD:f25 fuel p0 p1 p2 p3=some r):Al J 25 [sV a1 p0 c2,.agg #[iV p1.1,iV p1.2],.agg #[sV a4 p2.1 c5,sV a7 p2.2 c8],pV K 0] E [(K,.cells #[sV a10 p3.1 c11,iV p3.2.1,.int .u64 ((p3.2.2:Nat):Int)] 92 (0,0))] (fun w E' B'=>∃(ae:OAd) (ag:Nat) (ah:OAd) (ai:Nat),w= sV ae r.1 ag∧B'= [(K,.cells #[sV ah r.2.1 ai,iV r.2.2.1,.int .u64 ((r.2.2.2:Nat):Int)] 92 (0,0))]∧LsR (rL rLK) E' ae ag (r.1)∧LsR rI E' ah ai (r.2.1)):=by
 refine Av func25 rfl rfl fun Q a6 cs H hN aj=>?_;unfold f25 at hD;refine zg 2 rfl ?_;refine JS.box (v:= .agg #[iV p1.1,iV p1.2]) rfl rfl rfl hN rfl fun r14 hN13=>?_;refine JSfreezeB_ 1 hN13 rfl fun E15 hle16 h17 hN18=>?_;refine JS.box (v:= .agg #[sV a4 p2.1 c5,sV a7 p2.2 c8]) rfl rfl rfl hN18 rfl fun r20 hN19=>?_;refine JSfreezeB_ 2 hN19 rfl fun E21 hle22 h23 hN24=>?_;refine zg 5 rfl ?_;refine JLldN_ h23 q_aggT_ofunderlying24 q_szOf_oftype24 rfl rfl ?_;obtain⟨x25,hx25,hD26⟩:=bs hD;refine JSclL_ 0 (V0 (h12.moq (hle16.trq hle22)) (h6.moq (hle16.trq hle22)) (h9.moq (hle16.trq hle22)) hx25) rfl rfl (body_of func40 rfl) hN24 rfl ?_;rintro _ E27 _ hle28 ⟨Y,Z,O,U,rfl,rfl,aa,ak⟩ hN29;refine Bm (S':= [[(K,.cells #[sV O x25.2.1 U,iV x25.2.2.1,.int .u64 ((x25.2.2.2:Nat):Int)] 92 (0,0))],[],[]]) rfl hN29 fun hN36=>?_;refine zg 3 rfl ?_;refine JGd0_ 7 fun ht=>?_;refine JGms_ ht rfl [0,1,2] rfl ?_;refine JGldN_ 4 ht (h17.moq (hle22.trq hle28)) q_aggT_ofunderlying27 q_szOf_oftype27 rfl rfl rfl ?_;obtain⟨a8,al,hD38⟩:=bs hD26;obtain⟨x39,hx39,hD40⟩:=bs hD38;refine JGtwo_ (i:=3) (j:=5) rfl (by decide+kernel) ?_ ?_
 ·refine Take.call0 (vs:= [sV Y x25.1 Z]) hN36 (Ps aa al) rfl rfl rfl q_body_offunc27rfl rfl ?_;rintro _ E41 _ hle42 ⟨a9,ba,bb,rfl,rfl,aq⟩ hN43;refine JG.one (i:=5) rfl (by decide+kernel) ?_;refine Take.Ko (pp:=rLK) [.agg #[iV p1.1,iV p1.2]] ([p1]:LKL) hN43 rfl rfl rfl underlying25 q_szOf_oftype27 CK (by decide) rfl rfl rfl ⟨⟨_,_,rfl,rfl,rfl⟩,trivial⟩ fun bc am ar au=>?_;refine JG.one (i:=6) rfl (by decide+kernel) ?_;refine Take.app0 (pp:=rLK) 3 4 au hx39 rfl rfl rfl rfl rfl rfl rfl underlying25 underlying25 q_szOf_oftype27 (Bz type27) CK rfl (by decide) (by decide) aq ar rfl rfl fun av aw bd ay az aA=>?_;refine JALlf_ [7,8] ?_;refine CZ 3 rfl aA fun hN60=>?_;refine JS.drop 3 hN60 rfl fun aB=>?_;refine Bm (S':= [[(K,.cells #[sV O x25.2.1 U,iV x25.2.2.1,.int .u64 ((x25.2.2.2:Nat):Int)] 92 (0,0))],[],[],[],am,ay]) rfl aB fun aC=>?_;refine JSfreezeL_ 5 az aC rfl fun bf ab aD aE=>?_;refine JSlit_ (pp:=(rL rLK)) [sV a1 p0 c2,sV Y x25.1 Z,sV av x39 aw] [p0,x25.1,x39] rfl rfl rfl underlying35 q_szOf_oftype25 (BY type25) (by decide) rfl rfl rfl ⟨⟨_,_,rfl,(h3.moq ((((hle16.trq hle22).trq hle28).trq hle42).trq ab))⟩,⟨_,_,rfl,(aa.moq (hle42.trq ab))⟩,⟨_,_,rfl,aD⟩,trivial⟩ aE fun aF bg aG aH=>?_;refine zg 2 rfl ?_;refine JSfreezeL_ 6 aG aH rfl fun bh an h74 aI=>?_;refine Bm (S':= [[(K,.cells #[sV O x25.2.1 U,iV x25.2.2.1,.int .u64 ((x25.2.2.2:Nat):Int)] 92 (0,0))],[],[],[],am,[],[]]) rfl aI fun aJ=>?_;refine JS.drop 4 aJ rfl fun aK=>?_;obtain rfl:=oi hD40;refine Af func25 rfl rfl ?_;exact aj _ _ _ _ (((((hle16.trq hle22).trq hle28).trq hle42).trq ab).trq an) rfl ⟨(some ⟨aF,0,none⟩),3,O,U,rfl,rfl,h74,(ak.moq ((hle42.trq ab).trq an))⟩ aK
 ·refine Take.Ko (pp:=rLK) [.agg #[iV p1.1,iV p1.2]] ([p1]:LKL) hN36 rfl rfl rfl underlying25 q_szOf_oftype27 CK (by decide) rfl rfl rfl ⟨⟨_,_,rfl,rfl,rfl⟩,trivial⟩ fun bi ao aL hN82=>?_;refine JG.one (i:=3) rfl (by decide+kernel) ?_;refine Take.call0 (vs:= [sV Y x25.1 Z]) hN82 (Ps aa al) rfl rfl rfl q_body_offunc27rfl rfl ?_;rintro _ bj _ V ⟨bk,bl,bm,rfl,rfl,aM⟩ aN;refine JG.one (i:=6) rfl (by decide+kernel) ?_;refine Take.app0 (pp:=rLK) 4 3 aN hx39 rfl rfl rfl rfl rfl rfl rfl underlying25 underlying25 q_szOf_oftype27 (Bz type27) CK rfl (by decide) (by decide) aM (aL.moq V) rfl rfl fun aO aP bn aQ aR aS=>?_;refine JALlf_ [7,8] ?_;refine CZ 4 rfl aS fun aT=>?_;refine JS.drop 4 aT rfl fun aU=>?_;refine Bm (S':= [[(K,.cells #[sV O x25.2.1 U,iV x25.2.2.1,.int .u64 ((x25.2.2.2:Nat):Int)] 92 (0,0))],[],[],ao,[],aQ]) rfl aU fun aV=>?_;refine JSfreezeL_ 5 aR aV rfl fun bo ac aW aX=>?_;refine JSlit_ (pp:=(rL rLK)) [sV a1 p0 c2,sV Y x25.1 Z,sV aO x39 aP] [p0,x25.1,x39] rfl rfl rfl underlying35 q_szOf_oftype25 (BY type25) (by decide) rfl rfl rfl ⟨⟨_,_,rfl,(h3.moq ((((hle16.trq hle22).trq hle28).trq V).trq ac))⟩,⟨_,_,rfl,(aa.moq (V.trq ac))⟩,⟨_,_,rfl,aW⟩,trivial⟩ aX fun aY bp aZ a0=>?_;refine zg 2 rfl ?_;refine JSfreezeL_ 6 aZ a0 rfl fun bq ap a2 a3=>?_;refine Bm (S':= [[(K,.cells #[sV O x25.2.1 U,iV x25.2.2.1,.int .u64 ((x25.2.2.2:Nat):Int)] 92 (0,0))],[],[],ao,[],[],[]]) rfl a3 fun a5=>?_;refine JS.drop 3 a5 rfl fun hN115=>?_;obtain rfl:=oi hD40;refine Af func25 rfl rfl ?_;exact aj _ _ _ _ (((((hle16.trq hle22).trq hle28).trq V).trq ac).trq ap) rfl ⟨(some ⟨aY,0,none⟩),3,O,U,rfl,rfl,a2,(ak.moq ((V.trq ac).trq ap))⟩ hN115
end Pal
namespace Pal
open Go Go.Conc
theorem JALkw_{P:Program}{J:Judge P}{Q:Goroutine→St→Prop}{b:Frame}{n:Nat}{ds:List Deferred}{ops:Array Oper}{k:List Item}{cs:List Frame}{m fuel:Nat}{D:Nat→Bool}{listed:Array Bool}{L L':Env}{s:St}(k':JAL J Q b n ds ops k cs m D fuel listed L' s)(h:GD L L'=GK L'):JAL J Q b n ds ops k cs m D fuel listed L s:=JALweak_ (JU h) k'
instance {α:Type} [DecidableEq α] (xs:List α):Decidable (xs= []):=inferInstance
section
variable {P:Program}{J:Judge P}{Q:Goroutine→St→Prop}{b:Frame}{n:Nat}{L L':Env}{ds:List Deferred}{k:List Item}{cs:List Frame}{s:St}{ops:Array Oper}{E H:LH}{S:List Seg}{i:Nat}{rest:List Nat}
variable {d:Option Tmp}{x y:Operand}{t u ty e:TypeId}{p:String}{af:Array Edge}{g:Option (Nat×Bool)}{v w:Value}
end
end Pal
namespace Pal
open Go Go.Conc Go.Proofs
open Go.Proofs.Tryz
def f18e_b0(fuel:Nat)(p3:Int)(p4:Int)(x56:(List (JW2))×(A3))(x78:(List (LKL))×(A3))(x90:Int×(A3))(x103:Int×(A3))(x147:Int):Option (AH (Int) ((Bool)⊕(Unit))):= if x147<((x56.1).length:Int) then((ix x56.1 (x147)).bind fun x159=> (ix x78.1 (x147)).bind fun x170=> (f26 fuel x159).bind fun x178=> (f27 fuel x170).bind fun x180=> (ix ([p3,x90.1,p3]:List Int) (x147)).bind fun x202=> (Hu fuel x178 x202).bind fun x207=> (ix x56.1 (x147)).bind fun x215=> (ix ([p3,x90.1,p3]:List Int) (x147)).bind fun x226=> (f64 fuel x215 x226).bind fun x231=> (ix ([p4,x103.1,p4]:List Int) (x147)).bind fun x239=> (Im fuel x178 x239).bind fun x244=> (ix x56.1 (x147)).bind fun x252=> (ix ([p4,x103.1,p4]:List Int) (x147)).bind fun x263=> (f66 fuel x252 x263).bind fun x268=> (ix x56.1 (x147)).bind fun x276=> (Hv fuel x178).bind fun x287=> (f68 fuel x276).bind fun x292=> Option.bind (if x287≠x292 then(some true) else((ix x56.1 (x147)).bind fun x428=> (ix x78.1 (x147)).bind fun x439=> (Fu fuel x178 x180).bind fun x447=> (f70 fuel x428 x439).bind fun x452=> some (decide (x447≠x452)))) fun x297=> Option.bind (if x297=true then(some true) else(some (decide (x207.2≠x231.2)))) fun x303=> Option.bind (if x303=true then(some true) else(some (decide (x244.2≠x268.2)))) fun x309=> if x309=true then(some (.done (Sum.inl false))) else((f32 fuel x207.1 x231.1).bind fun x322=> Option.bind (if(!x322)=true then(some true) else((f32 fuel x244.1 x268.1).bind fun x404=> some (!x404))) fun x327=> Option.bind (if x327=true then(some true) else((ix x56.1 (x147)).bind fun x381=> (f33 fuel x178 x381).bind fun x392=> some (!x392))) fun x333=> Option.bind (if x333=true then(some true) else((ix x78.1 (x147)).bind fun x361=> (f34 fuel x180 x361).bind fun x369=> some (!x369))) fun x339=> if x339=true then(some (.done (Sum.inl false))) else((Ac (x147+1)).bind fun x352=> some (.more x352)))) else(some (.done (Sum.inr ())))
def f18e(fuel:Nat)(p0:JW2)(p1:LKL)(p2:Int×Int)(p3:Int)(p4:Int)(p5:List Int):Option (Bool):= (f21 fuel p0).bind fun x25=> Option.bind (if x25=true then(some true) else(some (decide (20<((p1).length:Int))))) fun x31=> if x31=true then((Ht fuel).bind fun x39=> some x39) else((f23 fuel p5).bind fun x46=> (f24 fuel p0 x46).bind fun x56=> (ix x56.1 (1)).bind fun x67=> (f25 fuel p1 p2 x67 x56.2).bind fun x78=> (f41 fuel x78.2 12).bind fun x90=> (f41 fuel x90.2 7).bind fun x103=> Option.bind (iter (f18e_b0 fuel p3 p4 x56 x78 x90 x103) fuel 0) fun x132=> Sum.elim (fun r=>some r) (fun x135=> (Ht fuel).bind fun x140=> some x140) x132)
set_option maxHeartbeats 2000000 in
theorem f18e_top{E H:LH}{a1:OAd}{c2:Nat}{a4:OAd}{c5:Nat}{a7:OAd}{c8:Nat}{a10:OAd}{c11:Nat}{p0:JW2}{p1:LKL}{p2:Int×Int}{p3:Int}{p4:Int}{p5:List Int}(hG:GE E)(h3:LsR (rL rI) E a1 c2 (p0.1))(h6:LsR (rL rI) E a4 c5 (p0.2))(h9:LsR rLK E a7 c8 (p1))(h12:LsR rI E a10 c11 (p5)){fuel:Nat}{r:Bool}(hD:f18e fuel p0 p1 p2 p3 p4 p5=some r):(mainWay Tryz.prog).ok (FinalAt Tryz.prog (fun v _=>v= .bool r)) (G (Frame.enter Tryz.prog 18 ([.agg #[sV a1 p0.1 c2,sV a4 p0.2 c5],sV a7 p1 c8,.agg #[iV p2.1,iV p2.2],iV p3,iV p4,sV a10 p5 c11]:List Value).toArray .normal) []) (mk E H []):=by
 refine top_enter func18 rfl rfl (Nat.le_of_ble_eq_true rfl) ?_;have hN:NdS E H [[]]:=trivial;unfold f18e at hD;refine zg 2 rfl ?_;refine JS.box (v:= .agg #[sV a1 p0.1 c2,sV a4 p0.2 c5]) rfl rfl rfl hN rfl fun r14 hN13=>?_;refine JSfreezeB_ 1 hN13 rfl fun E15 hle16 h17 hN18=>?_;refine JS.box (v:= .agg #[iV p2.1,iV p2.2]) rfl rfl rfl hN18 rfl fun r20 hN19=>?_;refine JSfreezeB_ 2 hN19 rfl fun E21 hle22 h23 hN24=>?_;refine zg 5 rfl ?_;refine JLldN_ (h17.moq hle22) q_aggT_ofunderlying24 q_szOf_oftype24 rfl rfl ?_;obtain⟨x25,hx25,hD26⟩:=bs hD;refine JScz_ (f21_w (h3.moq (hle16.trq hle22)) (h6.moq (hle16.trq hle22)) hx25) rfl rfl (body_of func21 rfl) hN24 fun E27 hle28 hN29=>?_;obtain⟨x31,hJ32,hD33⟩:=bs hD26;refine zg 1 rfl ?_;refine JLjoinR_ [] (fun L s=>∃(E34:LH),Jm E27 H E34 [] [(1,sV a7 p1 c8),(3,iV p3),(4,iV p4),(5,sV a10 p5 c11),(6,pV r14 0),(8,pV r20 0),(35,.bool x31)] L s) ?_ ?_
 ·rintro _ _ ⟨E34,rfl,rfl,hle35,hN36⟩;refine JL.done ?_;refine JLfj_ hD33 (fun c37 hD38=>?_) (fun c37 hD45=>?_)
  ·obtain⟨x39,hx39,hD40⟩:=bs hD38;refine zg 2 rfl ?_;refine JScz_ (f22e_w (hG.moq (((hle16.trq hle22).trq hle28).trq hle35)) hx39) rfl rfl (body_of func22 rfl) hN36 fun E41 hle42 hN43=>?_;refine zg 2 rfl ?_;obtain rfl:=oi hD40;exact JLoutRet_ rfl (JO.end (v:= .bool x39) rfl (by decide+kernel) func18 rfl rfl rfl)
  ·obtain⟨x46,hx46,hD47⟩:=bs hD45;refine zg 4 rfl ?_;refine JScl_ (f23_w (h12.moq (((hle16.trq hle22).trq hle28).trq hle35)) hx46) rfl rfl (body_of func23 rfl) hN36 ?_;rintro _ E48 _ hle49 ⟨k51,a52,c53,rfl,rfl,h54⟩ hN50;refine zg 4 rfl ?_;refine JLldN_ (h17.moq (((hle22.trq hle28).trq hle35).trq hle49)) q_aggT_ofunderlying24 q_szOf_oftype24 rfl rfl ?_;obtain⟨x56,hx56,hD57⟩:=bs hD47;refine zg 1 rfl ?_;refine JSclL_ 0 (f24_w (h3.moq ((((hle16.trq hle22).trq hle28).trq hle35).trq hle49)) (h6.moq ((((hle16.trq hle22).trq hle28).trq hle35).trq hle49)) h54 hx56) rfl rfl (body_of func24 rfl) hN50 rfl ?_;rintro _ E58 _ hle59 ⟨a61,c62,a64,c65,rfl,rfl,h63,h66⟩ hN60;refine zg 3 rfl ?_;refine JGd0_ 6 fun ht=>?_;refine JGmv_ 0 ht rfl rfl ?_;refine JGldN_ 1 ht (h23.moq (((hle28.trq hle35).trq hle49).trq hle59)) q_aggT_ofunderlying27 q_szOf_oftype27 rfl rfl rfl ?_;refine JGmv_ 2 ht rfl rfl ?_;obtain⟨x67,hx67,hD68⟩:=bs hD57;refine JGjd_ 3 h63 hx67 ht underlying33 q_szOf_oftype24 ?_;rintro k75 o76 _ ⟨_,_,rfl,⟨a69,c70,rfl,h71⟩,⟨a72,c73,rfl,h74⟩⟩ h77;refine JGldN_ 4 ht h77 q_aggT_ofunderlying24 q_szOf_oftype24 rfl rfl rfl ?_;refine JGmv_ 5 ht rfl rfl ?_;refine JALlf_ [6,7] ?_;obtain⟨x78,hx78,hD79⟩:=bs hD68;refine JSclL_ 0 (f25_w (h9.moq (((((hle16.trq hle22).trq hle28).trq hle35).trq hle49).trq hle59)) h71 h74 h66 hx78) rfl rfl (body_of func25 rfl) hN60 rfl ?_;rintro _ E80 _ hle81 ⟨a83,c84,a86,c87,rfl,rfl,h85,h88⟩ hN82;obtain⟨x90,hx90,hD91⟩:=bs hD79;refine zg 6 rfl ?_;refine JSclL_ 0 (f41_w h88 hx90) rfl rfl q_body_offunc41rfl hN82 rfl ?_;rintro _ E92 _ hle93 ⟨a95,c96,rfl,rfl,h97⟩ hN94;refine zg 1 rfl ?_;refine JSlit_ (pp:=rI) [iV p3,iV x90.1,iV p3] [p3,x90.1,p3] rfl rfl rfl underlying28 q_szOf_oftype3 q_zeroOf_oftype3 (by decide) rfl rfl rfl ⟨rfl,rfl,rfl,trivial⟩ hN94 fun r98 g99 h100 hN101=>?_;obtain⟨x103,hx103,hD104⟩:=bs hD91;refine zg 2 rfl ?_;refine JSclL_ 0 (f41_w h97 hx103) rfl rfl q_body_offunc41rfl hN101 rfl ?_;rintro _ E105 _ hle106 ⟨a108,c109,rfl,rfl,h110⟩ hN107;refine zg 1 rfl ?_;refine JSlit_ (pp:=rI) [iV p4,iV x103.1,iV p4] [p4,x103.1,p4] rfl rfl rfl underlying28 q_szOf_oftype3 q_zeroOf_oftype3 (by decide) rfl rfl rfl ⟨rfl,rfl,rfl,trivial⟩ hN107 fun r112 g113 h114 hN115=>?_;refine zg 8 rfl ?_;refine JSfreezeL_ 1 (h100.moq hle106) hN115 rfl fun E117 hle118 h119 hN120=>?_;refine JSfreezeL_ 2 (h114.moq hle118) hN120 rfl fun E121 hle122 h123 hN124=>?_;obtain⟨x132,hI133,hD134⟩:=bs hD104;refine JLjoin_ (fun L s=>∃(x135:Unit) (E136:LH),x132=Sum.inr x135∧Jm E121 H E136 [] [] L s) ?_ ?_
   ·rintro _ _ ⟨x135,E136,rfl,rfl,rfl,hle137,hN138⟩;have hD139:=elim_inr hD134;obtain⟨x140,hx140,hD141⟩:=bs hD139;refine zg 2 rfl ?_;refine JScz_ (f22e_w (hG.moq (((((((((((hle16.trq hle22).trq hle28).trq hle35).trq hle49).trq hle59).trq hle81).trq hle93).trq hle106).trq hle118).trq hle122).trq hle137)) hx140) rfl rfl (body_of func22 rfl) hN138 fun E142 hle143 hN144=>?_;refine zg 2 rfl ?_;obtain rfl:=oi hD141;exact JLoutRet_ rfl (JO.end (v:= .bool x140) rfl (by decide+kernel) func18 rfl rfl rfl)
   ·intro hj146;refine JL.block ?_;refine JS.drop 0 hN124 rfl fun hN151=>?_;refine JLlw_ hI133 (fun L s x147=>∃(E148:LH),Jm E121 H E148 [] [(14,sV a61 x56.1 c62),(15,sV a83 x78.1 c84),(16,.slice (some ⟨r98,0,none⟩) (([p3,x90.1,p3]:List Int)).length 3),(17,.slice (some ⟨r112,0,none⟩) (([p4,x103.1,p4]:List Int)).length 3),(18,iV x147)] L s) ⟨E121,rfl,rfl,lR_,hN151⟩ ?_;rintro _ _ x147 ⟨E148,rfl,rfl,hle149,hN150⟩ hdone152 ⟨st153,hb154⟩ again155;have hD156:=hb154;unfold f18e_b0 at hD156;refine zg 5 rfl ?_;refine JLln_ underlying33 rfl rfl rfl ?_;refine zg 2 rfl ?_;refine JLfi_ hD156 (fun c157 hD158=>?_) (fun c157 hD503=>?_)
    ·refine zg 4 rfl ?_;refine JGd0_ 11 fun ht=>?_;refine JGms_ ht rfl [0,1] rfl ?_;obtain⟨x159,hx159,hD160⟩:=bs hD158;refine JGjd_ 2 (h63.moq (((((hle81.trq hle93).trq hle106).trq hle118).trq hle122).trq hle149)) hx159 ht underlying33 q_szOf_oftype24 ?_;rintro k167 o168 _ ⟨_,_,rfl,⟨a161,c162,rfl,h163⟩,⟨a164,c165,rfl,h166⟩⟩ h169;refine JGldN_ 3 ht h169 q_aggT_ofunderlying24 q_szOf_oftype24 rfl rfl rfl ?_;refine JGms_ ht rfl [5,6] rfl ?_;obtain⟨x170,hx170,hD171⟩:=bs hD160;refine JGjd_ 7 (h85.moq ((((hle93.trq hle106).trq hle118).trq hle122).trq hle149)) hx170 ht underlying35 q_szOf_oftype25 ?_;rintro k175 o176 _ ⟨a172,c173,rfl,h174⟩ h177;refine JGld_ 8 ht 0 h177 q_aggT_ofunderlying25 rfl rfl rfl rfl ?_;obtain⟨x178,hx178,hD179⟩:=bs hD171;obtain⟨x180,hx180,hD181⟩:=bs hD179;refine JALjoin_ 2 #[true,true,true,true,true,true,true,true,true,true,true,false,false] (fun L s=>∃(E182:LH) (a186:OAd) (c187:Nat) (a189:OAd) (c190:Nat) (a192:OAd) (c193:Nat) (r195:Nat),Jn E148 H E182 [[(r195,.cells #[.slice none 0 0,.slice none 0 0] 24 (0,0))]] [(14,sV a61 x56.1 c62),(15,sV a83 x78.1 c84),(16,.slice (some ⟨r98,0,none⟩) (([p3,x90.1,p3]:List Int)).length 3),(17,.slice (some ⟨r112,0,none⟩) (([p4,x103.1,p4]:List Int)).length 3),(18,iV x147),(19,pV r195 0),(69,.agg #[sV a186 x178.1 c187,sV a189 x178.2 c190]),(74,sV a192 x180 c193)] L s (LsR (rL rI) E182 a186 c187 (x178.1)∧LsR (rL rI) E182 a189 c190 (x178.2)∧LsR rLK E182 a192 c193 (x180))) ?_ ?_
     ·rintro _ _ ⟨E182,a186,c187,a189,c190,a192,c193,r195,rfl,rfl,hle183,hN184,h188,h191,h194⟩;refine JALlf_ [11,12] ?_;refine JSst_ (v:= .agg #[sV a186 x178.1 c187,sV a189 x178.2 c190]) (off:=0) 0 hN184 q_szOf_oftype24 rfl rfl rfl rfl fun hN197=>?_;refine JSfreezeB_ 0 hN197 rfl fun E198 hle199 h200 hN201=>?_;refine zg 3 rfl ?_;refine JGd0_ 10 fun ht=>?_;refine JGldN_ 0 ht h200 q_aggT_ofunderlying24 q_szOf_oftype24 rfl rfl rfl ?_;refine JGms_ ht rfl [1,2] rfl ?_;obtain⟨x202,hx202,hD203⟩:=bs hD181;refine JGjd_ 3 (h119.moq (((hle122.trq hle149).trq hle183).trq hle199)) hx202 ht underlying28 q_szOf_oftype3 ?_;rintro k204 o205 _ rfl h206;refine JGld_ 4 ht 0 h206 q_aggT_ofunderlying3 rfl rfl rfl rfl ?_;obtain⟨x207,hx207,hD208⟩:=bs hD203;refine JG.call (i:=5) (vs:= [.agg #[sV a186 x178.1 c187,sV a189 x178.2 c190],iV x202]) (f51e_w (hG.moq (((((((((((((hle16.trq hle22).trq hle28).trq hle35).trq hle49).trq hle59).trq hle81).trq hle93).trq hle106).trq hle118).trq hle122).trq hle149).trq hle183).trq hle199)) (h188.moq hle199) (h191.moq hle199) hx207) (by decide+kernel) rfl rfl rfl (body_of func51 rfl) rfl hN201 ?_;rintro _ E209 _ hle210 ⟨a212,c213,rfl,rfl,h214⟩ hN211;refine JGms_ ht rfl [6,7,8,9] rfl ?_;refine JALlf_ [10] ?_;refine zg 3 rfl ?_;refine JGd0_ 13 fun ht=>?_;refine JGms_ ht rfl [0,1] rfl ?_;obtain⟨x215,hx215,hD216⟩:=bs hD208;refine JGjd_ 2 (h63.moq ((((((((hle81.trq hle93).trq hle106).trq hle118).trq hle122).trq hle149).trq hle183).trq hle199).trq hle210)) hx215 ht underlying33 q_szOf_oftype24 ?_;rintro k223 o224 _ ⟨_,_,rfl,⟨a217,c218,rfl,h219⟩,⟨a220,c221,rfl,h222⟩⟩ h225;refine JGldN_ 3 ht h225 q_aggT_ofunderlying24 q_szOf_oftype24 rfl rfl rfl ?_;refine JGms_ ht rfl [4,5] rfl ?_;obtain⟨x226,hx226,hD227⟩:=bs hD216;refine JGjd_ 6 (h119.moq ((((hle122.trq hle149).trq hle183).trq hle199).trq hle210)) hx226 ht underlying28 q_szOf_oftype3 ?_;rintro k228 o229 _ rfl h230;refine JGld_ 7 ht 0 h230 q_aggT_ofunderlying3 rfl rfl rfl rfl ?_;obtain⟨x231,hx231,hD232⟩:=bs hD227;refine JG.call (i:=8) (vs:= [.agg #[sV a217 x215.1 c218,sV a220 x215.2 c221],iV x226]) (f64_w h219 h222 hx231) (by decide+kernel) rfl rfl rfl (body_of func64 rfl) rfl hN211 ?_;rintro _ E233 _ hle234 ⟨a236,c237,rfl,rfl,h238⟩ hN235;refine JGms_ ht rfl [9,10,11,12] rfl ?_;refine JALlf_ [13] ?_;refine zg 3 rfl ?_;refine JGd0_ 10 fun ht=>?_;refine JGldN_ 0 ht (h200.moq (hle210.trq hle234)) q_aggT_ofunderlying24 q_szOf_oftype24 rfl rfl rfl ?_;refine JGms_ ht rfl [1,2] rfl ?_;obtain⟨x239,hx239,hD240⟩:=bs hD232;refine JGjd_ 3 (h123.moq ((((hle149.trq hle183).trq hle199).trq hle210).trq hle234)) hx239 ht underlying28 q_szOf_oftype3 ?_;rintro k241 o242 _ rfl h243;refine JGld_ 4 ht 0 h243 q_aggT_ofunderlying3 rfl rfl rfl rfl ?_;obtain⟨x244,hx244,hD245⟩:=bs hD240;refine JG.call (i:=5) (vs:= [.agg #[sV a186 x178.1 c187,sV a189 x178.2 c190],iV x239]) (f65e_w (hG.moq (((((((((((((((hle16.trq hle22).trq hle28).trq hle35).trq hle49).trq hle59).trq hle81).trq hle93).trq hle106).trq hle118).trq hle122).trq hle149).trq hle183).trq hle199).trq hle210).trq hle234)) (h188.moq ((hle199.trq hle210).trq hle234)) (h191.moq ((hle199.trq hle210).trq hle234)) hx244) (by decide+kernel) rfl rfl rfl (body_of func65 rfl) rfl hN235 ?_;rintro _ E246 _ hle247 ⟨a249,c250,rfl,rfl,h251⟩ hN248;refine JGms_ ht rfl [6,7,8,9] rfl ?_;refine JALlf_ [10] ?_;refine zg 3 rfl ?_;refine JGd0_ 13 fun ht=>?_;refine JGms_ ht rfl [0,1] rfl ?_;obtain⟨x252,hx252,hD253⟩:=bs hD245;refine JGjd_ 2 (h63.moq ((((((((((hle81.trq hle93).trq hle106).trq hle118).trq hle122).trq hle149).trq hle183).trq hle199).trq hle210).trq hle234).trq hle247)) hx252 ht underlying33 q_szOf_oftype24 ?_;rintro k260 o261 _ ⟨_,_,rfl,⟨a254,c255,rfl,h256⟩,⟨a257,c258,rfl,h259⟩⟩ h262;refine JGldN_ 3 ht h262 q_aggT_ofunderlying24 q_szOf_oftype24 rfl rfl rfl ?_;refine JGms_ ht rfl [4,5] rfl ?_;obtain⟨x263,hx263,hD264⟩:=bs hD253;refine JGjd_ 6 (h123.moq (((((hle149.trq hle183).trq hle199).trq hle210).trq hle234).trq hle247)) hx263 ht underlying28 q_szOf_oftype3 ?_;rintro k265 o266 _ rfl h267;refine JGld_ 7 ht 0 h267 q_aggT_ofunderlying3 rfl rfl rfl rfl ?_;obtain⟨x268,hx268,hD269⟩:=bs hD264;refine JG.call (i:=8) (vs:= [.agg #[sV a254 x252.1 c255,sV a257 x252.2 c258],iV x263]) (f66_w h256 h259 hx268) (by decide+kernel) rfl rfl rfl (body_of func66 rfl) rfl hN248 ?_;rintro _ E270 _ hle271 ⟨a273,c274,rfl,rfl,h275⟩ hN272;refine JGms_ ht rfl [9,10,11,12] rfl ?_;refine JALlf_ [13] ?_;refine zg 4 rfl ?_;refine JGd0_ 33 fun ht=>?_;refine JGldN_ 0 ht (h200.moq (((hle210.trq hle234).trq hle247).trq hle271)) q_aggT_ofunderlying24 q_szOf_oftype24 rfl rfl rfl ?_;refine JGms_ ht rfl [2,3] rfl ?_;obtain⟨x276,hx276,hD277⟩:=bs hD269;refine JGjd_ 4 (h63.moq (((((((((((hle81.trq hle93).trq hle106).trq hle118).trq hle122).trq hle149).trq hle183).trq hle199).trq hle210).trq hle234).trq hle247).trq hle271)) hx276 ht underlying33 q_szOf_oftype24 ?_;rintro k284 o285 _ ⟨_,_,rfl,⟨a278,c279,rfl,h280⟩,⟨a281,c282,rfl,h283⟩⟩ h286;refine JGldN_ 5 ht h286 q_aggT_ofunderlying24 q_szOf_oftype24 rfl rfl rfl ?_;obtain⟨x287,hx287,hD288⟩:=bs hD277;refine JG.call (i:=1) (vs:= [.agg #[sV a186 x178.1 c187,sV a189 x178.2 c190]]) (f67e_w (hG.moq (((((((((((((((((hle16.trq hle22).trq hle28).trq hle35).trq hle49).trq hle59).trq hle81).trq hle93).trq hle106).trq hle118).trq hle122).trq hle149).trq hle183).trq hle199).trq hle210).trq hle234).trq hle247).trq hle271)) (h188.moq ((((hle199.trq hle210).trq hle234).trq hle247).trq hle271)) (h191.moq ((((hle199.trq hle210).trq hle234).trq hle247).trq hle271)) hx287) (by decide+kernel) rfl rfl rfl (body_of func67 rfl) rfl hN272 ?_;rintro _ E289 _ hle290 ⟨rfl,rfl⟩ hN291;obtain⟨x292,hx292,hD293⟩:=bs hD288;refine JG.call (i:=6) (vs:= [.agg #[sV a278 x276.1 c279,sV a281 x276.2 c282]]) (f68_w (h280.moq hle290) (h283.moq hle290) hx292) (by decide+kernel) rfl rfl rfl q_body_offunc68rfl rfl hN291 ?_;rintro _ E294 _ hle295 ⟨rfl,rfl⟩ hN296;refine JGms_ ht rfl [7,8] rfl ?_;obtain⟨x297,hJ298,hD299⟩:=bs hD293;refine JALjoin_ 10 #[true,true,true,true,true,true,true,true,true,true,true,true,true,true,true,true,true,true,true,true,true,true,true,false,false,false,false,false,false,false,false,false,false] (fun L s=>∃(E300:LH),Jm E294 H E300 [] [(14,sV a61 x56.1 c62),(15,sV a83 x78.1 c84),(16,.slice (some ⟨r98,0,none⟩) (([p3,x90.1,p3]:List Int)).length 3),(17,.slice (some ⟨r112,0,none⟩) (([p4,x103.1,p4]:List Int)).length 3),(18,iV x147),(19,pV r195 0),(20,sV a192 x180 c193),(21,sV a212 x207.1 c213),(22,iV x207.2),(23,sV a236 x231.1 c237),(24,iV x231.2),(25,sV a249 x244.1 c250),(26,iV x244.2),(27,sV a273 x268.1 c274),(28,iV x268.2),(139,.bool x297)] L s) ?_ ?_
      ·rintro _ _ ⟨E300,rfl,rfl,hle301,hN302⟩;refine JGmv_ 23 ht rfl rfl ?_;obtain⟨x303,hJ304,hD305⟩:=bs hD299;refine JALjoin_ 5 #[true,true,true,true,true,true,true,true,true,true,true,true,true,true,true,true,true,true,true,true,true,true,true,true,true,true,true,true,false,false,false,false,false] (fun L s=>L= [(14,sV a61 x56.1 c62),(15,sV a83 x78.1 c84),(16,.slice (some ⟨r98,0,none⟩) (([p3,x90.1,p3]:List Int)).length 3),(17,.slice (some ⟨r112,0,none⟩) (([p4,x103.1,p4]:List Int)).length 3),(18,iV x147),(19,pV r195 0),(20,sV a192 x180 c193),(21,sV a212 x207.1 c213),(23,sV a236 x231.1 c237),(25,sV a249 x244.1 c250),(26,iV x244.2),(27,sV a273 x268.1 c274),(28,iV x268.2),(144,.bool x303)]∧s=mkS E300 H []) ?_ ?_
       ·rintro _ _ ⟨rfl,rfl⟩;refine JGmv_ 28 ht rfl rfl ?_;obtain⟨x309,hJ310,hD311⟩:=bs hD305;refine JALjoin_ 0 #[true,true,true,true,true,true,true,true,true,true,true,true,true,true,true,true,true,true,true,true,true,true,true,true,true,true,true,true,true,true,true,true,true] (fun L s=>L= [(14,sV a61 x56.1 c62),(15,sV a83 x78.1 c84),(16,.slice (some ⟨r98,0,none⟩) (([p3,x90.1,p3]:List Int)).length 3),(17,.slice (some ⟨r112,0,none⟩) (([p4,x103.1,p4]:List Int)).length 3),(18,iV x147),(19,pV r195 0),(20,sV a192 x180 c193),(21,sV a212 x207.1 c213),(23,sV a236 x231.1 c237),(25,sV a249 x244.1 c250),(27,sV a273 x268.1 c274),(149,.bool x309)]∧s=mkS E300 H []) ?_ ?_
        ·rintro _ _ ⟨rfl,rfl⟩;refine JAL.fin (by decide+kernel) ?_;refine JLfj_ hD311 (fun c315 hD316=>?_) (fun c315 hD321=>?_)
         ·refine zg 4 rfl ?_;obtain rfl:=oi hD316;obtain rfl:=hdone152 _ hb154;have hD319:=elim_inl hD134;obtain rfl:=oi hD319;exact JLoutRet_ rfl (JO.end (v:= .bool false) rfl (by decide+kernel) func18 rfl rfl rfl)
         ·refine zg 2 rfl ?_;refine JGd0_ 28 fun ht=>?_;refine JGms_ ht rfl [0,1] rfl ?_;obtain⟨x322,hx322,hD323⟩:=bs hD321;refine JG.call (i:=2) (vs:= [sV a212 x207.1 c213,sV a236 x231.1 c237]) (f32_w (h214.moq (((((hle234.trq hle247).trq hle271).trq hle290).trq hle295).trq hle301)) (h238.moq ((((hle247.trq hle271).trq hle290).trq hle295).trq hle301)) hx322) (by decide+kernel) rfl rfl rfl q_body_offunc32rfl rfl hN302 ?_;rintro _ E324 _ hle325 ⟨rfl,rfl⟩ hN326;refine JGV_ (v:= .bool (!x322)) 3 ht rfl rfl (fun ρ h s' hs=>Yl.not (h _ _ rfl)) ?_;refine JGmv_ 4 ht rfl rfl ?_;obtain⟨x327,hJ328,hD329⟩:=bs hD323;refine JALjoin_ 18 #[true,true,true,true,true,true,true,true,true,true,false,false,false,false,false,false,false,false,false,false,false,false,false,false,false,false,false,false] (fun L s=>∃(E330:LH),Jm E324 H E330 [] [(14,sV a61 x56.1 c62),(15,sV a83 x78.1 c84),(16,.slice (some ⟨r98,0,none⟩) (([p3,x90.1,p3]:List Int)).length 3),(17,.slice (some ⟨r112,0,none⟩) (([p4,x103.1,p4]:List Int)).length 3),(18,iV x147),(19,pV r195 0),(20,sV a192 x180 c193),(159,.bool x327)] L s) ?_ ?_
          ·rintro _ _ ⟨E330,rfl,rfl,hle331,hN332⟩;refine JGmv_ 10 ht rfl rfl ?_;obtain⟨x333,hJ334,hD335⟩:=bs hD329;refine JALjoin_ 9 #[true,true,true,true,true,true,true,true,true,true,true,true,true,true,true,true,true,true,true,false,false,false,false,false,false,false,false,false] (fun L s=>∃(E336:LH),Jm E330 H E336 [] [(14,sV a61 x56.1 c62),(15,sV a83 x78.1 c84),(16,.slice (some ⟨r98,0,none⟩) (([p3,x90.1,p3]:List Int)).length 3),(17,.slice (some ⟨r112,0,none⟩) (([p4,x103.1,p4]:List Int)).length 3),(18,iV x147),(20,sV a192 x180 c193),(168,.bool x333)] L s) ?_ ?_
           ·rintro _ _ ⟨E336,rfl,rfl,hle337,hN338⟩;refine JGmv_ 19 ht rfl rfl ?_;obtain⟨x339,hJ340,hD341⟩:=bs hD335;refine JALjoin_ 0 #[true,true,true,true,true,true,true,true,true,true,true,true,true,true,true,true,true,true,true,true,true,true,true,true,true,true,true,true] (fun L s=>∃(E342:LH),Jm E336 H E342 [] [(14,sV a61 x56.1 c62),(15,sV a83 x78.1 c84),(16,.slice (some ⟨r98,0,none⟩) (([p3,x90.1,p3]:List Int)).length 3),(17,.slice (some ⟨r112,0,none⟩) (([p4,x103.1,p4]:List Int)).length 3),(18,iV x147),(177,.bool x339)] L s) ?_ ?_
            ·rintro _ _ ⟨E342,rfl,rfl,hle343,hN344⟩;refine JAL.fin (by decide+kernel) ?_;refine JLfj_ hD341 (fun c345 hD346=>?_) (fun c345 hD351=>?_)
             ·refine zg 4 rfl ?_;obtain rfl:=oi hD346;obtain rfl:=hdone152 _ hb154;have hD349:=elim_inl hD134;obtain rfl:=oi hD349;exact JLoutRet_ rfl (JO.end (v:= .bool false) rfl (by decide+kernel) func18 rfl rfl rfl)
             ·obtain⟨x352,hx352,hD353⟩:=bs hD351;refine zg 4 rfl ?_;refine JLaC_ hx352 rfl rfl rfl ?_;refine zg 2 rfl ?_;obtain rfl:=oi hD353;exact JLkw_ (again155 _ _ x352 ⟨E342,rfl,rfl,(((((((((((((hle149.trq hle183).trq hle199).trq hle210).trq hle234).trq hle247).trq hle271).trq hle290).trq hle295).trq hle301).trq hle325).trq hle331).trq hle337).trq hle343),hN344⟩ hb154) rfl
            ·intro hj355;refine JALcasesC_ (c:=x333) (i:=169) rfl (fun c357=>?_) (fun c357=>?_)
             ·have hD358:=ip hJ340 c357;refine JGms_ ht rfl [20,21,22,23,24,25,26,27] rfl ?_;obtain rfl:=oi hD358;refine JALweak_ ?_ (hj355 _ _ ⟨E336,rfl,rfl,lR_,hN338⟩);exact⟨rfl,rfl,rfl,rfl,rfl,rfl,trivial⟩
             ·have hD360:=ib hJ340 c357;refine JGms_ ht rfl [20,21,22] rfl ?_;obtain⟨x361,hx361,hD362⟩:=bs hD360;refine JGjd_ 23 (h85.moq ((((((((((((((((hle93.trq hle106).trq hle118).trq hle122).trq hle149).trq hle183).trq hle199).trq hle210).trq hle234).trq hle247).trq hle271).trq hle290).trq hle295).trq hle301).trq hle325).trq hle331).trq hle337)) hx361 ht underlying35 q_szOf_oftype25 ?_;rintro k366 o367 _ ⟨a363,c364,rfl,h365⟩ h368;refine JGld_ 24 ht 0 h368 q_aggT_ofunderlying25 rfl rfl rfl rfl ?_;obtain⟨x369,hx369,hD370⟩:=bs hD362;refine JG.call (i:=25) (vs:= [sV a192 x180 c193,sV a363 x361 c364]) (f34_w (h194.moq ((((((((((hle199.trq hle210).trq hle234).trq hle247).trq hle271).trq hle290).trq hle295).trq hle301).trq hle325).trq hle331).trq hle337)) h365 hx369) (by decide+kernel) rfl rfl rfl (body_of func34 rfl) rfl hN338 ?_;rintro _ E371 _ hle372 ⟨rfl,rfl⟩ hN373;refine JGV_ (v:= .bool (!x369)) 26 ht rfl rfl (fun ρ h s' hs=>Yl.not (h _ _ rfl)) ?_;refine JGmv_ 27 ht rfl rfl ?_;obtain rfl:=oi hD370;refine JALweak_ ?_ (hj355 _ _ ⟨E371,rfl,rfl,hle372,hN373⟩);exact⟨rfl,rfl,rfl,rfl,rfl,rfl,trivial⟩
           ·intro hj375;refine JALcasesC_ (c:=x327) (i:=160) rfl (fun c377=>?_) (fun c377=>?_)
            ·have hD378:=ip hJ334 c377;refine JGms_ ht rfl [11,12,13,14,15,16,17,18] rfl ?_;obtain rfl:=oi hD378;refine JALweak_ ?_ (hj375 _ _ ⟨E330,rfl,rfl,lR_,hN332⟩);exact⟨rfl,rfl,rfl,rfl,rfl,rfl,rfl,trivial⟩
            ·have hD380:=ib hJ334 c377;refine JGldN_ 11 ht (h200.moq ((((((((hle210.trq hle234).trq hle247).trq hle271).trq hle290).trq hle295).trq hle301).trq hle325).trq hle331)) q_aggT_ofunderlying24 q_szOf_oftype24 rfl rfl rfl ?_;refine JGms_ ht rfl [12,13] rfl ?_;obtain⟨x381,hx381,hD382⟩:=bs hD380;refine JGjd_ 14 (h63.moq ((((((((((((((((hle81.trq hle93).trq hle106).trq hle118).trq hle122).trq hle149).trq hle183).trq hle199).trq hle210).trq hle234).trq hle247).trq hle271).trq hle290).trq hle295).trq hle301).trq hle325).trq hle331)) hx381 ht underlying33 q_szOf_oftype24 ?_;rintro k389 o390 _ ⟨_,_,rfl,⟨a383,c384,rfl,h385⟩,⟨a386,c387,rfl,h388⟩⟩ h391;refine JGldN_ 15 ht h391 q_aggT_ofunderlying24 q_szOf_oftype24 rfl rfl rfl ?_;obtain⟨x392,hx392,hD393⟩:=bs hD382;refine JG.call (i:=16) (vs:= [.agg #[sV a186 x178.1 c187,sV a189 x178.2 c190],.agg #[sV a383 x381.1 c384,sV a386 x381.2 c387]]) (f33_w (h188.moq (((((((((hle199.trq hle210).trq hle234).trq hle247).trq hle271).trq hle290).trq hle295).trq hle301).trq hle325).trq hle331)) (h191.moq (((((((((hle199.trq hle210).trq hle234).trq hle247).trq hle271).trq hle290).trq hle295).trq hle301).trq hle325).trq hle331)) h385 h388 hx392) (by decide+kernel) rfl rfl rfl (body_of func33 rfl) rfl hN332 ?_;rintro _ E394 _ hle395 ⟨rfl,rfl⟩ hN396;refine JGV_ (v:= .bool (!x392)) 17 ht rfl rfl (fun ρ h s' hs=>Yl.not (h _ _ rfl)) ?_;refine JGmv_ 18 ht rfl rfl ?_;obtain rfl:=oi hD393;refine JALweak_ ?_ (hj375 _ _ ⟨E394,rfl,rfl,hle395,hN396⟩);exact⟨rfl,rfl,rfl,rfl,rfl,rfl,rfl,trivial⟩
          ·intro hj398;refine JALcasesC_ (c:=(!x322)) (i:=154) rfl (fun c400=>?_) (fun c400=>?_)
           ·have hD401:=ip hJ328 c400;refine JGms_ ht rfl [5,6,7,8,9] rfl ?_;obtain rfl:=oi hD401;refine JALweak_ ?_ (hj398 _ _ ⟨E324,rfl,rfl,lR_,hN326⟩);exact⟨rfl,rfl,rfl,rfl,rfl,rfl,rfl,rfl,trivial⟩
           ·have hD403:=ib hJ328 c400;refine JGms_ ht rfl [5,6] rfl ?_;obtain⟨x404,hx404,hD405⟩:=bs hD403;refine JG.call (i:=7) (vs:= [sV a249 x244.1 c250,sV a273 x268.1 c274]) (f32_w (h251.moq ((((hle271.trq hle290).trq hle295).trq hle301).trq hle325)) (h275.moq (((hle290.trq hle295).trq hle301).trq hle325)) hx404) (by decide+kernel) rfl rfl rfl q_body_offunc32rfl rfl hN326 ?_;rintro _ E406 _ hle407 ⟨rfl,rfl⟩ hN408;refine JGV_ (v:= .bool (!x404)) 8 ht rfl rfl (fun ρ h s' hs=>Yl.not (h _ _ rfl)) ?_;refine JGmv_ 9 ht rfl rfl ?_;obtain rfl:=oi hD405;refine JALweak_ ?_ (hj398 _ _ ⟨E406,rfl,rfl,hle407,hN408⟩);exact⟨rfl,rfl,rfl,rfl,rfl,rfl,rfl,rfl,trivial⟩
        ·intro hj410;refine JALcasesC_ (c:=x303) (i:=145) rfl (fun c411=>?_) (fun c411=>?_)
         ·have hD412:=ip hJ310 c411;refine JGms_ ht rfl [29,30,31,32] rfl ?_;obtain rfl:=oi hD412;refine JALweak_ ?_ (hj410 _ _ ⟨rfl,rfl⟩);exact⟨rfl,rfl,rfl,rfl,rfl,rfl,rfl,rfl,rfl,rfl,rfl,rfl,trivial⟩
         ·have hD414:=ib hJ310 c411;refine JGms_ ht rfl [29,30,31,32] rfl ?_;obtain rfl:=oi hD414;refine JALweak_ ?_ (hj410 _ _ ⟨rfl,rfl⟩);exact⟨rfl,rfl,rfl,rfl,rfl,rfl,rfl,rfl,rfl,rfl,rfl,rfl,trivial⟩
       ·intro hj416;refine JALcasesC_ (c:=x297) (i:=140) rfl (fun c417=>?_) (fun c417=>?_)
        ·have hD418:=ip hJ304 c417;refine JGms_ ht rfl [24,25,26,27] rfl ?_;obtain rfl:=oi hD418;refine JALweak_ ?_ (hj416 _ _ ⟨rfl,rfl⟩);exact⟨rfl,rfl,rfl,rfl,rfl,rfl,rfl,rfl,rfl,rfl,rfl,rfl,rfl,rfl,trivial⟩
        ·have hD420:=ib hJ304 c417;refine JGms_ ht rfl [24,25,26,27] rfl ?_;obtain rfl:=oi hD420;refine JALweak_ ?_ (hj416 _ _ ⟨rfl,rfl⟩);exact⟨rfl,rfl,rfl,rfl,rfl,rfl,rfl,rfl,rfl,rfl,rfl,rfl,rfl,rfl,trivial⟩
      ·intro hj422;refine JALcasesB_ (q:=x287≠x292) (i:=125) rfl (fun c424=>?_) (fun c424=>?_)
       ·have hD425:=ip hJ298 c424;refine JGms_ ht rfl [9,10,11,12,13,14,15,16,17,18,19,20,21,22] rfl ?_;obtain rfl:=oi hD425;refine JALweak_ ?_ (hj422 _ _ ⟨E294,rfl,rfl,lR_,hN296⟩);exact⟨rfl,rfl,rfl,rfl,rfl,rfl,rfl,rfl,rfl,rfl,rfl,rfl,rfl,rfl,rfl,rfl,trivial⟩
       ·have hD427:=im hJ298 c424;refine JGldN_ 9 ht (h200.moq (((((hle210.trq hle234).trq hle247).trq hle271).trq hle290).trq hle295)) q_aggT_ofunderlying24 q_szOf_oftype24 rfl rfl rfl ?_;refine JGms_ ht rfl [10,12,13] rfl ?_;obtain⟨x428,hx428,hD429⟩:=bs hD427;refine JGjd_ 14 (h63.moq (((((((((((((hle81.trq hle93).trq hle106).trq hle118).trq hle122).trq hle149).trq hle183).trq hle199).trq hle210).trq hle234).trq hle247).trq hle271).trq hle290).trq hle295)) hx428 ht underlying33 q_szOf_oftype24 ?_;rintro k436 o437 _ ⟨_,_,rfl,⟨a430,c431,rfl,h432⟩,⟨a433,c434,rfl,h435⟩⟩ h438;refine JGldN_ 15 ht h438 q_aggT_ofunderlying24 q_szOf_oftype24 rfl rfl rfl ?_;refine JGms_ ht rfl [16,17] rfl ?_;obtain⟨x439,hx439,hD440⟩:=bs hD429;refine JGjd_ 18 (h85.moq ((((((((((((hle93.trq hle106).trq hle118).trq hle122).trq hle149).trq hle183).trq hle199).trq hle210).trq hle234).trq hle247).trq hle271).trq hle290).trq hle295)) hx439 ht underlying35 q_szOf_oftype25 ?_;rintro k444 o445 _ ⟨a441,c442,rfl,h443⟩ h446;refine JGld_ 19 ht 0 h446 q_aggT_ofunderlying25 rfl rfl rfl rfl ?_;obtain⟨x447,hx447,hD448⟩:=bs hD440;refine JG.call (i:=11) (vs:= [.agg #[sV a186 x178.1 c187,sV a189 x178.2 c190],sV a192 x180 c193]) (f69e_w (hG.moq (((((((((((((((((((hle16.trq hle22).trq hle28).trq hle35).trq hle49).trq hle59).trq hle81).trq hle93).trq hle106).trq hle118).trq hle122).trq hle149).trq hle183).trq hle199).trq hle210).trq hle234).trq hle247).trq hle271).trq hle290).trq hle295)) (h188.moq ((((((hle199.trq hle210).trq hle234).trq hle247).trq hle271).trq hle290).trq hle295)) (h191.moq ((((((hle199.trq hle210).trq hle234).trq hle247).trq hle271).trq hle290).trq hle295)) (h194.moq ((((((hle199.trq hle210).trq hle234).trq hle247).trq hle271).trq hle290).trq hle295)) hx447) (by decide+kernel) rfl rfl rfl q_body_offunc69rfl rfl hN296 ?_;rintro _ E449 _ hle450 ⟨rfl,rfl⟩ hN451;obtain⟨x452,hx452,hD453⟩:=bs hD448;refine JG.call (i:=20) (vs:= [.agg #[sV a430 x428.1 c431,sV a433 x428.2 c434],sV a441 x439 c442]) (f70_w (h432.moq hle450) (h435.moq hle450) (h443.moq hle450) hx452) (by decide+kernel) rfl rfl rfl (body_of func70 rfl) rfl hN451 ?_;rintro _ E454 _ hle455 ⟨rfl,rfl⟩ hN456;refine JGms_ ht rfl [21,22] rfl ?_;obtain rfl:=oi hD453;refine JALweak_ ?_ (hj422 _ _ ⟨E454,rfl,rfl,(hle450.trq hle455),hN456⟩);exact⟨rfl,rfl,rfl,rfl,rfl,rfl,rfl,rfl,rfl,rfl,rfl,rfl,rfl,rfl,rfl,rfl,trivial⟩
     ·intro hj185;refine JGtwo_ (i:=4) (j:=10) rfl (by decide+kernel) ?_ ?_
      ·refine Take.call0 (vs:= [.agg #[sV a161 x159.1 c162,sV a164 x159.2 c165]]) hN150 (f26_w h163 h166 hx178) rfl rfl rfl (body_of func26 rfl) rfl ?_;rintro _ E458 _ hle459 ⟨a461,c462,a464,c465,rfl,rfl,h463,h466⟩ hN460;refine JGtwo_ (i:=9) (j:=10) rfl (by decide+kernel) ?_ ?_
       ·refine Take.call0 (vs:= [sV a172 x170 c173]) hN460 (f27_w (h174.moq hle459) hx180) rfl rfl rfl q_body_offunc27rfl rfl ?_;rintro _ E467 _ hle468 ⟨a470,c471,rfl,rfl,h472⟩ hN469;refine JG.one (i:=10) rfl (by decide+kernel) ?_;refine Take.alloc0 hN469 rfl rfl rfl q_zeroOf_oftype24 fun r473 hN474=>?_;exact JALkw_ (hj185 _ _ ⟨E467,a461,c462,a464,c465,a470,c471,r473,rfl,rfl,(hle459.trq hle468),hN474,(h463.moq hle468),(h466.moq hle468),h472⟩) rfl
       ·refine Take.alloc0 hN460 rfl rfl rfl q_zeroOf_oftype24 fun r476 hN477=>?_;refine JG.one (i:=9) rfl (by decide+kernel) ?_;refine Take.call0 (vs:= [sV a172 x170 c173]) hN477 (f27_w (h174.moq hle459) hx180) rfl rfl rfl q_body_offunc27rfl rfl ?_;rintro _ E479 _ hle480 ⟨a482,c483,rfl,rfl,h484⟩ hN481;exact JALkw_ (hj185 _ _ ⟨E479,a461,c462,a464,c465,a482,c483,r476,rfl,rfl,(hle459.trq hle480),hN481,(h463.moq hle480),(h466.moq hle480),h484⟩) rfl
      ·refine Take.alloc0 hN150 rfl rfl rfl q_zeroOf_oftype24 fun r485 hN486=>?_;refine JG.one (i:=4) rfl (by decide+kernel) ?_;refine Take.call0 (vs:= [.agg #[sV a161 x159.1 c162,sV a164 x159.2 c165]]) hN486 (f26_w h163 h166 hx178) rfl rfl rfl (body_of func26 rfl) rfl ?_;rintro _ E488 _ hle489 ⟨a491,c492,a494,c495,rfl,rfl,h493,h496⟩ hN490;refine JG.one (i:=9) rfl (by decide+kernel) ?_;refine Take.call0 (vs:= [sV a172 x170 c173]) hN490 (f27_w (h174.moq hle489) hx180) rfl rfl rfl q_body_offunc27rfl rfl ?_;rintro _ E497 _ hle498 ⟨a500,c501,rfl,rfl,h502⟩ hN499;exact JALkw_ (hj185 _ _ ⟨E497,a491,c492,a494,c495,a500,c501,r485,rfl,rfl,(hle489.trq hle498),hN499,(h493.moq hle498),(h496.moq hle498),h502⟩) rfl
    ·refine JL.exit rfl ?_;obtain rfl:=oi hD503;have e505:x132=(Sum.inr ()):=(hdone152 _ hb154).symm;exact JLkw_ (hj146 _ _ ⟨(),E148,e505,rfl,rfl,hle149,hN150⟩) rfl
 ·intro hj506;refine JLgj_ 31 hJ32 (fun c508 hD509=>?_) (fun c508 hD511=>?_)
  ·refine zg 4 rfl ?_;obtain rfl:=oi hD509;exact JLkw_ (hj506 _ _ ⟨E27,rfl,rfl,lR_,hN29⟩) rfl
  ·refine zg 1 rfl ?_;refine JLln_ underlying25 rfl rfl rfl ?_;refine zg 2 rfl ?_;obtain rfl:=oi hD511;exact JLkw_ (hj506 _ _ ⟨E27,rfl,rfl,lR_,hN29⟩) rfl
end Pal
namespace Pal
theorem Uz{F k n:Nat}{b:Dh}{J:JW}{K:List (Int×Int)}{l:Int×Int}(U:100<F)(V:VJ n J)(hb:BG k b)(Y:k<900)(aa:K.length≤20):
  Aa (f25 F K l J b) (fun r=>(∃u v:List (Int×Int),r.1= [K,u,v]∧u.length≤20∧v.length≤20)∧BG (k+100) r.2):=by
 unfold f25;refine Aa.b (Vu (many:=3) U V hb Y (by omega)) ?_;rintro⟨u,ab⟩ ⟨_,Z,_,O⟩;simp only at Z O ⊢;refine Aa.be (b:=u) (by unfold Ku Cj;rw [if_pos (by simp;omega)];rfl) ?_;refine Aa.be (b:=u++ [l]) (by unfold Cj;rw [if_pos (by simp;omega)]) ?_;exact Aa.intro ⟨⟨u,u++ [l],rfl,by omega,by simp;omega⟩,O⟩
theorem T9{F:Nat}(O:100<F)(hs:Ht F=some true)(J:JW)(Y:List (Int×Int))(l:Int×Int)(a m:Int)(Hz:List Int):f18e F J Y l a m Hz=some true:=by
 refine Aa.Ck ?_;unfold f18e;refine Aa.b (Vp O) ?_;intro aA ao;refine Aa.b (S:=fun c=>c=false→NL J∧Y.length≤20) ?_ ?_
 ·refine Aa.ite (fun h=>Aa.intro fun Z=>by cases Z) (fun h=>Aa.intro fun Z=>⟨ao (by simpa using h),by simp at Z;omega⟩)
 intro c ap;refine Aa.ite (fun h=>Aa.be hs (Aa.intro rfl)) (fun h=>?_);obtain⟨ac,ae⟩:=ap (by simpa using h);refine Aa.be (b:=(Hz,0,2685821657736338717)) rfl ?_;refine Aa.b (Ui (k:=0) (b:=(Hz,0,2685821657736338717)) O ac ⟨Int.le_refl _,Int.le_refl _⟩ (by omega)) ?_;rintro⟨aB,aC⟩ ⟨⟨n,V,aa,ag⟩,ah⟩;simp only at ag ah;subst ag;refine Aa.be (b:=V) rfl ?_;refine Aa.b (Uz (k:=301) O aa ah (by omega) ae) ?_;rintro⟨ls,aD⟩ ⟨⟨u,v,ai,hu,aq⟩,aj⟩;simp only at ai aj;subst ai;refine Aa.b (EI (k:=401) aj (by omega) (by omega)) ?_;rintro⟨z1,aE⟩ ⟨_,_,ak⟩;simp only at ak ⊢;refine Aa.b (EI (k:=402) ak (by omega) (by omega)) ?_;rintro⟨ar,aF⟩ ⟨_,_,aG⟩;have au:∀(i:Nat) (hi:i<3),∃K:JW,([J,V,V]:List JW)[i]? =some K∧NL K:=fun i hi=>by
  match i,hi with
  | 0,_=>exact⟨J,rfl,ac⟩
  | 1,_=>exact⟨V,rfl,aa.nl⟩
  | 2,_=>exact⟨V,rfl,aa.nl⟩
 have av:∀(i:Nat) (hi:i<3),∃K:List (Int×Int),([Y,u,v]:List (List (Int×Int)))[i]? =some K∧K.length≤20:=fun i hi=>by
  match i,hi with
  | 0,_=>exact⟨Y,rfl,ae⟩
  | 1,_=>exact⟨u,rfl,hu⟩
  | 2,_=>exact⟨v,rfl,aq⟩
 have al:∀(p q:Int) (i:Nat) (hi:i<3),∃y:Int,([p,q,p]:List Int)[i]? =some y:=fun p q i hi=>by
  match i,hi with
  | 0,_=>exact⟨p,rfl⟩
  | 1,_=>exact⟨q,rfl⟩
  | 2,_=>exact⟨p,rfl⟩
 refine Aa.b (S:=fun q=>q=Sum.inr ()) ?_ (by rintro q rfl;rw [Sum.elim_inr];exact Aa.be hs (Aa.intro rfl));refine Aa.upto 3 (fun i s=>s=(i:Int)) rfl (by omega) ?_ ?_
 ·rintro i s hi rfl;unfold f18e_b0;obtain⟨K,U,hN⟩:=au i hi;obtain⟨L,ab,aw⟩:=av i hi;obtain⟨ay,am⟩:=al a z1 i hi;obtain⟨az,an⟩:=al m ar i hi;refine Aa.pos (by simp;omega) ?_;refine Aa.be (B6 (m:=i) rfl U) ?_;refine Aa.be (B6 (m:=i) rfl ab) ?_;refine Aa.be (Vi O hN) ?_;refine Aa.be (Uy (by omega)) ?_;refine Aa.be (B6 (m:=i) rfl am) ?_;refine Aa.be (SP O hN) ?_;refine Aa.be (B6 (m:=i) rfl U) ?_;refine Aa.be (B6 (m:=i) rfl am) ?_;refine Aa.be (TU O hN) ?_;refine Aa.be (B6 (m:=i) rfl an) ?_;refine Aa.be (S1 O hN) ?_;refine Aa.be (B6 (m:=i) rfl U) ?_;refine Aa.be (B6 (m:=i) rfl an) ?_;refine Aa.be (TT O hN) ?_;refine Aa.be (B6 (m:=i) rfl U) ?_;refine Aa.be (Lw O hN) ?_;refine Aa.be (Ji O hN) ?_;refine Aa.be (b:=false) ?_ ?_
  ·rw [if_neg (by simp)];rw [B6 (m:=i) rfl U,Option.bind_some,B6 (m:=i) rfl ab,Option.bind_some,Sp O hN,Option.bind_some,TR O hN,Option.bind_some];simp
  refine Aa.be (b:=false) (by rw [if_neg (by simp)];simp) ?_;refine Aa.be (b:=false) (by rw [if_neg (by simp)];simp) ?_;refine Aa.neg (by simp) ?_;refine Aa.be (LK O (Si K ay)) ?_;refine Aa.be (b:=false) (by rw [if_neg (by simp),LK O (SZ K az)];rfl) ?_;refine Aa.be (b:=false) ?_ ?_
  ·rw [if_neg (by simp),B6 (m:=i) rfl U,Option.bind_some,Vq O hN];rfl
  refine Aa.be (b:=false) ?_ ?_
  ·rw [if_neg (by simp),B6 (m:=i) rfl ab,Option.bind_some,UQ O aw];rfl
  refine Aa.neg (by simp) ?_;refine Aa.AE ((i+1:Nat):Int) (by simp) (by omega) (by omega) ?_;exact Aa.intro rfl
 ·rintro s rfl;unfold f18e_b0;exact Aa.neg (by simp) (Aa.intro ⟨_,rfl,rfl⟩)
end Pal
