/- DebtFewests is true for every input: the first settlement with the fewest payments: a part (7 of 10) of the proof of its row. -/
import Derived.Test.YteafnffcpbehhaaGreatFwe
import Derived.Test.YteafnffcpbehhaaGreatFwf
set_option linter.all false
set_option maxRecDepth 100000
namespace Pal
open Go Go.Conc Go.Proofs
variable {J:Judge Tryz.prog}{E:LH}
def OQ(fu_:Nat)(p0:A6)(p1:AK)(p2:List Int)(rec:A6->AK->(List Int)->Option ((List Int)×Bool))(O:Int)(U:A6)(I:(List Int)×Int):Option (Bn ((List Int)×Int) ((List Int))):=
 if I.2<((U).length:Int) then(
  (ix p1 (O)).bind λY=>
  (ix U (I.2)).bind λZ=>
  (f126 fu_ p0 Y Z).bind λac=>
  (CK ([]:List Int) p2).bind λag=>
  (CK ag ([O]:List Int)).bind λai=>
  (rec ac p1 ai).bind λK=>
  Option.bind (
   if K.2=true then(
    if((I.1).length:Int)=0 then(
     some true
    ) else(
     (f127 fu_ K.1 I.1).bind λaj=>
     some aj
    )
   ) else(
    some false
   )
  ) λal=>
  Option.bind (
   if al=true then(
    some K.1
   ) else(
    some I.1
   )
  ) λam=>
  (Ax (I.2+1)).bind λap=>
  some (.more (am,ap))
 ) else(
  some (.done I.1)
 )
def Rd(fu_:Nat)(p0:A6)(p1:AK)(p2:List Int)(rec:A6->AK->(List Int)->Option ((List Int)×Bool))(I:Int):Option (Bn (Int) (((List Int)×Bool)⊕(Unit))):=
 if I<((p1).length:Int) then(
  Option.bind (
   (f124 fu_ p2 I).bind λO=>
   if O=true then(
    some (Sum.inr ())
   ) else(
    (ix p1 (I)).bind λU=>
    (ix p0 (U.1)).bind λY=>
    (ix p1 (I)).bind λZ=>
    (f125 fu_ Y 9 Z.2.2).bind λac=>
    Option.bind (iter (OQ fu_ p0 p1 p2 rec I ac) fu_ ([],0)) λK=>
    if 0<((K).length:Int) then(
     some (Sum.inl (K,true))
    ) else(
     some (Sum.inr ())
    )
   )
  ) λag=>Sum.elim (λr=>some (.done (Sum.inl r))) (λaj=>
  (Ax (I+1)).bind λai=>
  some (.more ai)
  ) ag
 ) else(
  some (.done (Sum.inr ()))
 )
def O3(rec:A6->AK->(List Int)->Option ((List Int)×Bool))(fu_:Nat)(p0:A6)(p1:AK)(p2:List Int):Option ((List Int)×Bool):=
 if((p2).length:Int)=((p1).length:Int) then(
  some (p2,true)
 ) else(
  Option.bind (iter (Rd fu_ p0 p1 p2 rec) fu_ 0) λI=>
  Sum.elim (λr=>some r) (λK=>
  some ([],false)
  ) I
 )
abbrev R6(J:Judge Tryz.prog)(rec:A6->AK->(List Int)->Option ((List Int)×Bool)):Prop:=∀{E:LH}{a1:Av}{c2:Nat}{I:Av}{K:Nat}{O:Av}{U:Nat}{p0:A6}{p1:AK}{p2:List Int}(ac:Aq (rL rI) E a1 c2 (p0)) (ag:Aq AI E I K (p1)) (ai:Aq rI E O U (p2)) {r:(List Int)×Bool}(aj:rec p0 p1 p2=some r),A2 J 40 [.slice a1 (p0).length c2,.slice I (p1).length K,.slice O (p2).length U] E [] (λw E' B'=>∃(Y:Av) (Z:Nat),w=.tuple #[.slice Y (r.1).length Z,.bool r.2]/\B'=[]/\Aq rI E' Y Z (r.1))
variable{fu_:Nat}
theorem gP{J:Judge Tryz.prog}{rec:A6->AK->(List Int)->Option ((List Int)×Bool)}(av:R6 J rec):R6 J (O3 rec fu_):=by
 intro E a1 c2 ac ag aw ay p0 p1 p2 a9 aj al r eu;refine Bq E5 λQ qR cs H ew ed=>?_;unfold O3 at eu;refine C 9 V (BB Ak V V V (C 1 V (BB Am V V V (C 2 V (AW eu (λhO hP=>?_) (λhO hQ=>?_))))));refine C 6 V ?_;cases hP;exact AX E5 V V (ed (BQ _) V ⟨aw,ay,V,Ac,al⟩ ew);let⟨ex,hR,ey⟩:=bs hQ;refine C 6 V (Bs (λL s=>∃(eA:Unit) (eC:LH),ex=Sum.inr eA/\Jm E H eC [] [] L s) ?_ ?_);rintro _ _ ⟨eA,eC,rfl,rfl,rfl,hS,hT⟩;refine have hU:=elim_inr ey;C 5 V ?_;cases hU;exact AX E5 V V (ed hS V ⟨none,0,V,Ac,Ba⟩ hT);intro hV;refine Ay (Dc hR (λZ=>[]) (λZ=>[(0,.slice a1 (p0).length c2),(1,.slice ac (p1).length ag),(2,.slice aw (p2).length ay),(8,iV Z)]) (BQ _) ew ?_);rintro Z eN I e0 e1 ⟨qS,b4⟩ hW;have e3:=b4;unfold Rd at e3;refine C 5 V (BB Am V V V (C 2 V (AW e3 (λhX hY=>?_) (λhX h0=>?_))));let⟨h1,h2,e4⟩:=bs hY;refine C 2 V (Bs (λL s=>∃(e5:Unit) (e6:LH),h1=Sum.inr e5/\Jm eN H e6 [] [(0,.slice a1 (p0).length c2),(1,.slice ac (p1).length ag),(2,.slice aw (p2).length ay),(8,iV Z)] L s) ?_ ?_);rintro _ _ ⟨e5,e6,rfl,rfl,rfl,h3,h4⟩;refine have h5:=elim_inr e4;Ai h5 λh6 h7 h8=>C 2 V (Br h7 V V V (C 2 V ?_));cases h8;exact hW h6 (I.trans h3) h4 V b4;intro e7;refine Ai h2 λqT h9 ia=>C 6 V (Cs (iT (al.Aj I) h9) V V (A8 Tryz.func71 V) e0 λih K e8=>A1 (Co ia (λii io=>?_) (λii it=>?_)));exact A3 V (AF (e7 _ _ ⟨(),ih,(f8 io).symm,V,V,K,e8⟩) V);refine C 6 V (Eu 13 λht=>?_);refine AY ht V [0,1,2] V (Ai it λqU i0 i1=>Dd 3 (aj.Aj (I.trans K)) i0 ht Am Bc ?_);rintro qV qW _ ⟨_,_,rfl,rfl,⟨_,_,rfl,rfl,rfl⟩⟩ i3;refine Cz 4 ht An AE V V V V (Ec 5 ht 0 i3 A7 V V V V (Ai i1 λqX i4 i5=>Dd 6 (a9.Aj (I.trans K)) i4 ht Ar CU ?_));rintro qY qZ _ ⟨q0,q1,rfl,i6⟩ i7;refine Ec 7 ht 0 i7 Fw V V V V (AY ht V [8,9] V (Ai i5 λq2 i8 i9=>Dd 10 (aj.Aj (I.trans K)) i8 ht Am Bc ?_));rintro q3 q4 _ ⟨_,_,rfl,rfl,⟨_,_,rfl,rfl,rfl⟩⟩ jg;refine Cz 11 ht An AE V V V V (Ec 12 ht 2 jg A7 V V V V (CJ [13,14] (Ai i9 λb5 ji jj=>Cb (jN i6 ji) V V (A8 EE V) e8 ?_)));rintro _ q5 q6 U ⟨b6,ca,_,rfl,rfl,jr⟩ jt;refine C 4 V (SA 1 jr jt V λee Y jy kb=>?_);let⟨ff,kc,ke⟩:=bs jj;refine C 3 V (Bs (λL s=>∃(cc:LH) (ce:Av) (ci:Nat),Jn ee H cc [] [(0,.slice a1 (p0).length c2),(1,.slice ac (p1).length ag),(2,.slice aw (p2).length ay),(8,iV Z),(9,.slice ce (ff).length ci)] L s (Aq rI cc ce ci (ff))) ?_ ?_);rintro _ _ ⟨cc,ce,ci,rfl,rfl,fk,fl,kf⟩;refine C 3 V (BB Ak V V V (C 2 V (AW ke (λki kn=>?_) (λki ko=>?_))));refine C 6 V ?_;cases kn;have kp:=elim_inl e4;cases kp;obtain rfl:=e1 _ b4;have ks:=elim_inl ey;cases ks;exact AX E5 V V (ed ((((I.trans K).trans U).trans Y).trans fk) V ⟨ce,ci,V,Ac,kf⟩ fl);exact C 2 V (AF (e7 _ _ ⟨(),cc,(f8 ko).symm,V,V,(((K.trans U).trans Y).trans fk),fl⟩) V);intro kv;refine Ay (Cm kc (λL s am=>∃(bi:LH) (a6:Av) (a7:Nat),Jn ee H bi [] [(0,.slice a1 (p0).length c2),(1,.slice ac (p1).length ag),(2,.slice aw (p2).length ay),(8,iV Z),(9,.slice a6 (am.1).length a7),(10,.slice b6 (b5).length ca),(11,iV am.2)] L s (Aq rI bi a6 a7 (am.1))) ⟨ee,none,0,V,V,(BQ _),kb,Ba⟩ ?_);rintro _ _ am ⟨bi,a6,a7,rfl,rfl,O,co,ef⟩ k0 ⟨q7,eg⟩ k1;have fm:=eg;unfold OQ at fm;refine C 5 V (BB Ar V V V (C 2 V (AW fm (λk2 k3=>?_) (λk2 k4=>?_))));refine C 4 V (Eu 22 λht=>?_);refine AY ht V [0,1,2] V (Ai k3 λai k5 k6=>Dd 3 (aj.Aj ((((I.trans K).trans U).trans Y).trans O)) k5 ht Am Bc ?_);rintro q8 q9 _ ⟨_,_,rfl,rfl,⟨_,_,rfl,rfl,rfl⟩⟩ k7;refine GA 4 ht k7 Dl Bc V V V (AY ht V [5,6] V (Ai k6 λbn la ld=>Dd 7 (jy.Aj O) la ht Ar CU ?_));rintro ra rb _ ⟨bo,bv,rfl,bw⟩ li;refine Ec 8 ht 0 li Fw V V V V (AY ht V [10,12,14] V ?_);let⟨ap,bx,lm⟩:=bs ld;let⟨rc,az,lq⟩:=bs lm;let⟨a0,a2,ls⟩:=bs lq;let⟨cp,a3,lw⟩:=bs ls;refine FK 1 (tR_ 22 1) (λL s=>∃(a8:LH) (fo:Seg) (fs:Av) (fv:Nat) (bz:Av) (b0:Nat),Jn bi H a8 [fo] [(0,.slice a1 (p0).length c2),(1,.slice ac (p1).length ag),(2,.slice aw (p2).length ay),(8,iV Z),(9,.slice a6 (am.1).length a7),(10,.slice b6 (b5).length ca),(11,iV am.2),(12,.slice bz (cp.1).length b0),(69,.bool cp.2)] L s (Aq (rL rI) a8 fs fv (ap)/\Aq rI a8 bz b0 (cp.1))) ?_ ?_;rintro _ _ ⟨a8,fo,fs,fv,bz,b0,rfl,rfl,ej,ek,rd,fw⟩;refine CJ [22] ?_;let⟨ly,l3,l4⟩:=bs lw;refine C 6 V (HA [] (λL s=>∃(b1:LH),Jm a8 H b1 [] [(0,.slice a1 (p0).length c2),(1,.slice ac (p1).length ag),(2,.slice aw (p2).length ay),(8,iV Z),(9,.slice a6 (am.1).length a7),(10,.slice b6 (b5).length ca),(11,iV am.2),(12,.slice bz (cp.1).length b0),(80,.bool ly)] L s) ?_ ?_);rintro _ _ ⟨b1,rfl,rfl,el,fN⟩;let⟨em,l5,l6⟩:=bs l4;refine A1 (Bs (λL s=>∃(ct:LH) (cw:Av) (cy:Nat),Jn b1 H ct [] [(0,.slice a1 (p0).length c2),(1,.slice ac (p1).length ag),(2,.slice aw (p2).length ay),(8,iV Z),(9,.slice cw (em).length cy),(10,.slice b6 (b5).length ca),(11,iV am.2)] L s (Aq rI ct cw cy (em))) ?_ ?_);rintro _ _ ⟨ct,cw,cy,rfl,rfl,ma,mb,mp⟩;refine Ai l6 λms mv m0=>C 3 V (Br mv V V V (C 2 V ?_));cases m0;exact AF (k1 _ _ (em,ms) ⟨ct,cw,cy,V,V,(((O.trans ej).trans el).trans ma),mb,mp⟩ eg) V;intro gc;refine Co l5 (λm1 m2=>?_) (λm1 m3=>?_);refine C 4 V ?_;cases m2;exact AF (gc _ _ ⟨b1,bz,b0,V,V,(BQ _),fN,(fw.Aj el)⟩) V;refine Bl ?_;cases m3;exact AF (gc _ _ ⟨b1,a6,a7,V,V,(BQ _),fN,(ef.Aj (ej.trans el))⟩) V;intro eo;refine FX 71 l3 (λm5 nc=>?_) (λm5 nl=>?_);refine C 1 V (BB Ak V V V (C 2 V (Hb 75 nc (λnr nx=>?_) (λnr ny=>?_))));refine C 5 V (BO 0 ek V λnE=>?_);cases nx;exact AF (eo _ _ ⟨a8,V,V,(BQ _),nE⟩) V;refine Ai ny λre nH nM=>C 2 V (Cs (lG fw (ef.Aj ej) nH) V V (A8 Gv V) ek λnN nO nP=>C 2 V (BO 0 nP V λnQ=>?_));cases nM;exact AF (eo _ _ ⟨nN,V,V,nO,nQ⟩) V;refine C 9 V (BO 0 ek V λnR=>?_);cases nl;exact AF (eo _ _ ⟨a8,V,V,(BQ _),nR⟩) V;intro a4;refine Nj (i:=9) (j:=11) (l:=15) V AC ?_ ?_ ?_;refine Bt (vs:=[.slice a1 (p0).length c2,.agg #[iV ai.1,iV ai.2.1,iV ai.2.2],.slice bo (bn).length bv]) co (OK (a9.Aj ((((I.trans K).trans U).trans Y).trans O)) bw bx) V V V N8 V ?_;rintro _ rf _ aq ⟨bb,be,rfl,rfl,bg⟩ ge;refine FB (i:=11) (j:=15) V AC ?_ ?_;refine EB (pp:=rI) ge V V V Ak AE λrg rh gg gh=>FB (i:=13) (j:=15) V AC ?_ ?_;refine C1 (pp:=rI) 1 gh az V V V V V V V Ak Ak AE (B3 A5) Ca V AD AD gg (al.Aj (((((I.trans K).trans U).trans Y).trans O).trans aq)) V λri rj gt rk nT nU=>BF (i:=15) V AC (Bi (pp:=rI) [iV Z] ([Z]:List Int) nU V V V Ak AE Ca AD V V V Ad λrl gB nV nW=>Hs 1 V nW λnX=>BF (i:=16) V AC (D1 (pp:=rI) 3 2 nX a2 V V V V V V V Ak Ak AE (B3 A5) Ca V AD AD nT nV V V λnY nZ gE rm n0 n3=>Hs 3 V n3 λn4=>FJ 4 n0 n4 V λro c0 n6 n7=>BF (i:=17) V AC (Bt (vs:=[.slice bb (ap).length be,.slice ac (p1).length ag,.slice nY (a0).length nZ]) n7 (av (bg.Aj c0) (aj.Aj ((((((I.trans K).trans U).trans Y).trans O).trans aq).trans c0)) n6 a3) V V V KL V ?_)));rintro _ n8 _ gO ⟨n9,oa,rfl,rfl,ob⟩ oc;exact AY ht V [18,19,20,21] V (Cp (S':=[gt++gB++gE]) AM oc λod=>Dg (a4 _ _ ⟨n8,(gt++gB++gE),bb,be,n9,oa,V,V,((aq.trans c0).trans gO),od,(bg.Aj (c0.trans gO)),ob⟩) V);refine Bi (pp:=rI) [iV Z] ([Z]:List Int) gh V V V Ak AE Ca AD V V V Ad λrp g3 oe og=>BF (i:=13) V AC (C1 (pp:=rI) 1 og az V V V V V V V Ak Ak AE (B3 A5) Ca V AD AD gg (al.Aj (((((I.trans K).trans U).trans Y).trans O).trans aq)) V λrq rr g4 rt oh om=>Hs 1 V om λoo=>BF (i:=16) V AC (D1 (pp:=rI) 3 2 oo a2 V V V V V V V Ak Ak AE (B3 A5) Ca V AD AD oh oe V V λoq ot g5 ru ou ov=>Hs 3 V ov λow=>FJ 4 ou ow V λrv c3 ox oy=>BF (i:=17) V AC (Bt (vs:=[.slice bb (ap).length be,.slice ac (p1).length ag,.slice oq (a0).length ot]) oy (av (bg.Aj c3) (aj.Aj ((((((I.trans K).trans U).trans Y).trans O).trans aq).trans c3)) ox a3) V V V KL V ?_)));rintro _ oz _ g6 ⟨oA,oB,rfl,rfl,oD⟩ oE;exact AY ht V [18,19,20,21] V (Cp (S':=[g4++g3++g5]) AM oE λoF=>Dg (a4 _ _ ⟨oz,(g4++g3++g5),bb,be,oA,oB,V,V,((aq.trans c3).trans g6),oF,(bg.Aj (c3.trans g6)),oD⟩) V);refine Bi (pp:=rI) [iV Z] ([Z]:List Int) ge V V V Ak AE Ca AD V V V Ad λrw g7 oG oH=>BF (i:=11) V AC (EB (pp:=rI) oH V V V Ak AE λrx ry oI oJ=>BF (i:=13) V AC (C1 (pp:=rI) 2 oJ az V V V V V V V Ak Ak AE (B3 A5) Ca V AD AD oI (al.Aj (((((I.trans K).trans U).trans Y).trans O).trans aq)) V λrz rC g8 rD oK oL=>Hs 2 V oL λoM=>BF (i:=16) V AC (D1 (pp:=rI) 3 1 oM a2 V V V V V V V Ak Ak AE (B3 A5) Ca V AD AD oK oG V V λoN oO ha rE oP oQ=>Hs 3 V oQ λoR=>FJ 4 oP oR V λrF c4 oS oT=>BF (i:=17) V AC (Bt (vs:=[.slice bb (ap).length be,.slice ac (p1).length ag,.slice oN (a0).length oO]) oT (av (bg.Aj c4) (aj.Aj ((((((I.trans K).trans U).trans Y).trans O).trans aq).trans c4)) oS a3) V V V KL V ?_))));rintro _ oU _ hb ⟨oV,oW,rfl,rfl,oX⟩ oY;exact AY ht V [18,19,20,21] V (Cp (S':=[g7++g8++ha]) AM oY λoZ=>Dg (a4 _ _ ⟨oU,(g7++g8++ha),bb,be,oV,oW,V,V,((aq.trans c4).trans hb),oZ,(bg.Aj (c4.trans hb)),oX⟩) V);refine EB (pp:=rI) co V V V Ak AE λrG rH er hc=>FB (i:=9) (j:=15) V AC ?_ ?_;refine Bt (vs:=[.slice a1 (p0).length c2,.agg #[iV ai.1,iV ai.2.1,iV ai.2.2],.slice bo (bn).length bv]) hc (OK (a9.Aj ((((I.trans K).trans U).trans Y).trans O)) bw bx) V V V N8 V ?_;rintro _ rJ _ a5 ⟨c5,c6,rfl,rfl,c7⟩ he;refine FB (i:=13) (j:=15) V AC ?_ ?_;refine C1 (pp:=rI) 0 he az V V V V V V V Ak Ak AE (B3 A5) Ca V AD AD (er.Aj a5) (al.Aj (((((I.trans K).trans U).trans Y).trans O).trans a5)) V λrO rQ hf rR o0 o3=>BF (i:=15) V AC (Bi (pp:=rI) [iV Z] ([Z]:List Int) o3 V V V Ak AE Ca AD V V V Ad λrS hk o4 o5=>Hs 0 V o5 λo6=>BF (i:=16) V AC (D1 (pp:=rI) 3 2 o6 a2 V V V V V V V Ak Ak AE (B3 A5) Ca V AD AD o0 o4 V V λo7 o8 hl rT o9 pa=>Hs 3 V pa λpb=>FJ 4 o9 pb V λrU c8 pc pd=>BF (i:=17) V AC (Bt (vs:=[.slice c5 (ap).length c6,.slice ac (p1).length ag,.slice o7 (a0).length o8]) pd (av (c7.Aj c8) (aj.Aj ((((((I.trans K).trans U).trans Y).trans O).trans a5).trans c8)) pc a3) V V V KL V ?_)));rintro _ pe _ hm ⟨pf,pg,rfl,rfl,pi⟩ pj;exact AY ht V [18,19,20,21] V (Cp (S':=[hf++hk++hl]) AM pj λpn=>Dg (a4 _ _ ⟨pe,(hf++hk++hl),c5,c6,pf,pg,V,V,((a5.trans c8).trans hm),pn,(c7.Aj (c8.trans hm)),pi⟩) V);refine Bi (pp:=rI) [iV Z] ([Z]:List Int) he V V V Ak AE Ca AD V V V Ad λrW hn po pq=>BF (i:=13) V AC (C1 (pp:=rI) 0 pq az V V V V V V V Ak Ak AE (B3 A5) Ca V AD AD (er.Aj a5) (al.Aj (((((I.trans K).trans U).trans Y).trans O).trans a5)) V λrX rY ho rZ pr pt=>Hs 0 V pt λpu=>BF (i:=16) V AC (D1 (pp:=rI) 3 2 pu a2 V V V V V V V Ak Ak AE (B3 A5) Ca V AD AD pr po V V λpw px hp r1 py pz=>Hs 3 V pz λpA=>FJ 4 py pA V λr2 c9 pB pC=>BF (i:=17) V AC (Bt (vs:=[.slice c5 (ap).length c6,.slice ac (p1).length ag,.slice pw (a0).length px]) pC (av (c7.Aj c9) (aj.Aj ((((((I.trans K).trans U).trans Y).trans O).trans a5).trans c9)) pB a3) V V V KL V ?_)));rintro _ pE _ hq ⟨pF,pG,rfl,rfl,pI⟩ pJ;exact AY ht V [18,19,20,21] V (Cp (S':=[ho++hn++hp]) AM pJ λpK=>Dg (a4 _ _ ⟨pE,(ho++hn++hp),c5,c6,pF,pG,V,V,((a5.trans c9).trans hq),pK,(c7.Aj (c9.trans hq)),pI⟩) V);refine Bi (pp:=rI) [iV Z] ([Z]:List Int) hc V V V Ak AE Ca AD V V V Ad λr3 hr pL pM=>BF (i:=9) V AC (Bt (vs:=[.slice a1 (p0).length c2,.agg #[iV ai.1,iV ai.2.1,iV ai.2.2],.slice bo (bn).length bv]) pM (OK (a9.Aj ((((I.trans K).trans U).trans Y).trans O)) bw bx) V V V N8 V ?_);rintro _ r4 _ b2 ⟨hu,hv,rfl,rfl,hw⟩ pO;refine BF (i:=13) V AC (C1 (pp:=rI) 0 pO az V V V V V V V Ak Ak AE (B3 A5) Ca V AD AD (er.Aj b2) (al.Aj (((((I.trans K).trans U).trans Y).trans O).trans b2)) V λr5 r6 hx r7 pP pR=>Hs 0 V pR λpS=>BF (i:=16) V AC (D1 (pp:=rI) 3 1 pS a2 V V V V V V V Ak Ak AE (B3 A5) Ca V AD AD pP (pL.Aj b2) V V λpU pW hy r8 pY p3=>Hs 3 V p3 λp4=>FJ 4 pY p4 V λr9 dd p5 p6=>BF (i:=17) V AC (Bt (vs:=[.slice hu (ap).length hv,.slice ac (p1).length ag,.slice pU (a0).length pW]) p6 (av (hw.Aj dd) (aj.Aj ((((((I.trans K).trans U).trans Y).trans O).trans b2).trans dd)) p5 a3) V V V KL V ?_)));rintro _ p7 _ hz ⟨p8,p9,rfl,rfl,qa⟩ qb;exact AY ht V [18,19,20,21] V (Cp (S':=[hx++hr++hy]) AM qb λqc=>Dg (a4 _ _ ⟨p7,(hx++hr++hy),hu,hv,p8,p9,V,V,((b2.trans dd).trans hz),qc,(hw.Aj (dd.trans hz)),qa⟩) V);refine Bi (pp:=rI) [iV Z] ([Z]:List Int) co V V V Ak AE Ca AD V V V Ad λsa dj hA hB=>FB (i:=9) (j:=11) V AC ?_ ?_;refine Bt (vs:=[.slice a1 (p0).length c2,.agg #[iV ai.1,iV ai.2.1,iV ai.2.2],.slice bo (bn).length bv]) hB (OK (a9.Aj ((((I.trans K).trans U).trans Y).trans O)) bw bx) V V V N8 V ?_;rintro _ sb _ ea ⟨hC,hD,rfl,rfl,hE⟩ qd;refine BF (i:=11) V AC (EB (pp:=rI) qd V V V Ak AE λsc sd qe qf=>BF (i:=13) V AC (C1 (pp:=rI) 2 qf az V V V V V V V Ak Ak AE (B3 A5) Ca V AD AD qe (al.Aj (((((I.trans K).trans U).trans Y).trans O).trans ea)) V λse sf hF sg qg qh=>Hs 2 V qh λqi=>BF (i:=16) V AC (D1 (pp:=rI) 3 0 qi a2 V V V V V V V Ak Ak AE (B3 A5) Ca V AD AD qg (hA.Aj ea) V V λqj qk hG si ql qm=>Hs 3 V qm λqn=>FJ 4 ql qn V λsj eb qo qp=>BF (i:=17) V AC (Bt (vs:=[.slice hC (ap).length hD,.slice ac (p1).length ag,.slice qj (a0).length qk]) qp (av (hE.Aj eb) (aj.Aj ((((((I.trans K).trans U).trans Y).trans O).trans ea).trans eb)) qo a3) V V V KL V ?_))));rintro _ qq _ hH ⟨qr,qs,rfl,rfl,qt⟩ qu;exact AY ht V [18,19,20,21] V (Cp (S':=[dj++hF++hG]) AM qu λqv=>Dg (a4 _ _ ⟨qq,(dj++hF++hG),hC,hD,qr,qs,V,V,((ea.trans eb).trans hH),qv,(hE.Aj (eb.trans hH)),qt⟩) V);refine EB (pp:=rI) hB V V V Ak AE λsk sn qw qx=>BF (i:=9) V AC (Bt (vs:=[.slice a1 (p0).length c2,.agg #[iV ai.1,iV ai.2.1,iV ai.2.2],.slice bo (bn).length bv]) qx (OK (a9.Aj ((((I.trans K).trans U).trans Y).trans O)) bw bx) V V V N8 V ?_);rintro _ so _ b3 ⟨hI,hJ,rfl,rfl,hK⟩ qy;refine BF (i:=13) V AC (C1 (pp:=rI) 1 qy az V V V V V V V Ak Ak AE (B3 A5) Ca V AD AD (qw.Aj b3) (al.Aj (((((I.trans K).trans U).trans Y).trans O).trans b3)) V λsp sq hL sr qz qB=>Hs 1 V qB λqC=>BF (i:=16) V AC (D1 (pp:=rI) 3 0 qC a2 V V V V V V V Ak Ak AE (B3 A5) Ca V AD AD qz (hA.Aj b3) V V λqD qE hM ss qF qG=>Hs 3 V qG λqH=>FJ 4 qF qH V λst ec qI qJ=>BF (i:=17) V AC (Bt (vs:=[.slice hI (ap).length hJ,.slice ac (p1).length ag,.slice qD (a0).length qE]) qJ (av (hK.Aj ec) (aj.Aj ((((((I.trans K).trans U).trans Y).trans O).trans b3).trans ec)) qI a3) V V V KL V ?_)));rintro _ qK _ hN ⟨qL,qM,rfl,rfl,qN⟩ qO;exact AY ht V [18,19,20,21] V (Cp (S':=[dj++hL++hM]) AM qO λqP=>Dg (a4 _ _ ⟨qK,(dj++hL++hM),hI,hJ,qL,qM,V,V,((b3.trans ec).trans hN),qP,(hK.Aj (ec.trans hN)),qN⟩) V);refine A3 V ?_;cases k4;obtain rfl:=k0 _ eg;exact AF (kv _ _ ⟨bi,a6,a7,V,V,O,co,ef⟩) V;refine A3 V ?_;cases h0;have qQ:ex=(Sum.inr ()):=(e1 _ b4).symm;exact AF (hV _ _ ⟨(),eN,qQ,V,V,I,e0⟩) V
def O0:Nat->Nat->A6->AK->(List Int)->Option ((List Int)×Bool)
 | 0,_=>λ_ _ _=>none
 | n+1,fu_=>λp0 p1 p2=>O3 (O0 n fu_) fu_ p0 p1 p2
theorem fH{J:Judge Tryz.prog}{n:Nat}:R6 J (O0 n fu_):=by
 induction n with
 | zero=>intro _ _ _ _ _ _ _ _ _ _ _ _ _ _ I;cases I
 | succ n K=>exact gP K
def f78(fu_:Nat)(p0:A6)(p1:AK)(p2:List Int):Option ((List Int)×Bool):=O0 fu_ fu_ p0 p1 p2
theorem mT:R6 J (f78 fu_):=fH (n:=fu_) (fu_:=fu_)
end Pal
namespace Pal
open Go
def FT(c:List Int):Nat->Int->List (List Int)
 | 0,p=>if p=0 then [List.replicate 10 0] else []
 | s+1,p=>if p<0 then [] else(List.range ((c.getD (s+1) 0).toNat+1)).flatMap λn:Nat=>(FT c s (p - (n:Int)*((s+1:Nat):Int))).map λv=>v.set (s+1) (n:Int)
theorem Vu(c:List Int):∀(s:Nat) (p:Int),∀v∈FT c s p,v.length=10
 | 0,p=>by
  intro v I
  unfold FT at I
  split at I;simp at I;subst I;simp;cases I
 | s+1,p=>by
  intro v I;unfold FT at I;split at I;cases I;obtain⟨n,-,I⟩:=vH.1 I;obtain⟨u,hu,rfl⟩:=tn.1 I;rw[sW];exact Vu c s _ u hu
theorem SO{α β:Type}{f:α->List β}{k:Nat}:∀{l:List α},(∀x∈l,(f x).length<=k)->(l.flatMap f).length<=l.length*k
 | [],_=>by simp
 | x::l,h=>by
  rw[List.flatMap_cons,sR,tb,tZ]
  have:=SO (l:=l) λy I=>h y (kW _ I)
  have:=h x tI
  omega
theorem S9{c:List Int}(hb:∀x∈c,0<=x/\x<=15):∀(s:Nat) (p:Int),(FT c s p).length<=16^s
 | 0,p=>by unfold FT;split<;>simp
 | s+1,p=>by
  unfold FT
  split;simp
  .refine s3 (SO (k:=16^s) λn _=>?_) ?_;rw[t9];exact S9 hb s _
   .rw [ur,v3,xg];refine Nat.mul_le_mul_left _ ?_;have:(c.getD (s+1) 0)<=15:=by
     rw[sP];cases h:c[s+1]? with
     | none=>simp
     | some x=>exact(hb x (sU h)).2
    omega
theorem cv{F s:Nat}{n:Int}{K I x:List (List Int)}(O:x.length<F)(hs:s<10)(U:∀v∈x,v.length=10)(Y:I.length+x.length<=2^40):
  iter (OD F (s:Int) (K,n) x) F (I,x,0)=some (I++x.map λv=>v.set s n):=by
 refine CV (Cn x.length (λi st=>st=(I++(x.take i).map (λv=>v.set s n),x.drop i,(i:Int))) AM O ?_ ?_)
 .rintro i _ hi rfl;unfold OD;refine BJ AN (AR (b:=(x[i],x.drop (i+1))) ?_ ?_);rw[tF hi];unfold R0;simp only;rw[d9 (by rw[wj];omega)]
  refine have Z:=U _ (f5 hi);Bh (m:=s) V AN (It (by rw[sR,t9,t7];omega) (A4 ((i+1:Nat):Int) AM ?_ AB AB));refine Ap ?_;show _=_;rw[tp,bZ hi,um,tE,lZ];simp
 .rintro _ rfl;unfold OD;exact BM AM (Ap ⟨_,V,by rw[tf]⟩)
theorem XV{F:Nat}{c:List Int}(Y:5^16<F)(Z:c.length=10)(hb:∀x∈c,0<=x/\x<=15):∀(s N:Nat) (p:Int),s<=9->s<N-> -200<=p->p<=72->Nz N F c (s:Int) p=some (FT c s p)
 | 0,0,_,_,h,_,_=>by omega
 | s+1,0,_,_,h,_,_=>by omega
 | 0,N+1,p,_,_,ac,ag=>by
  show Mr (Nz N F) F c ((0:Nat):Int) p=_
  unfold Mr FT
  by_cases I:p<0;rw[d9 I,d0 AB];rw[d0 I,d9 (show((0:Nat):Int)=0 from rfl)];by_cases O:0<p;rw[d9 O,d0 AB];rw[d0 O,d9 AB];rfl
 | s+1,N+1,p,hs,aj,ac,ag=>by
  show Mr (Nz N F) F c ((s+1:Nat):Int) p=_;unfold Mr
  conv=>rhs;unfold FT
  by_cases I:p<0;rw[d9 I,d9 I]
  .rw [d0 I,d0 I,d0 AB];refine CV ?_;have K:s+1<c.length:=by omega
   have hg:c.getD (s+1) 0=c[s+1]:=by rw[sP,bZ K];rfl
   have al:=hb _ (f5 K);rw[hg];have hlen:=λq=>S9 (c:=c) hb s q;have U:16^s<=16^8:=tx AB AB;refine AJ (S:=λr=>r=(List.range (c[s+1].toNat+1)).flatMap λn:Nat=>(FT c s (p - (n:Int)*((s+1:Nat):Int))).map λv=>v.set (s+1) (n:Int)) ?_ λr ai=>Ap ai;refine Cn (c[s+1].toNat+1) (λn st=>st=((List.range n).flatMap λn:Nat=>(FT c s (p - (n:Int)*((s+1:Nat):Int))).map λv=>v.set (s+1) (n:Int),(n:Int))) AM AB ?_ ?_
   .rintro n _ am rfl;unfold P6;refine Bh (m:=s+1) V K (BJ AN (A4 ((s:Nat):Int) AB ?_));have hm:(n:Int)*((s+1:Nat):Int)<=15*9:=Int.mul_le_mul AB AB AB AB;have ap:0<=(n:Int)*((s+1:Nat):Int):=Int.mul_nonneg AB AB;refine A4 ((n:Int)*((s+1:Nat):Int)) V (A4 (p - (n:Int)*((s+1:Nat):Int)) V (AR (XV Y Z hb s N _ AB AB AB AB) ?_));have aq:((List.range n).flatMap λn:Nat=>(FT c s (p - (n:Int)*((s+1:Nat):Int))).map λv=>v.set (s+1) (n:Int)).length<=16*16^8:=by
     refine s3 (SO (k:=16^8) λq _=>?_) (tJ _ (by rw[ur];omega));rw[t9];exact s3 (hlen _) U
    refine AR (cv (uB (s3 (hlen _) U) AB) AB (Vu c s _) (by simp only;have:=hlen (p - (n:Int)*((s+1:Nat):Int));omega)) (A4 ((n+1:Nat):Int) AM (Ap ?_));show _=_;rw[vO,wB];simp
   .rintro _ rfl;unfold P6;exact Bh (m:=s+1) V K (BM AN (Ap ⟨_,V,V⟩))
def ws(f:Nat->Nat):Nat->Nat
 | 0=>0
 | s+1=>ws f s+(s+1)*f (s+1)
theorem Te{f g:Nat->Nat}:∀s,(∀b,1<=b->b<=s->f b=g b)->ws f s=ws g s
 | 0,_=>rfl
 | s+1,h=>by unfold ws;rw[Te s λb I K=>h b I AB,h (s+1) AB AB]
theorem ZC(f:Nat->Nat):ws f 9=wS f:=by simp[ws,wS]
def vec(f:Nat->Nat):List Int:=(List.range 10).map λb=>(f b:Int)
theorem g9(f:Nat->Nat):(vec f).length=10:=by simp[vec]
variable{f:Nat->Nat}
theorem OJ{b:Nat}(h:b<10):(vec f)[b]?=some (f b:Int):=by unfold vec;simp[h]
variable{k:Nat}
theorem XN(f:Nat->Nat){n:Nat}(I:k<10):(vec f).set k (n:Int)=vec (λb=>if b=k then n else f b):=by
 refine ud λi=>?_
 grind [OJ,g9]
def SV(c:List Int)(s:Nat)(p:Int)(f:Nat->Nat):Prop:=(∀b,b=0∨s<b->f b=0)/\(∀b,1<=b->b<=s->(f b:Int)<=c.getD b 0)/\(ws f s:Int)=p
theorem P1{c:List Int}(U:∀b,0<=c.getD b 0):∀(s:Nat) (p:Int) (u:List Int),s<=9->(u∈FT c s p↔∃f,u=vec f/\SV c s p f)
 | 0,p,u,_=>by
  unfold FT
  constructor
  .intro h
   split at h;rename_i Y;simp at h;exact⟨λ_=>0,by rw[h];rfl,λb _=>V,λb I K=>by omega,by subst Y;rfl⟩;cases h
  .rintro⟨f,rfl,I,K,O⟩;have:p=0:=by rw[← O];rfl
   rw[d9 this];have e:f=λ_=>0:=funext λb=>I b AB;subst e;simp;rfl
 | s+1,p,u,hs=>by
  unfold FT;constructor
  .intro h;split at h;cases h
   .let⟨n,ac,ag⟩:=vH.1 h;obtain⟨v,ai,rfl⟩:=tn.1 ag;obtain⟨f,rfl,I,K,O⟩:=(P1 U s _ v AB).1 ai;refine have ac:=s4.1 ac;have al:=U (s+1);⟨_,XN f AB,λb hb=>?_,λb Z aj=>?_,?_⟩
    .show(if b=s+1 then n else f b)=0
     rw[d0 AB];exact I b AB
    .show(((if b=s+1 then n else f b):Nat):Int)<=_
     by_cases e:b=s+1;rw[d9 e,e];omega;rw[d0 e];exact K b Z AB
    .show((ws (λb=>if b=s+1 then n else f b) s+(s+1)*(if s+1=s+1 then n else f (s+1)):Nat):Int)=p
     rw[Te (g:=f) s λb I K=>by show(if b=s+1 then n else f b)=f b;rw[d0 AB],d9 rfl,Int.natCast_add,wY,O,vj]
     omega
  .rintro⟨f,rfl,I,K,O⟩;have Y:¬p<0:=by rw[← O];omega
   rw[d0 Y];refine have am:=K (s+1) AB AB;vH.2 ⟨f (s+1),s4.2 AB,tn.2 ⟨vec λb=>if b=s+1 then 0 else f b,(P1 U s _ _ AB).2 ⟨_,V,λb hb=>?_,λb Z aj=>?_,?_⟩,?_⟩⟩
   .show(if b=s+1 then 0 else f b)=0
    by_cases e:b=s+1;rw[d9 e];rw[d0 e];exact I b AB
   .show(((if b=s+1 then 0 else f b):Nat):Int)<=_
    rw[d0 AB];exact K b Z AB
   .rw [Te (g:=f) s λb I K=>by show(if b=s+1 then 0 else f b)=f b;rw[d0 AB]]
    have e:((ws f (s+1):Nat):Int)=(ws f s:Int)+((s+1:Nat):Int)*(f (s+1):Int):=by show((ws f s+(s+1)*f (s+1):Nat):Int)=_;rw[Int.natCast_add,wY]
    rw[e] at O;rw[vj (f (s+1):Int)];omega
   .show(vec _).set (s+1) ((f (s+1):Nat):Int)=vec f;rw[XN _ AB];congr 1;funext b;by_cases e:b=s+1;rw[d9 e,e];rw[d0 e,d0 e]
def HK(n:Nat)(ps:List (List Int))(C:CF):Prop:=ps.length=n/\∀a,a<n->∃r,ps[a]?=some r/\r.length=10/\∀b,b<10->r[b]?=some (C a b)
variable{ps:List (List Int)}{C I:CF}
theorem HK.congr{n:Nat}(h:HK n ps C)(e:∀a b,a<n->b<10->C a b=I a b):HK n ps I:=
 ⟨h.1,λa K=>let ⟨r,O,U,Y⟩:=h.2 a K;⟨r,O,U,λb hb=>by rw[Y b hb,e a b K hb]⟩⟩
variable{z:Int}
theorem HK.upd{n:Nat}(h:HK n ps C){a:Nat}{r:List Int}(O:a<n)(U:k<10)(Y:ps[a]?=some r):HK n (ps.set a (r.set k z)) (λI b'=>if I=a/\b'=k then z else C I b'):=by
 refine⟨by rw[sW];exact h.1,λI K=>?_⟩;let⟨r',Z,ac,ag⟩:=h.2 I K
 grind
def CW(n:Nat)(L:List Nat)(C:CF):Prop:=∃w:List Nat,w.length=L.length/\(∀o∈w,o<n)/\C=Di L w
theorem CW.nn{n:Nat}{L:List Nat}(h:CW n L C)(a b:Nat):0<=C a b/\C a b<=L.length:=by
 obtain⟨w,_,_,rfl⟩:=h;exact⟨Qn _ _ _ _,TV _ _ _ _⟩
theorem CW.path{n x y:Nat}{L:List Nat}{lo left:Nat}(O:y<n)(h:Ia x y lo left C I):CW n L C->CW n L I:=by
 induction h with
 | done=>exact id
 | step _ _ _ U _ Y=>
  rintro⟨w,K,Z,rfl⟩;let⟨w',k1,ac,ag⟩:=T4 (y:=y) K.symm U;exact Y ⟨w',by rw[k1,K],λo ai=>(ac o ai).elim (Z o) (λe=>e▸O),ag.symm⟩
variable{d:DT}
theorem CW.pay{n:Nat}{L:List Nat}(hd:VT n d)(hC:CW n L C)(h:Fj C d I):CW n L I:=by
 obtain⟨v,K,O,U,rfl⟩:=h;obtain⟨a1,Y,Z,ac,ag,_,_⟩:=hd;exact CW.path AB (Yw AB _ 1 C v AB K O V) hC
theorem Tp(b:List Int):FF [] b=false:=by cases b<;>rfl
theorem fZ{F:Nat}{a b:List Int}(K:1000<F)(O:a.length=b.length)(U:a.length<=900):f127 F a b=some (FF a b):=by
 refine CV ?_;unfold f127;refine AJ (S:=λr=>r=Sum.inl (FF a b)∨(r=Sum.inr ()/\FF a b=false)) ?_ ?_
 .refine Cn a.length (λi s=>s=(i:Int)/\FF a b=FF (a.drop i) (b.drop i)) ⟨V,AM⟩ AB ?_ ?_
  .rintro i _ hi ⟨rfl,h⟩;unfold QA;have I:i<b.length:=by omega
   rw[tF hi,tF I,KT] at h;refine BJ AB (Au.X i hi (Au.X i I (Bw (λe=>?_) (λe=>?_))));refine Au.X i hi (Au.X i I (Ap ?_));show _∨_;rw[d0 e] at h;exact .inl (by rw[h]);refine A4 ((i+1:Nat):Int) AB (Ap ?_);rw[d9 (wu e)] at h;exact⟨V,h⟩
  .rintro _ ⟨rfl,h⟩;unfold QA;rw[vI,Tp] at h;exact BM AB (Ap ⟨_,V,.inr ⟨V,h⟩⟩)
 all_goals grind [Ap]
theorem dW{F n:Nat}(U:100<F)(Y:n<=5)(h:HK n ps C):iter (OC F ps) F (List.replicate ps.length [],0)=some ps:=by
 refine CV (have Z:=h.1;Cn ps.length (λi s=>s=(ps.take i++List.replicate (ps.length - i) [],(i:Int))) AM AB ?_ ?_)
 .rintro i _ hi rfl;unfold OC;have hlen:(ps.take i++List.replicate (ps.length - i) ([]:List Int)).length=ps.length:=by rw[sR,t7,uw];omega
  refine BJ (by simp only[hlen];omega) (Au.X i hi ?_);obtain⟨r,I,K,_⟩:=h.2 i AB;refine have O:=(d7.1 I).2;FO (by rw[O,K];decide) (Bh (m:=i) V (by simp only[hlen];exact hi) (A4 ((i+1:Nat):Int) AM (Ap ?_)));show _=_;rw[tB];simp only[tt];congr 1;rw[List.set_append_right _ _ (by rw[t7];omega),t7,uN AB,vh,tp,bZ hi,um,lZ];congr 1;rw[show ps.length - i=(ps.length - (i+1))+1 by omega,uU]
  rfl
 .rintro _ rfl;unfold OC;refine BM AM (Ap ⟨_,V,AM⟩)
variable{v:Nat->Nat}
theorem iF{F n:Nat}(ag:100<F)(ai:n<=5)(h:HK n ps C)(hd:VT n d)(aj:∀b,(v b:Int)<=1000)(hC:∀a b,0<=C a b/\C a b<=1000):
  Au (f126 F ps d (vec v)) (λr=>HK n r (F1 C d.1.toNat d.2.1.toNat v)):=by
 obtain⟨x0,x1,y0,y1,ne,_,_⟩:=hd;have aw:=h.1;unfold f126;refine AR (b:=List.replicate ps.length []) (by unfold GQ;rw[d9 AB];simp) (AR (dW ag ai h) (AJ (S:=λr=>HK n r (F1 C d.1.toNat d.2.1.toNat v)) ?_ λr I=>Ap I));refine Cn 10 (λk s=>s.2=(k:Int)/\HK n s.1 (F1 C d.1.toNat d.2.1.toNat λb=>if b<k then v b else 0)) ⟨V,h.congr λa b _ _=>by simp[F1]⟩ AB ?_ ?_
 .rintro k ⟨s,i⟩ K ⟨hi,I⟩;simp only at hi I;subst hi;unfold QG;obtain⟨rx,a1,ay,al⟩:=I.2 d.1.toNat AB;obtain⟨az,Z,a0,am⟩:=I.2 d.2.1.toNat AB;have ex:=al k K;have U:=am k K;have O:d.1.toNat≠d.2.1.toNat:=by omega
  have ap:F1 C d.1.toNat d.2.1.toNat (λb=>if b<k then v b else 0) d.1.toNat k=C d.1.toNat k:=by simp[F1,O]
  have aq:F1 C d.1.toNat d.2.1.toNat (λb=>if b<k then v b else 0) d.2.1.toNat k=C d.2.1.toNat k:=by simp[F1,O.symm]
  rw[ap] at ex;rw[aq] at U;refine have cx:=hC d.1.toNat k;have a2:=hC d.2.1.toNat k;have a3:=aj k;BJ AN (AR (b:=()) (by unfold RZ;rw[d0 ne]) (AR (F6 (m:=d.1.toNat) AB a1) (AR (F6 (m:=d.2.1.toNat) AB Z) (AR (F6 (m:=k) V ex) (AR (F6 (m:=k) V U) (AR (F6 (m:=k) V ex) (AR (F6 (m:=k) V (OJ K)) (A4 (C d.1.toNat k - v k) V (AR (F6 (m:=k) V U) (AR (F6 (m:=k) V (OJ K)) (A4 (C d.2.1.toNat k+v k) V (A4 ((k+1:Nat):Int) AM (Ap ⟨V,?_⟩)))))))))))));simp only[tt];refine have u1:=I.upd (z:=C d.1.toNat k - v k) (show d.1.toNat<n by omega) K a1;have u2:=u1.upd (z:=C d.2.1.toNat k+v k) (show d.2.1.toNat<n by omega) K (by rw[s0 O];exact Z);u2.congr λa b av hb=>?_;simp only[F1];by_cases Y:b=k;subst Y;by_cases e2:a=d.2.1.toNat;subst e2;simp[O.symm];by_cases ac:a=d.1.toNat;subst ac;simp[O];simp[e2,ac]
  .rw [d0 (λq=>Y q.2),d0 (λq=>Y q.2)];have:(b<k+1)↔(b<k):=by omega
   simp only[this]
 .rintro⟨s,i⟩ ⟨hi,I⟩;simp only at hi I;subst hi;unfold QG;refine BM AM (Ap ⟨_,V,I.congr λa b av hb=>?_⟩);simp only[F1,d9 hb]
theorem aG(a:List Int):FF a []=false:=by cases a<;>rfl
theorem WC:∀(p a b:List Int),FF (p++a) (p++b)=FF a b
 | [],_,_=>rfl
 | x::p,a,b=>by rw[tH,tH,KT,d9 rfl,WC p]
theorem VN:∀{a b c:List Int},FF a b=true->FF b c=true->FF a c=true
 | [],b,_,h,_=>by rw[Tp] at h;cases h
 | _::_,[],_,h,_=>by cases h
 | _::_,_::_,[],_,h=>by cases h
 | x::a,y::b,z::c,K,I=>by
  rw[KT] at K I ⊢
  by_cases O:x=y
  .subst O
   rw[d9 rfl] at K;by_cases e2:x=z;subst e2;rw[d9 rfl] at I ⊢;exact VN K I;rw[d0 e2] at I ⊢;exact I
  .rw [d0 O] at K;have K:=uc K;by_cases e2:y=z;subst e2;rw[d0 O];exact th K;rw[d0 e2] at I;have I:=uc I;rw[d0 AB];exact th AB
theorem XE:∀{a b c:List Int},a.length=b.length->b.length=c.length->FF a c=true->FF a b=true∨FF b c=true
 | [],_,c,_,_,h=>by rw[Tp] at h;cases h
 | x::a,y::b,z::c,l1,l2,h=>by
  rw[KT] at h ⊢
  rw[KT]
  by_cases e:x=z
  .subst e
   rw[d9 rfl] at h;by_cases I:x=y;subst I;rw[d9 rfl,d9 rfl];exact XE (by simpa using l1) (by simpa using l2) h;rw[d0 I,d0 (λq=>I q.symm)];rcases Int.lt_or_gt_of_ne I with q | q;exact .inl (th q);exact .inr (th q)
  .rw [d0 e] at h;have h:=uc h;by_cases I:x=y;subst I;rw[d0 e];exact .inr (th h);rw[d0 I];by_cases q:x<y;exact .inl (th q);rw[d0 AB];exact .inr (th AB)
variable{dn:Nat}
theorem GI.len{P:List DT}{I:List Int}(h:GI P dn C I):∀{os:List Nat},OS P.length dn os->os.length+I.length=P.length:=by
 induction h with
 | nil e=>intro os K;rw[K.full.2 e];rfl
 | @cons dn i _ _ d I hd hb _ _ O=>
  intro os K;have:=O (K.snoc (d7.1 hd).1 hb);rw[sR,ui] at this;rw[tb];omega
variable{c:List Int}{p:Int}
theorem fY{s:Nat}{q:Int}{g:Nat->Nat}(hs:s<=9)(I:SV c s p f)(hg:SV c s q g)(e:vec f=vec g):f=g:=by
 funext b;by_cases hb:b<10
 .have:=OJ (f:=f) hb
  grind [OJ]
 .rw [I.1 b AB,hg.1 b AB]
def O9(P:List DT)(dn:Nat)(C:CF)(K:List Int)(r:List Int×Bool):Prop:=
 (r.2=true/\∃I,r.1=K++I/\MM P (λX=>C=X) dn I)∨(r=([],false)/\¬Ends P dn C)
abbrev Gj(os:List Nat):List Int:=os.map λi:Nat=>(i:Int)
variable{os:List Nat}{i:Nat}
theorem gl{F:Nat}(Y:1000<F)(K:os.length<=900):f124 F (Gj os) (i:Int)=some (decide (i∈os)):=by
 have O:decide ((i:Int)∈Gj os)=decide (i∈os):=by
  by_cases h:i∈os;rw[th h,th (tn.2 ⟨i,h,rfl⟩)]
  .rw [tA h,tA λq=>?_];let⟨j,hj,e⟩:=tn.1 q;have:j=i:=by omega
   exact h (this▸hj)
 rw[← O];generalize U:Gj os=L;have Z:L.length<=900:=by rw[← U,t9];exact K
 refine CV ?_;unfold f124;refine AJ (S:=λr=>(r=Sum.inl true/\(i:Int)∈L)∨(r=Sum.inr ()/\(i:Int) ∉ L)) ?_ ?_;refine Cn L.length (λk s=>s=(k:Int)/\(i:Int) ∉ L.take k) ⟨V,AM⟩ AB ?_ ?_;rintro k _ I ⟨rfl,h⟩;unfold QP;refine BJ AB (Au.X k I (Bw (λe=>?_) (λe=>?_)));exact Ap (.inl ⟨V,e▸f5 I⟩);refine A4 ((k+1:Nat):Int) AB (Ap ⟨V,λq=>?_⟩);rw[tp,bZ I,um,sO,de] at q;exact q.elim h (λq=>e q.symm);rintro _ ⟨rfl,h⟩;unfold QP;rw[tf] at h;exact BM AB (Ap ⟨_,V,.inr ⟨V,h⟩⟩)
 all_goals grind [Ap]
theorem Yc{x:Nat}(U:∀b,b<10->c[b]?=some (C x b))(Y:∀b,0<=C x b):SV c 9 p v↔(Sb v 1/\(∀b,(v b:Int)<=C x b)/\(wS v:Int)=p):=by
 have hg:∀b,b<10->c.getD b 0=C x b:=λb hb=>by rw[sP,U b hb];rfl
 constructor
 .rintro⟨K,O,I⟩;refine⟨λb hb=>?_,λb=>?_,by rw[← ZC];exact I⟩
  all_goals grind
 .rintro⟨K,O,I⟩;refine⟨λb hb=>?_,λb Z ac=>by rw[hg b AB];exact O b,by rw[ZC];exact I⟩;refine ts λq=>?_;have:=K b q;omega
def Za(P:List DT)(dn:Nat)(C:CF)(d:DT)(U:List Int)(S:(Nat->Nat)->Prop)(K:List Int):Prop:=
 (K=[]/\∀v,S v->¬Ends P dn (F1 C d.1.toNat d.2.1.toNat v))∨
 ∃I,K=U++I/\(∃v,S v/\GI P dn (F1 C d.1.toNat d.2.1.toNat v) I)/\∀v O,S v->GI P dn (F1 C d.1.toNat d.2.1.toNat v) O->FF O I=false
theorem jw{F:Nat}(I:5^16<F)(K:c.length=10)(hb:∀x∈c,0<=x/\x<=15)(O: -200<=p)(U:p<=72):f125 F c 9 p=some (FT c 9 p):=by
 unfold f125;exact XV I K hb 9 F p AB AB O U
variable {F:Nat}{L:List Nat}{P:List DT}
section
variable {n:Nat}
theorem dI(ag:SX F n L P){rec:List (List Int)->List DT->List Int->Option (List Int×Bool)}(ay:OS P.length dn os)(bv:HK n ps C)(hC:CW n L C)(hd:P[i]?=some d)(hb:dn.testBit i=false)
  (bw:∀am az,HK n am az->CW n L az->Au (rec am P (Gj (os++ [i]))) (O9 P (dn|||2^i) az (Gj (os++ [i])))) (cc:c.length=10) (a8:∀b,b<10->c[b]?=some (C d.1.toNat b)):
  Au (iter (OQ F ps P (Gj os) rec (i:Int) (FT c 9 d.2.2)) F ([],0)) (Za P (dn|||2^i) C d (Gj (os++ [i])) (SV c 9 d.2.2)):=by
 have ce:=ag.fuel;have hm:=ag.m8;have bx:i<P.length:=(d7.1 hd).1;have a9:=ag.ok d (sU hd);have ci:=ag.ML;have ap:=λa b=>hC.nn a b;have bb:∀z∈c,0<=z/\z<=15:=λz bz=>by
  let⟨b,hb⟩:=tj.1 bz;have ai:=(d7.1 hb).1;rw[a8 b AB] at hb;cases hb;have:=ap d.1.toNat b;omega
 have be:∀b,0<=c.getD b 0:=λb=>by
  rw[sP];cases h:c[b]? with
  | none=>simp
  | some z=>exact(bb z (sU h)).1
 have b0:=λv=>Yc (p:=d.2.2) (v:=v) a8 λb=>(ap d.1.toNat b).1;have a0:=ay.snoc bx hb;have co:os.length<=8:=by
  have:=Lq (m:=List.range P.length) ay.nd λx ag=>s4.2 (ay.lt x ag);rw[ur] at this;omega
 refine have hlen:=S9 (c:=c) bb 9 d.2.2;Cn (FT c 9 d.2.2).length (λk s=>s.2=(k:Int)/\Za P (dn|||2^i) C d (Gj (os++ [i])) (λv=>SV c 9 d.2.2 v/\vec v∈(FT c 9 d.2.2).take k) s.1) ⟨V,.inl ⟨V,λv h=>by simp at h⟩⟩ AB ?_ ?_
 .rintro k ⟨bg,q⟩ a1 ⟨al,aj⟩;simp only at al aj;subst al;unfold OQ;refine BJ AN (AR (F6 (m:=i) V hd) (Au.X k a1 ?_));obtain⟨f,bi,a2⟩:=(P1 be 9 d.2.2 _ AB).1 (f5 a1);have aq:=(b0 f).1 a2;have b1:Fj C d (F1 C d.1.toNat d.2.1.toNat f):=⟨f,aq.1,aq.2.1,aq.2.2,V⟩;rw[bi];refine AJ (iF AB ag.n5 bv a9 (v:=f) (λb=>by have:=aq.2.1 b;have:=ap d.1.toNat b;omega) λa b=>by have:=ap a b;omega) λam b2=>FO AP (FO AP ?_);rw[show([]++Gj os++ [(i:Int)])=Gj (os++ [i]) by simp[Gj]];refine AJ (bw am _ b2 (hC.pay a9 b1)) λr b3=>?_;have step:∀v,(SV c 9 d.2.2 v/\vec v∈(FT c 9 d.2.2).take (k+1))↔(SV c 9 d.2.2 v/\vec v∈(FT c 9 d.2.2).take k)∨v=f:=λv=>by
   rw[tp,bZ a1,um,sO,de,bi];constructor;rintro⟨Z,U | U⟩;exact .inl ⟨Z,U⟩;exact .inr (fY AB Z a2 U);rintro(⟨Z,U⟩ | rfl);exact⟨Z,.inl U⟩;exact⟨a2,.inr V⟩
  rcases b3 with⟨U,ac,a3,⟨X,rfl,a4⟩,a5⟩ | ⟨rfl,bn⟩
  .rcases aj with⟨rfl,a6⟩ | ⟨Y,rfl,⟨v0,a7,av⟩,aw⟩;refine AR (b:=true) (by rw[d9 U];exact d9 rfl) (AR (b:=r.1) (d9 V) (A4 ((k+1:Nat):Int) AM (Ap ⟨V,.inr ⟨ac,a3,⟨f,(step f).2 (.inr V),a4⟩,λv O I K=>?_⟩⟩)));rcases(step v).1 I with I | rfl;exact absurd ⟨O,K⟩ (a6 v I);exact a5 _ O V K
   .have l1:=a4.len a0;have l0:=av.len a0;have b4:¬((Gj (os++ [i])++Y).length:Int)=0:=by simp;omega
    have b5:f127 F r.1 (Gj (os++ [i])++Y)=some (FF ac Y):=by
     rw[a3,fZ AB AP (by simp at l1 ⊢;omega),WC]
    refine AR (b:=FF ac Y) (by rw[d9 U,d0 b4,b5];rfl) ?_;by_cases ai:FF ac Y=true;rw[ai];refine AR (b:=r.1) (d9 V) (A4 ((k+1:Nat):Int) AM (Ap ⟨V,.inr ⟨ac,a3,⟨f,(step f).2 (.inr V),a4⟩,λv O I K=>?_⟩⟩));rcases(step v).1 I with I | rfl;refine have bo:=aw v O I K;s9.2 λq=>?_;rw[VN q ai] at bo;cases bo;exact a5 _ O V K;have ai:=s9.2 ai;rw[ai];refine AR (b:=Gj (os++ [i])++Y) (d0 AM) (A4 ((k+1:Nat):Int) AM (Ap ⟨V,.inr ⟨Y,V,⟨v0,(step v0).2 (.inl a7),av⟩,λv O I K=>?_⟩⟩));rcases(step v).1 I with I | rfl;exact aw v O I K;refine have l2:=K.len a0;s9.2 λq=>?_;rcases XE (b:=ac) AB AB q with q | q;rw[a5 _ O rfl K] at q;cases q;rw[ai] at q;cases q
  .refine AR (b:=false) (d0 AM) (AR (b:=bg) (d0 AM) (A4 ((k+1:Nat):Int) AM (Ap ⟨V,?_⟩)));rcases aj with⟨rfl,a6⟩ | ⟨Y,rfl,⟨v0,a7,av⟩,aw⟩;refine .inl ⟨V,λv I=>?_⟩;rcases(step v).1 I with I | rfl;exact a6 v I;exact bn;refine .inr ⟨Y,V,⟨v0,(step v0).2 (.inl a7),av⟩,λv O I K=>?_⟩;rcases(step v).1 I with I | rfl;exact aw v O I K;exact absurd ⟨O,K⟩ bn
 .rintro⟨bg,q⟩ ⟨al,aj⟩;simp only at al aj;subst al;unfold OQ;refine BM AM (Ap ⟨_,V,?_⟩);have all:∀v,SV c 9 d.2.2 v->vec v∈(FT c 9 d.2.2).take (FT c 9 d.2.2).length:=λv I=>by
   rw[tf];exact(P1 be 9 d.2.2 _ AB).2 ⟨v,V,I⟩
  rcases aj with⟨Z,U⟩ | ⟨ac,Z,⟨v,U,b6⟩,ca⟩;exact .inl ⟨Z,λv I=>U v ⟨I,all v I⟩⟩;exact .inr ⟨ac,Z,⟨v,U.1,b6⟩,λv O I K=>ca v O ⟨I,all v I⟩ K⟩
theorem X0(I:SX F n L P):∀(N:Nat) (os:List Nat) (dn:Nat) (ps:List (List Int)) (C:CF),OS P.length dn os->HK n ps C->CW n L C->P.length - os.length<N->Au (O0 N F ps P (Gj os)) (O9 P dn C (Gj os))
 | 0,_,_,_,_,_,_,_,h=>by omega
 | N+1,os,dn,ps,C,K,ap,hC,b0=>by
  have a1:=I.fuel
  have hm:=I.m8
  have b1:=I.ML
  have b2:os.length<=P.length:=by
   have:=Lq (m:=List.range P.length) K.nd λx I=>s4.2 (K.lt x I)
   rwa[ur] at this
  have aq:(Gj os).length=os.length:=t9 ..;show Au (O3 (O0 N F) F ps P (Gj os)) _;unfold O3;by_cases Z:os.length=P.length;rw[d9 (by rw[aq,Z])];refine have e:=K.full.1 Z;Ap (.inl ⟨V,[],AM,⟨C,V,GI.nil e⟩,λX av _ _=>aG av⟩)
  .rw [d0 (by rw[aq];omega)];have aw:dn≠2^P.length - 1:=λq=>Z (K.full.2 q);refine AJ (S:=λq=>(∃r,q=Sum.inl r/\O9 P dn C (Gj os) r)∨(q=Sum.inr ()/\∀j,j<P.length->¬EY P (λX=>C=X) dn j)) ?_ ?_
   .refine Cn P.length (λi s=>s=(i:Int)/\∀j,j<i->¬EY P (λX=>C=X) dn j) ⟨V,λj hj=>by omega⟩ AB ?_ ?_
    .rintro i _ hi ⟨rfl,ay⟩;unfold Rd;refine BJ AB ?_;have a2:∀{st},¬EY P (λX=>C=X) dn i->st=(Bn.more ((i+1:Nat):Int):Bn Int ((List Int×Bool)⊕Unit))->Bn.sat (λs=>s=((i+1:Nat):Int)/\∀j,j<i+1->¬EY P (λX=>C=X) dn j) (λq=>(∃r,q=Sum.inl r/\O9 P dn C (Gj os) r)∨(q=Sum.inr ()/\∀j,j<P.length->¬EY P (λX=>C=X) dn j)) st:=by
      rintro _ h rfl;refine⟨V,λj hj=>?_⟩;rcases v8 (Nat.le_of_lt_succ hj) with q | rfl;exact ay j q;exact h
     have hd:P[i]?=some P[i]:=bZ hi;refine AJ (S:=λq=>(∃r,q=Sum.inl r/\O9 P dn C (Gj os) r)∨(q=Sum.inr ()/\¬EY P (λX=>C=X) dn i)) ?_ ?_
     .refine AR (gl AB AB) ?_;by_cases Y:i∈os;rw[th Y,d9 rfl];refine Ap (.inr ⟨V,λ⟨_,_,_,_,_,hb,_⟩=>?_⟩);rw[(K.bit i hi).2 Y] at hb;cases hb
      .rw [tA Y,d0 AM];have hb:dn.testBit i=false:=s9.2 λq=>Y ((K.bit i hi).1 q);have a3:=I.ok _ (f5 hi);obtain⟨x0,x1,y0,y1,ne,p0,p1⟩:=a3;obtain⟨c,a4,az,ac⟩:=ap.2 P[i].1.toNat AB;have a5:∀z∈c,0<=z/\z<=15:=λz a6=>by
        let⟨b,hb⟩:=tj.1 a6;have b3:=(d7.1 hb).1;rw[ac b AB] at hb;cases hb;have:=hC.nn P[i].1.toNat b;omega
       refine Au.X i hi (AR (F6 (m:=P[i].1.toNat) AB a4) (Au.X i hi (AR (jw a1 az a5 AB AB) (AJ (dI I K ap hC hd hb (λa7 O a8 a9=>X0 I N (os++ [i]) _ a7 O (K.snoc hi hb) a8 a9 (by rw[sR,ui];omega)) az ac) λb4 bb=>?_))));have ag:=λv=>Yc (p:=P[i].2.2) (v:=v) ac λb=>(hC.nn P[i].1.toNat b).1;rcases bb with⟨rfl,be⟩ | ⟨bg,rfl,⟨v,bi,bn⟩,bo⟩;refine BM AM (Ap (.inr ⟨V,?_⟩));rintro⟨_,d,O,rfl,a0,_,⟨v,s1,s2,ai,rfl⟩,aj⟩;rw[hd] at a0;cases a0;exact be v ((ag v).2 ⟨s1,s2,ai⟩) aj
       .refine BJ AP (Ap (.inl ⟨_,V,.inl ⟨V,(i:Int)::bg,by simp[Gj],⟨C,V,?_⟩,?_⟩⟩));exact have al:=(ag v).1 bi;GI.cons hd hb ⟨v,al.1,al.2.1,al.2.2,V⟩ bn
        .rintro _ av rfl bv;obtain⟨j,d,O,bw,rfl,U,e2,⟨w,s1,s2,ai,rfl⟩,am,bx⟩:=bv.U3 (S:=λX=>C=X) rfl aw;rw[KT];by_cases e:(j:Int)=(i:Int)
         .rw [d9 e];have:j=i:=by omega
          subst this;rw[hd] at U;cases U;exact bo w bw ((ag w).2 ⟨s1,s2,ai⟩) am
         .rw [d0 e];refine tA λq=>ay j AB bx
     .rintro q (⟨r,rfl,h⟩ | ⟨rfl,h⟩);exact Ap (.inl ⟨r,V,h⟩);rw[Sum.elim_inr];exact A4 ((i+1:Nat):Int) AB (Ap (a2 h V))
    .rintro _ ⟨rfl,h⟩;unfold Rd;exact BM AB (Ap ⟨_,V,.inr ⟨V,h⟩⟩)
   .rintro q (⟨r,rfl,h⟩ | ⟨rfl,h⟩);exact Ap h;exact Ap (.inr ⟨V,λaj=>let⟨i,d,O,U,e2,bz,am⟩:=aj.cases aw;h i (d7.1 U).1 ⟨C,d,O,V,U,e2,bz,am⟩⟩)
end
variable{o:OW}
theorem dB{F:Nat}{sl:List (List Int)}{z:Int}(ai:100<F)(h:VO o)(hi:i<o.1.length)(ac:i<sl.length):
  Au (iter (OV F o (sl,(i:Int))) F (sl.set i (List.replicate 10 0),0)) (λq=>∃r,q=sl.set i r/\r.length=10/\∀b,b<10->r[b]?=some (FG o.1 i b)):=by
 let⟨c1,c2⟩:=h.cs _ (f5 hi);have hg:o.1.getD i []=o.1[i]:=by rw[sP,bZ hi];rfl
 refine Cn o.1[i].length (λk st=>st.2=(k:Int)/\∃r,st.1=sl.set i r/\r.length=10/\∀b:Nat,b<10->r[b]?=some ((((o.1[i].take k).count (b:Int):Nat)):Int)) ⟨V,List.replicate 10 0,V,AM,λb hb=>by rw[vq,d9 hb];simp⟩ AB ?_ ?_
 .rintro k ⟨st,q⟩ U ⟨I,r,K,Y,O⟩;simp only at I K;subst I;subst K;unfold OV;refine Bh (m:=i) V hi (BJ AN (AR (F6 (m:=i) V (tC ac)) (Bh (m:=i) V hi (Bh (m:=k) V U ?_))));let⟨k1,aj⟩:=c2 _ (f5 U);obtain⟨c,Z⟩:∃c:Nat,o.1[i][k]=(c:Int):=⟨o.1[i][k].toNat,AB⟩;have ag:c<10:=by omega
  refine AR (F6 (m:=c) Z (O c ag)) ?_;have al:(o.1[i].take k).count (c:Int)<=3:=s3 xc (by rw[t7];omega);refine A4 ((((o.1[i].take k).count (c:Int):Nat):Int)+1) V (A4 ((k+1:Nat):Int) AM (Ap ⟨V,r.set c ((((o.1[i].take k).count (c:Int):Nat):Int)+1),?_,by rw[sW];exact Y,λb hb=>?_⟩));show(sl.set i r).set ((i:Int).toNat) (r.set (o.1[i][k]).toNat _)=_;rw[Z,tt,tt,uF];rw[tD,VF U,Z];by_cases e:c=b;subst e;rw[d9 rfl,d9 AB,d9 rfl];rfl;rw[d0 e,d0 AB];exact O b hb
 .rintro⟨st,q⟩ ⟨I,r,K,Y,O⟩;simp only at I K;subst I;subst K;unfold OV;refine Bh (m:=i) V hi (BM AM (Ap ⟨_,V,r,V,Y,λb hb=>?_⟩));rw[O b hb,tf];unfold FG;rw[hg]
theorem lE{F:Nat}(U:100<F)(h:VO o):Au (f79 F o) (λps=>HK o.1.length ps (FG o.1)):=by
 have ag:=h.n5;unfold f79;refine AR (b:=List.replicate o.1.length []) (by unfold GQ;rw[d9 AB];simp) (AJ (S:=λps=>HK o.1.length ps (FG o.1)) ?_ λr I=>Ap I);refine Cn o.1.length (λi s=>s.2=(i:Int)/\s.1.length=o.1.length/\∀a,a<i->∃r,s.1[a]?=some r/\r.length=10/\∀b,b<10->r[b]?=some (FG o.1 a b)) ⟨V,AM,λa Y=>by omega⟩ AB ?_ ?_
 .rintro i ⟨s,q⟩ hi ⟨O,K,I⟩;simp only at O K I;subst O;unfold Q9;refine BJ AN (AR (b:=List.replicate 10 0) V (Bh (m:=i) V AN (AJ (dB (z:=0) U h hi AB) ?_)));rintro _ ⟨r,rfl,Z,ac⟩;refine A4 ((i+1:Nat):Int) AM (Ap ⟨V,by simp only[sW];exact K,λa Y=>?_⟩);by_cases e:i=a;subst e;exact⟨r,tC AB,Z,ac⟩
  .obtain⟨r',g1,g2,ai⟩:=I a AB
   grind
 .rintro⟨s,q⟩ ⟨O,K,I⟩;simp only at O K I;subst O;unfold Q9;exact BM (by simp only[K];omega) (Ap ⟨_,V,K,I⟩)
theorem Uk{F:Nat}(K:100<F)(h:NV 40 o):∃e,f48 F o=some e/\(e=0->VO o)/\(e≠0->f70 F o []=some (([],[]),e)):=by
 refine let⟨e,I,O⟩:=Yh K h;⟨e,I,O.1,λU=>CV ?_⟩;unfold f70;exact AR ((YQ F o).trans I) (BJ U (Ap V))
theorem Ro(m:Nat):OS m 0 []:=⟨.nil,AM,λi hi=>by simp,wq m⟩
theorem dR{P:List DT}{S:CF->Prop}{I ρ:List Int}(h:MM P S 0 I)(k:MM P S 0 ρ):I=ρ:=by
 obtain⟨⟨C,hC,K⟩,O⟩:=h;obtain⟨⟨D,U,k1⟩,Y⟩:=k;have l1:=K.len (Ro _);have l2:=k1.len (Ro _);exact Wc AB (Y C I hC K) (O D ρ U k1)
theorem nA(h:VO o):CW o.1.length (KC o.1) (FG o.1):=by
 refine⟨LW 0 o.1,T3 _ _,λq I=>by have:=Uf _ _ q I;omega,?_⟩;funext a b;rw[TP a b o.1 0 λx K c O=>by have:=((h.cs x K).2 c O).1;omega,d9 (tz _),uO]
end Pal
namespace Pal
variable{o:OW}
theorem VO.np(h:VO o):NV 10 o:=⟨by have:=h.n5;omega,λx I=>by have:=(h.cs x I).1;omega,by have:=h.d8;omega⟩
variable{F k:Nat}{b:J4}
theorem jF(I:100<F)(hb:BG k b)(K:k<1000):Au (f31 F b 5 6) (λr=>NV 10 r.1/\BG (k+100) r.2):=(jv (pm:=5) (dm:=6) I hb K AB AB AB).Aj λ_ h=>⟨h.1.np,h.2.2.2⟩
theorem ky{d:DT}(U:100<F)(K:NV 20 o)(hb:BG k b)(Y:k<500):Au (f19 F o d b) (λr=>(∃a c,r.1=[o,a,c]/\NV 30 a/\NV 30 c)/\BG (k+101) r.2):=by
 unfold f19;refine AJ (jF U hb AB) ?_;rintro⟨a,Z⟩ ⟨I,g1⟩;simp only at I g1 ⊢;refine AJ (jm I AB) ?_;rintro _ rfl;refine AJ (YO g1 AB AB AB) ?_;rintro⟨y,ac⟩ g2;simp only at g2 ⊢;refine have ag:=I.l2;AJ (S:=λr=>r.length<=20/\∀x∈r,x.length<=20) ?_ ?_;refine Bw (λ_=>?_) (λ_=>?_);exact AR (YG U (K.up (m:=40) AB).l1 (K.up (m:=40) AB).n1) (Ap ⟨K.l1,K.n1⟩);exact Ap ⟨s3 I.l1 AB,λx O=>s3 (I.n1 x O) AB⟩;rintro r ⟨r1,r2⟩;exact Ap ⟨⟨a,_,V,I.up AB,⟨s3 r1 AB,λx O=>s3 (r2 x O) AB,by simp;omega⟩⟩,g2⟩
open Go Go.Conc Go.Proofs
variable {J:Judge Tryz.prog}{E:LH}
def f23(fu_:Nat)(p0:Bf):Option (AK×Int):=
 (f48 fu_ p0).bind λI=>
 if I≠0 then(
  some ([],I)
 ) else(
  (f75 fu_ p0).bind λK=>
  (ix K (0)).bind λO=>
  some (O,0)
 )
variable{O a1:Av}{U c2 fu_:Nat}{p0:Bf}
abbrev G3:=@Go.Proofs.Tryz.func10
theorem mV(Y:Aq (rL rI) E a1 c2 (p0.1))(Z:Aq AI E O U (p0.2)){r:AK×Int}(ac:f23 fu_ p0=some r):A2 J 10 [.agg #[.slice a1 (p0.1).length c2,.slice O (p0.2).length U]] E [] (λw E' B'=>∃(ag:Av) (ai:Nat),w=.tuple #[.slice ag (r.1).length ai,iV r.2]/\B'=[]/\Aq AI E' ag ai (r.1)):=by
 refine Bq G3 λQ bi cs H ap aj=>?_;unfold f23 at ac;refine C 2 V (Cx ap λbn bo I al aq=>?_);refine C 6 V (Ch al C8 B8 V V (Ai ac λbv av aw=>Cs (UH (Y.Aj I) (Z.Aj I) av) V V Ss aq λbw K am=>C 7 V (AW aw (λay az=>?_) (λay a0=>?_))));refine C 6 V ?_;cases az;exact AX G3 V V (aj (I.trans K) V ⟨none,0,V,V,Ba⟩ am);refine C 3 V (Ch (al.Aj K) C8 B8 V V (Ai a0 λbx a2 a3=>Cb (UJ (Y.Aj (I.trans K)) (Z.Aj (I.trans K)) a2) V V Sr am ?_));rintro _ bz _ a4 ⟨b0,b1,rfl,rfl,a5⟩ a6;refine Ai a3 λb2 a7 a8=>B7 a5 a7 Bx Ej ?_;rintro b3 b4 _ ⟨a9,bb,rfl,be⟩ bg;refine CX 0 bg Fe V V V (C 3 V ?_);cases a8;exact AX G3 V V (aj ((I.trans K).trans a4) V ⟨a9,bb,V,V,be⟩ a6)
def f25(fu_:Nat)(p0:Bf):Option (Int×Int):=
 (f48 fu_ p0).bind λI=>
 if I≠0 then(
  some (0,I)
 ) else(
  (f75 fu_ p0).bind λK=>
  some (((K).length:Int),0)
 )
abbrev G2:=@Go.Proofs.Tryz.func12
theorem lR(Y:Aq (rL rI) E a1 c2 (p0.1))(Z:Aq AI E O U (p0.2)){r:Int×Int}(ac:f25 fu_ p0=some r):A2 J 12 [.agg #[.slice a1 (p0.1).length c2,.slice O (p0.2).length U]] E [] (λw E' B'=>w=.tuple #[iV r.1,iV r.2]/\B'=[]):=by
 refine Bq G2 λQ a4 cs H al ag=>?_;unfold f25 at ac;refine C 2 V (Cx al λa5 a6 I ai am=>?_);refine C 6 V (Ch ai C8 B8 V V (Ai ac λa7 ap aq=>Cs (UH (Y.Aj I) (Z.Aj I) ap) V V Ss am λa8 K aj=>C 7 V (AW aq (λav aw=>?_) (λav ay=>?_))));refine C 6 V ?_;cases aw;exact AX G2 V V (ag (I.trans K) V ⟨V,V⟩ aj);refine C 3 V (Ch (ai.Aj K) C8 B8 V V (Ai ay λa9 az a0=>Cb (UJ (Y.Aj (I.trans K)) (Z.Aj (I.trans K)) az) V V Sr aj ?_));rintro _ bb _ a2 ⟨be,bg,rfl,rfl,bi⟩ a3;refine BB Bx V V V (C 3 V ?_);cases a0;exact AX G2 V V (ag ((I.trans K).trans a2) V ⟨V,V⟩ a3)
def Q3(fu_:Nat)(p0:Bf)(K:AS)(I:Int):Option (Bn (Int) ((AK×(List Int)×Int)⊕(Unit))):=
 if I<((K).length:Int) then(
  (ix K (I)).bind λU=>
  (f79 fu_ p0).bind λY=>
  (f78 fu_ Y U ([])).bind λO=>
  if O.2=true then(
   (ix K (I)).bind λZ=>
   some (.done (Sum.inl (Z,O.1,0)))
  ) else(
   (Ax (I+1)).bind λac=>
   some (.more ac)
  )
 ) else(
  some (.done (Sum.inr ()))
 )
def f28(fu_:Nat)(p0:Bf):Option (AK×(List Int)×Int):=
 (f48 fu_ p0).bind λI=>
 if I≠0 then(
  some ([],[],I)
 ) else(
  (f75 fu_ p0).bind λK=>
  Option.bind (iter (Q3 fu_ p0 K) fu_ 0) λO=>
  Sum.elim (λr=>some r) (λU=>
  some ([],[],11)
  ) O
 )
abbrev E6:=@Go.Proofs.Tryz.func15
theorem mF{ap:Av}{aq:Nat}(ac:Aq (rL rI) E a1 c2 (p0.1))(ag:Aq AI E ap aq (p0.2)){r:AK×(List Int)×Int}(av:f28 fu_ p0=some r):A2 J 15 [.agg #[.slice a1 (p0.1).length c2,.slice ap (p0.2).length aq]] E [] (λw E' B'=>∃(aw:Av) (ay:Nat) (az:Av) (a0:Nat),w=.tuple #[.slice aw (r.1).length ay,.slice az (r.2.1).length a0,iV r.2.2]/\B'=[]/\Aq AI E' aw ay (r.1)/\Aq rI E' az a0 (r.2.1)):=by
 refine Bq E6 λQ eC cs H bg ai=>?_;unfold f28 at av;refine C 2 V (Cx bg λbi eN I aj bn=>?_);refine C 7 V (Ch aj C8 B8 V V (Ai av λe0 bo bv=>Cs (UH (ac.Aj I) (ag.Aj I) bo) V V Ss bn λe1 K a2=>C 7 V (AW bv (λbw bx=>?_) (λbw bz=>?_))));refine C 7 V ?_;cases bx;exact AX E6 V V (ai (I.trans K) V ⟨none,0,none,0,V,V,Ba,Ba⟩ a2);refine C 3 V (Ch (aj.Aj K) C8 B8 V V (Ai bz λb0 b1 b2=>Cb (UJ (ac.Aj (I.trans K)) (ag.Aj (I.trans K)) b1) V V Sr a2 ?_));rintro _ b3 _ U ⟨b4,b5,rfl,rfl,a3⟩ b6;let⟨a4,ca,a5⟩:=bs b2;refine C 7 V (Bs (λL s=>∃(a6:Unit) (a7:LH),a4=Sum.inr a6/\Jm b3 H a7 [] [] L s) ?_ ?_);rintro _ _ ⟨a6,a7,rfl,rfl,rfl,cc,ce⟩;refine have ci:=elim_inr a5;C 6 V ?_;cases ci;exact AX E6 V V (ai (((I.trans K).trans U).trans cc) V ⟨none,0,none,0,V,V,Ba,Ba⟩ ce);intro co;refine Ay (Dc ca (λal=>[]) (λal=>[(1,.pointer (some ⟨bi,0,none⟩)),(6,.slice b4 (b0).length b5),(7,iV al)]) (BQ _) b6 ?_);rintro al cp O a8 a9 ⟨e3,Y⟩ ct;have bb:=Y;unfold Q3 at bb;refine C 5 V (BB Bx V V V (C 2 V (AW bb (λcw cy=>?_) (λcw c0=>?_))));refine C 4 V (Eu 11 λht=>?_);refine GA 0 ht (aj.Aj ((K.trans U).trans O)) C8 B8 V V V (AY ht V [2,3] V (Ai cy λe4 c3 c4=>Dd 4 (a3.Aj O) c3 ht Bx Ej ?_));rintro e5 e6 _ ⟨e7,e8,rfl,c5⟩ c6;refine Ec 5 ht 0 c6 Fe V V V V (Ai c4 λff c7 c8=>EC (i:=1) (me (ac.Aj (((I.trans K).trans U).trans O)) (ag.Aj (((I.trans K).trans U).trans O)) c7) AC V V V (A8 Tryz.func41 V) V a8 ?_);rintro _ fk _ Z ⟨fl,fm,rfl,rfl,c9⟩ dd;refine Ai c8 λfo dj ea=>EC (i:=6) (mT c9 (c5.Aj Z) Ba dj) AC V V V KL V dd ?_;rintro _ fs _ am ⟨eb,ec,rfl,rfl,ed⟩ be;refine AY ht V [7,8,9,10] V (CJ [11] (C 6 V (Co ea (λee ef=>?_) (λee eg=>?_))));refine Ai ef λfv ej ek=>C 4 V (B7 (a3.Aj ((O.trans Z).trans am)) ej Bx Ej ?_);rintro fw fN _ ⟨el,em,rfl,eo⟩ er;refine CX 0 er Fe V V V (C 5 V ?_);cases ek;obtain rfl:=a9 _ Y;have eu:=elim_inl a5;cases eu;exact AX E6 V V (ai (((((I.trans K).trans U).trans O).trans Z).trans am) V ⟨el,em,eb,ec,V,V,eo,ed⟩ be);refine Ai eg λew ex ey=>C 4 V (Br ex V V V (C 2 V ?_));cases ey;exact ct ew ((O.trans Z).trans am) be V Y;refine A3 V ?_;cases c0;have eA:a4=(Sum.inr ()):=(a9 _ Y).symm;exact AF (co _ _ ⟨(),cp,eA,V,V,O,a8⟩) V
def RO(fu_:Nat)(K:(List Bf)×(Dh))(I:Int):Option (Bn (Int) ((Bool)⊕(Unit))):=
 if I<((K.1).length:Int) then(
  (ix K.1 (I)).bind λaj=>
  (f21 fu_ aj).bind λO=>
  (f22 fu_ O).bind λZ=>
  (ix K.1 (I)).bind λal=>
  (f23 fu_ al).bind λac=>
  (f24 fu_ O).bind λag=>
  (ix K.1 (I)).bind λam=>
  (f25 fu_ am).bind λai=>
  Option.bind (
   if ag.1≠ai.1 then(
    some true
   ) else(
    some (decide (Z.2≠ac.2))
   )
  ) λap=>
  Option.bind (
   if ap=true then(
    some true
   ) else(
    some (decide (ag.2≠ai.2))
   )
  ) λaq=>
  Option.bind (
   if aq=true then(
    some true
   ) else(
    (f26 fu_ Z.1 ac.1).bind λav=>
    some (!av)
   )
  ) λaw=>
  if aw=true then(
   some (.done (Sum.inl false))
  ) else(
   (f27 fu_ O).bind λU=>
   (ix K.1 (I)).bind λay=>
   (f28 fu_ ay).bind λY=>
   Option.bind (
    if U.2.2≠Y.2.2 then(
     some true
    ) else(
     (f26 fu_ U.1 Y.1).bind λaz=>
     some (!az)
    )
   ) λa0=>
   Option.bind (
    if a0=true then(
     some true
    ) else(
     (f29 fu_ U.2.1 Y.2.1).bind λa1=>
     some (!a1)
    )
   ) λa2=>
   Option.bind (
    if a2=true then(
     some true
    ) else(
     (ix K.1 (I)).bind λa3=>
     (f30 fu_ O a3).bind λa4=>
     some (!a4)
    )
   ) λa5=>
   if a5=true then(
    some (.done (Sum.inl false))
   ) else(
    (Ax (I+1)).bind λa6=>
    some (.more a6)
   )
  )
 ) else(
  some (.done (Sum.inr ()))
 )
def f3(fu_:Nat)(p0:Bf)(p1:Int×Int×Int)(p2:List Int):Option (Bool):=
 (f17 fu_ p0).bind λI=>
 if I=true then(
  (f18 fu_).bind λK=>
  some K
 ) else(
  (f20 fu_ p2).bind λO=>
  (f19 fu_ p0 p1 O).bind λU=>
  Option.bind (iter (RO fu_ U) fu_ 0) λY=>
  Sum.elim (λr=>some r) (λac=>
  (f18 fu_).bind λZ=>
  some Z
  ) Y
 )
abbrev Fm:=@Go.Proofs.Tryz.func3
theorem lH{E H:LH}{bw:Av}{bx:Nat}{bz:Av}{b0:Nat}{p1:Int×Int×Int}{p2:List Int}(b1:Aq (rL rI) E a1 c2 (p0.1))(b2:Aq AI E bw bx (p0.2))(eo:Aq rI E bz b0 (p2)){r:Bool}(b3:f3 fu_ p0 p1 p2=some r):(H7 Tryz.prog).ok (OA Tryz.prog (λv _=>v=.bool r)) (G (Frame.enter Tryz.prog 3 ([.agg #[.slice a1 (p0.1).length c2,.slice bw (p0.2).length bx],.agg #[iV p1.1,iV p1.2.1,iV p1.2.2],.slice bz (p2).length b0]:Lv_).toArray .normal) []) (mk E H []):=by
 refine bP Fm V V (sZ V) ?_;have er:Aw E H [[]]:=trivial;unfold f3 at b3;refine C 2 V (Cx er λny nE az b4 eu=>?_);refine Cx eu λnH nM aj ew ex=>?_;refine C 5 V (Ch (b4.Aj aj) C8 B8 V V (Ai b3 λnN ey eA=>Cs (mJ (b1.Aj (az.trans aj)) (b2.Aj (az.trans aj)) ey) V V (A8 Tryz.func4 V) ex λnO a0 b5=>A1 (Co eA (λeC eN=>?_) (λeC e0=>?_))));refine Ai eN λnP e1 e3=>C 2 V (Cs (Y8 e1) V V (A8 Tryz.func5 V) b5 λnQ nR nT=>C 2 V ?_);obtain rfl:=(oi e3);exact IX V (JO.end V AC Fm V V V);refine C 2 V (Eu 4 λht=>?_);refine GA 0 ht (b4.Aj (aj.trans a0)) C8 B8 V V V (GA 1 ht (ew.Aj a0) Dl Bc V V V (Db 2 ht V V (Ai e0 λnU e4 e5=>EC (i:=3) (ml (eo.Aj ((az.trans aj).trans a0)) e4) AC V V V (A8 Tryz.func7 V) V b5 ?_)));rintro _ nV _ b6 ⟨nW,nX,nY,rfl,rfl,e6⟩ e7;refine CJ [4,5] (Ai e5 λal e8 ff=>CO 4 (nf (b1.Aj (((az.trans aj).trans a0).trans b6)) (b2.Aj (((az.trans aj).trans a0).trans b6)) e6 e8) V V (A8 Tryz.func6 V) e7 V ?_);rintro _ fk _ nZ ⟨am,ap,n0,n3,rfl,rfl,a2,n4⟩ fl;let⟨ca,fm,bg⟩:=bs ff;refine C 7 V (Bs (λL s=>∃(cc:Unit) (ce:LH),ca=Sum.inr cc/\Jm fk H ce [] [] L s) ?_ ?_);rintro _ _ ⟨cc,ce,rfl,rfl,rfl,n6,fo⟩;refine have fs:=elim_inr bg;Ai fs λn7 fv fw=>C 2 V (Cs (Y8 fv) V V (A8 Tryz.func5 V) fo λn8 n9 oa=>C 2 V ?_);obtain rfl:=(oi fw);exact IX V (JO.end V AC Fm V V V);intro fN;refine Ay (BO 4 fl V λgc=>Dc fm (λag=>[]) (λag=>[(7,.slice am (al.1).length ap),(8,iV ag)]) (BQ _) gc ?_);rintro ag ge aq ci bi ⟨ob,a3⟩ gg;have co:=a3;unfold RO at co;refine C 5 V (BB DB V V V (C 2 V (AW co (λgh gt=>?_) (λgh gB=>?_))));refine Ai gt λoc gE gO=>C 7 V (B7 (a2.Aj aq) gE DB B8 ?_);rintro od oe _ ⟨_,_,rfl,⟨og,oh,rfl,g3⟩,⟨om,oo,rfl,g4⟩⟩ g5;refine Ch g5 C8 B8 V V (Ai gO λoq g6 g7=>Cb (mr g3 g4 g6) V V (A8 Tryz.func8 V) ci ?_);rintro _ ot _ a4 ⟨ou,ov,ow,ox,rfl,rfl,a7,a8⟩ g8;refine Cq g8 H4 λa5 ha=>?_;refine BX 1 ha B8 λhb=>?_;refine Ff 1 hb V λoy O a9 hc=>C 3 V (Ch a9 C8 B8 V V (Ai g7 λcp he hf=>Cb (Zd (a7.Aj O) (a8.Aj O) he) V V (A8 Tryz.func9 V) hc ?_));rintro _ oz _ I ⟨ct,cw,rfl,rfl,hk⟩ hl;refine Ai hf λoA hm hn=>C 10 V (B7 (a2.Aj (((aq.trans a4).trans O).trans I)) hm DB B8 ?_);rintro oB oD _ ⟨_,_,rfl,⟨oE,oF,rfl,ho⟩,⟨oG,oH,rfl,hp⟩⟩ hq;refine Ch hq C8 B8 V V (Ai hn λcy hr hu=>Cb (mV ho hp hr) V V (A8 G3 V) hl ?_);rintro _ oI _ K ⟨c0,c3,rfl,rfl,hv⟩ hw;refine C 8 V (Ch (a9.Aj (I.trans K)) C8 B8 V V (Ai hu λhx hy hz=>Cs (Zj (a7.Aj ((O.trans I).trans K)) (a8.Aj ((O.trans I).trans K)) hy) V V (A8 Tryz.func11 V) hw λoJ U hA=>Ai hz λoK hB hC=>C 10 V (B7 (a2.Aj (((((aq.trans a4).trans O).trans I).trans K).trans U)) hB DB B8 ?_)));rintro oL oM _ ⟨_,_,rfl,⟨oN,oO,rfl,hD⟩,⟨oP,oQ,rfl,hE⟩⟩ hF;refine Ch hF C8 B8 V V (Ai hC λhG hH hI=>Cs (lR hD hE hH) V V (A8 G2 V) hA λoR Y c4=>Ai hI λhJ hK hL=>C 13 V (Gn 8 11 [] [(7,.slice am (al.1).length ap),(8,iV ag),(9,.pointer (some ⟨a5,0,none⟩)),(10,.slice ct (cp.1).length cw),(12,.slice c0 (cy.1).length c3),(15,iV hx.2),(17,iV hG.2),(72,.bool hJ)] (λoS Z c5=>?_) (λc6=>?_)));refine Ai hL λhM hN hO=>C 1 V (Gn 13 6 [] [(7,.slice am (al.1).length ap),(8,iV ag),(9,.pointer (some ⟨a5,0,none⟩)),(10,.slice ct (cp.1).length cw),(12,.slice c0 (cy.1).length c3),(77,.bool hM)] (λc7 ac c8=>?_) (λc9=>?_));let⟨hP,hQ,hR⟩:=bs hO;refine C 1 V (HA [] (λL s=>∃(dd:LH),Jm c7 H dd [] [(7,.slice am (al.1).length ap),(8,iV ag),(9,.pointer (some ⟨a5,0,none⟩)),(83,.bool hP)] L s) ?_ ?_);rintro _ _ ⟨dd,rfl,rfl,ai,hS⟩;refine A1 (Co hR (λhT hU=>?_) (λhT hV=>?_));refine C 4 V ?_;cases hU;obtain rfl:=bi _ a3;have hW:=elim_inl bg;cases hW;exact IX V (JO.end V AC Fm V V V);refine C 3 V (Ch (a9.Aj ((((((I.trans K).trans U).trans Y).trans Z).trans ac).trans ai)) C8 B8 V V (Ai hV λhX hY h0=>Cb (Zl (a7.Aj (((((((O.trans I).trans K).trans U).trans Y).trans Z).trans ac).trans ai)) (a8.Aj (((((((O.trans I).trans K).trans U).trans Y).trans Z).trans ac).trans ai)) hY) V V (A8 Tryz.func14 V) hS ?_));rintro _ oT _ ay ⟨oU,oV,h1,h2,rfl,rfl,h3,h4⟩ h5;refine Ai h0 λoW h6 h7=>C 12 V (B7 (a2.Aj ((((((((((aq.trans a4).trans O).trans I).trans K).trans U).trans Y).trans Z).trans ac).trans ai).trans ay)) h6 DB B8 ?_);rintro oX oY _ ⟨_,_,rfl,⟨oZ,o0,rfl,h8⟩,⟨o3,o4,rfl,h9⟩⟩ ia;refine Ch ia C8 B8 V V (Ai h7 λih ii io=>Cb (mF h8 h9 ii) V V (A8 E6 V) h5 ?_);rintro _ dj _ av ⟨o5,o6,it,i0,rfl,rfl,i1,i3⟩ ea;refine C 9 V (Eu 24 λht=>?_);refine AY ht V [0,1,2,3] V ?_;let⟨i4,eb,i5⟩:=bs io;refine FK 15 (tR_ 9 15) (λL s=>∃(bb:LH),Jm dj H bb [] [(7,.slice am (al.1).length ap),(8,iV ag),(9,.pointer (some ⟨a5,0,none⟩)),(18,.slice h1 (hX.2.1).length h2),(19,.slice it (ih.2.1).length i0),(107,.bool i4)] L s) ?_ ?_;rintro _ _ ⟨bb,rfl,rfl,aw,ec⟩;refine Db 9 ht V V ?_;let⟨i6,ed,i7⟩:=bs i5;refine FK 9 (tR_ 15 9) (λL s=>∃(be:LH),Jm bb H be [] [(7,.slice am (al.1).length ap),(8,iV ag),(9,.pointer (some ⟨a5,0,none⟩)),(113,.bool i6)] L s) ?_ ?_;rintro _ _ ⟨be,rfl,rfl,a6,ee⟩;refine Db 15 ht V V ?_;let⟨i8,ef,i9⟩:=bs i7;refine FK 0 (tR_ 24 0) (λL s=>∃(eg:LH),Jm be H eg [] [(7,.slice am (al.1).length ap),(8,iV ag),(122,.bool i8)] L s) ?_ ?_;rintro _ _ ⟨eg,rfl,rfl,jg,ji⟩;refine DP AC (Co i9 (λjj jr=>?_) (λjj jt=>?_));refine C 4 V ?_;cases jr;obtain rfl:=bi _ a3;have jy:=elim_inl bg;cases jy;exact IX V (JO.end V AC Fm V V V);refine Ai jt λkb kc ke=>C 4 V (Br kc V V V (C 2 V ?_));cases ke;exact gg kb ((((((((((((((aq.trans a4).trans O).trans I).trans K).trans U).trans Y).trans Z).trans ac).trans ai).trans ay).trans av).trans aw).trans a6).trans jg) ji V a3;intro ej;refine VR (i:=114) V (λbn=>?_) (λbn=>?_);refine have kf:=ip ef bn;AY ht V [16,17,18,19,20,21,22,23] V ?_;cases kf;refine Da ?_ (ej _ _ ⟨be,V,V,(BQ _),ee⟩);exact Ad;refine have ki:=ib ef bn;GA 16 ht (a9.Aj ((((((((((I.trans K).trans U).trans Y).trans Z).trans ac).trans ai).trans ay).trans av).trans aw).trans a6)) C8 B8 V V V (AY ht V [17,18] V (Ai ki λo7 kn ko=>Dd 19 (a2.Aj (((((((((((((aq.trans a4).trans O).trans I).trans K).trans U).trans Y).trans Z).trans ac).trans ai).trans ay).trans av).trans aw).trans a6)) kn ht DB B8 ?_));rintro o8 o9 _ ⟨_,_,rfl,⟨pa,pb,rfl,kp⟩,⟨pc,pd,rfl,ks⟩⟩ kv;refine GA 20 ht kv C8 B8 V V V (Ai ko λpe k0 k1=>EC (i:=21) (m4 (a7.Aj (((((((((((O.trans I).trans K).trans U).trans Y).trans Z).trans ac).trans ai).trans ay).trans av).trans aw).trans a6)) (a8.Aj (((((((((((O.trans I).trans K).trans U).trans Y).trans Z).trans ac).trans ai).trans ay).trans av).trans aw).trans a6)) kp ks k0) AC V V V (A8 Tryz.func17 V) V ee ?_);rintro _ k2 _ k3 ⟨rfl,rfl⟩ k4;refine Bj 22 ht V V (λ_ h s' hs=>CN (h _ _ V)) (Db 23 ht V V ?_);cases k1;refine Da ?_ (ej _ _ ⟨k2,V,V,k3,k4⟩);exact Ad;intro ek;refine VR (i:=108) V (λbo=>?_) (λbo=>?_);refine have k5:=ip ed bo;AY ht V [10,11,12,13,14] V ?_;cases k5;refine Da ?_ (ek _ _ ⟨bb,V,V,(BQ _),ec⟩);exact Ad;refine have k6:=ib ed bo;AY ht V [10,11] V (Ai k6 λpf k7 la=>EC (i:=12) (NQ (h4.Aj (av.trans aw)) (i3.Aj aw) k7) AC V V V M3 V ec ?_);rintro _ ld _ li ⟨rfl,rfl⟩ lm;refine Bj 13 ht V V (λ_ h s' hs=>CN (h _ _ V)) (Db 14 ht V V ?_);cases la;refine Da ?_ (ek _ _ ⟨ld,V,V,li,lm⟩);exact Ad;intro el;refine GM (i:=102) V (λbv=>?_) (λbv=>?_);refine have lq:=ip eb bv;AY ht V [4,5,6,7,8] V ?_;cases lq;refine Da ?_ (el _ _ ⟨dj,V,V,(BQ _),ea⟩);exact Ad;refine have ls:=im eb bv;AY ht V [4,5] V (Ai ls λpg lw ly=>EC (i:=6) (O2 (h3.Aj av) i1 lw) AC V V V N7 V ea ?_);rintro _ l3 _ l4 ⟨rfl,rfl⟩ l5;refine Bj 7 ht V V (λ_ h s' hs=>CN (h _ _ V)) (Db 8 ht V V ?_);cases ly;refine Da ?_ (el _ _ ⟨l3,V,V,l4,l5⟩);exact Ad;intro em;refine FX 78 hQ (λl6 ma=>?_) (λl6 mb=>?_);refine C 5 V ?_;cases ma;exact AF (em _ _ ⟨c7,V,V,(BQ _),c8⟩) V;refine Ai mb λpi mp ms=>C 2 V (Cs (O2 (hk.Aj ((((K.trans U).trans Y).trans Z).trans ac)) (hv.Aj (((U.trans Y).trans Z).trans ac)) mp) V V N7 c8 λmv m0 m1=>As V (λ_ h=>CN (h _ _ V)) (C 1 V ?_));cases ms;exact AF (em _ _ ⟨mv,V,V,m0,m1⟩) V;refine FX 73 hN (λm2 m3=>?_) (λm2 m5=>?_);refine C 4 V ?_;cases m3;exact c9 (BQ _) c5 V;refine C 4 V ?_;cases m5;exact c9 (BQ _) c5 V;refine Hb 68 hK (λnc nl=>?_) (λnc nr=>?_);refine C 4 V ?_;cases nl;exact c6 (BQ _) c4 V;refine C 4 V ?_;cases nr;exact c6 (BQ _) c4 V;refine A3 V ?_;cases gB;have nx:ca=(Sum.inr ()):=(bi _ a3).symm;exact AF (fN _ _ ⟨(),ge,nx,V,V,aq,ci⟩) V
end Pal
namespace Pal
open Go
theorem J6.least{l:List (List DT)}{x:List DT}(h:J6 l){i:Nat}(hi:i<l.length){j:Nat}(hj:j<l.length)(I:i<=j):BL l[j] l[i]=false:=by
 rcases mt i j with q | q;exact List.pairwise_iff_getElem.1 h i j hi hj q
 .have:i=j:=by omega
  subst this;exact KX _
variable{F:Nat}{o:OW}
theorem km(Y:3000<F)(h:NV 40 o):∃r,f22 F o=some r/\f23 F o=some r/\r.1.length<=40:=by
 obtain⟨e,U,Z,ac⟩:=Uk (F:=F) AB h;by_cases he:e=0
 .refine have I:=Z he;have hw:=(NG (F:=F) AB I).2.1;⟨_,js AB I,CV ?_,by have:=Z6 I;simp only;omega⟩;unfold f23;refine AR U (BM (by simp[he]) (AJ (Ur Y I) ?_));rintro r ⟨K,hs⟩;let⟨ag,ai⟩:=gk _ (YW I hw);have O:0<r.length:=by rw[K.length_eq];exact vK.2 (YW I hw)
  refine Bh (m:=0) V O (Ap ?_);rw[aU (K.mem_iff.1 (f5 O)) ag (λz aj=>?_) ai];obtain⟨j,hj,rfl⟩:=uC.1 (K.mem_iff.2 aj);exact hs.least (x:=[]) O hj (tz _)
 .refine⟨([],e),CV ?_,CV ?_,AM⟩;unfold f22;exact AR (ac he) (BJ he (Ap V));unfold f23;exact AR U (BJ he (Ap V))
theorem jl(O:3000<F)(h:NV 40 o):∃r,f24 F o=some r/\f25 F o=some r:=by
 obtain⟨e,I,U,Y⟩:=Uk (F:=F) AB h;by_cases he:e=0;refine have K:=U he;⟨_,kj AB K,CV ?_⟩;unfold f25;refine AR I (BM (by simp[he]) (AJ (Ur O K) ?_));rintro r ⟨Z,_⟩;exact Ap (by rw[Z.length_eq]);refine⟨(0,e),CV ?_,CV ?_⟩;unfold f24;exact AR (Y he) (BJ he (Ap V));unfold f25;exact AR I (BJ he (Ap V))
theorem Lc.ends{P:List DT}{I:List Int}(h:MM P (S0 o) 0 I):Ends P 0 (FG o.1):=by
 obtain⟨⟨C,hC,K⟩,_⟩:=h;have hC:FG o.1=C:=hC;subst hC;exact⟨_,K⟩
theorem Lc.uniq{r q:List DT×List Int×Int}(h:Lc o r)(k:Lc o q):r=q:=by
 rcases h with⟨a1,I,U,Y⟩ | ⟨a1,I⟩<;>rcases k with⟨K,O,Z,ac⟩ | ⟨K,O⟩
 all_goals grind [Lc.ends,dR,TA]
theorem kT(ag:5^16<F)(h:VO o)(hw:(BV o).length=5)(ai:f48 F o=some 0):Au (f28 F o) (Lc o):=by
 have a0:(5:Nat)^16=152587890625:=by decide
 have a1:=h.n5;unfold f28;refine AR ai (BM AM (AJ (Ur AB h) ?_));rintro r ⟨I,hs⟩;have a2:r.length<=300:=by rw[I.length_eq];exact YS h
 have ac:∀{i:Nat}(hi:i<r.length),r[i]∈Fs o:=λhi=>I.mem_iff.1 (f5 hi);refine AJ (S:=λq=>(∃v,q=Sum.inl v/\Lc o v)∨(q=Sum.inr ()/\∀s∈Fs o,¬Ends s 0 (FG o.1))) ?_ ?_
 .refine Cn r.length (λi s=>s=(i:Int)/\∀(j:Nat) (hj:j<r.length),j<i->¬Ends r[j] 0 (FG o.1)) ⟨V,λj _ h=>by omega⟩ AB ?_ ?_
  .rintro i _ hi ⟨rfl,O⟩;unfold Q3;refine BJ AB (Bh (m:=i) V hi (AJ (lE AB h) ?_));intro ps aj;let⟨k1,al,_⟩:=OF h hw (ac hi);have am:PO F o r[i]:=⟨h,AB,λd hd=>(al d hd).vt,ag⟩;obtain⟨q,ap,aq⟩:=X0 am.sx F [] 0 ps _ (Ro _) aj (nA h) (by rw[wo];omega);have av:f78 F ps r[i] []=some q:=ap;refine AR av ?_;rcases aq with⟨U,aw,K,ay⟩ | ⟨U,K⟩;have K:q.1=aw:=K;refine BJ U (Bh (m:=i) V hi (Ap (.inl ⟨_,V,.inl ⟨V,ac hi,by rw[K];exact ay,λs Y az=>?_⟩⟩)));obtain⟨j,hj,rfl⟩:=uC.1 (I.mem_iff.2 Y);rcases mt j i with q | q;exact absurd az (O j hj q);exact hs.least (x:=[]) hi hj q
   .rw [U];refine BM AM (A4 ((i+1:Nat):Int) AM (Ap ⟨V,λj hj a3=>?_⟩))
    grind
  .rintro _ ⟨rfl,O⟩;unfold Q3;refine BM AB (Ap ⟨_,V,.inr ⟨V,λs Y=>?_⟩⟩);obtain⟨j,hj,rfl⟩:=uC.1 (I.mem_iff.2 Y);exact O j hj hj
 .rintro q (⟨v,rfl,Z⟩ | ⟨rfl,Z⟩);exact Ap Z;exact Ap (.inr ⟨V,Z⟩)
theorem lT(K:5^16<F)(h:NV 40 o):∃r,f27 F o=some r/\f28 F o=some r/\r.1.length<=40/\r.2.1.length<=40:=by
 have am:(5:Nat)^16=152587890625:=by decide
 obtain⟨e,O,U,Y⟩:=Uk (F:=F) AB h;by_cases he:e=0;have I:=U he;subst he;have ap:=I.n5;have hw:=(NG (F:=F) AB I).2.1;let⟨r,r1,r2⟩:=lL K I hw;let⟨q,Z,ac⟩:=kT K I hw O;have e:=r2.uniq ac;subst e;refine⟨r,r1,Z,?_⟩;rcases r2 with⟨_,ag,ai,_⟩ | ⟨a1,_⟩;have:=(OF I hw ag).1;obtain⟨⟨C,_,aj⟩,_⟩:=ai;have al:=aj.len (Ro _);rw[wo] at al;exact⟨AB,AB⟩;rw[a1];exact⟨AM,AM⟩;refine⟨([],[],e),CV ?_,CV ?_,AM,AM⟩;unfold f27;exact AR (Y he) (BJ he (Ap V));unfold f28;exact AR O (BJ he (Ap V))
theorem mI(ag:5^16<F)(hs:f18 F=some true)(o:OW)(d:DT)(R1:List Int):f3 F o d R1=some true:=by
 have av:(5:Nat)^16=152587890625:=by decide
 have I:100<F:=by omega
 refine CV ?_;unfold f3;refine AJ (jW I) ?_;intro c U;refine Bw (λ_=>AR hs (Ap V)) (λh=>have Z:=U (by simpa using h);AR (b:=(R1,0,2685821657736338717)) V (AJ (ky (k:=0) (b:=(R1,0,2685821657736338717)) I Z ⟨w7 _,w7 _⟩ AB) ?_));rintro⟨os,b⟩ ⟨⟨a,c,e,ai,U⟩,_⟩;simp only at e;have aj:∀x∈os,NV 40 x:=by
  intro x Y;rw[e] at Y;simp only[ja,sS,t6] at Y;rcases Y with rfl | rfl | rfl;exact Z.up AB;exact ai.up AB;exact U.up AB
 have hlen:os.length=3:=by rw[e];rfl
 clear e;refine AJ (S:=λq=>q=Sum.inr ()) ?_ ?_
 .refine Cn 3 (λi s=>s=(i:Int)) V AB ?_ ?_
  .rintro i _ hi rfl;have ac:i<os.length:=by omega
   have K:=aj _ (f5 ac);have O:ix os (i:Int)=some os[i]:=F6 (m:=i) V (bZ ac);unfold RO
   dsimp only;refine BJ AB (AR O (AR (j9 I K) ?_));obtain⟨r,r1,r2,r3⟩:=km (F:=F) AB K;refine AR r1 (AR O (AR r2 ?_));obtain⟨m,al,am⟩:=jl (F:=F) AB K;exact AR al (AR O (AR am (AR (b:=false) (by rw[d0 (by simp)];simp) (AR (b:=false) (by rw[d0 (by simp)];simp) (AR (b:=false) (by rw[d0 (by simp),Ui I r3];rfl) (BM AM (let⟨x,x1,x2,ap,aq⟩:=lT ag K;AR x1 (AR O (AR x2 (AR (b:=false) (by rw[d0 (by simp),Ui I ap];rfl) (AR (b:=false) (by rw[d0 (by simp),Yb I aq];rfl) (AR (b:=false) (by rw[d0 (by simp),O,Option.bind_some,jI I K];rfl) (BM AM (A4 ((i+1:Nat):Int) AM (Ap V)))))))))))))))
  .rintro _ rfl;unfold RO;exact BM AN (Ap ⟨_,V,V⟩)
 .rintro q rfl;rw[Sum.elim_inr];exact AR hs (Ap V)
end Pal
