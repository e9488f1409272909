/- DebtOrder: a part (6 of 9) of the proof of its row. -/
import Derived.Test.YtmbgkhhhldcpcaaGreatDoorOra
import Derived.Test.YtmbgkhhhldcpcaaGreatDoorOrc
import Derived.Test.YtmbgkhhhldcpcaaGreatDoorOre
import Derived.KernelRfl
set_option linter.all false
set_option maxRecDepth 100000
namespace Pal
def Zb(n:Nat)(w:List Int):Prop:=∀j,n<=j->gN w j=0
variable{w:List Int}{n:Nat}{i:Int}
theorem SJ{B:Int}(hb:BN B w)(K:n<=5)(O:0<=i)(hi:i<n):ix (w.take n) i=some (gN w i.toNat):=by
 have U:=hb.1;have:i.toNat<(w.take n).length:=by rw[tn];omega
 refine H8 (m:=i.toNat) (by omega) ?_;rw[cT this,List.getElem_take,K8 (by omega)]
variable{j:Nat}{v:Int}
theorem Tj{i:Nat}(h:i≠j):gN (w.set i v) j=gN w j:=by
 unfold gN;rw[f7,tb h,f7]
theorem b8{d:DT}(O:0<=d.1)(U:0<=d.2.1)(Y:d.1≠d.2.1):(G0 w d).take n=((w.take n).set d.1.toNat (gN w d.1.toNat - d.2.2)).set d.2.1.toNat (gN w d.2.1.toNat+d.2.2):=by
 unfold G0 Fv;have K:d.2.1.toNat≠d.1.toNat:=by omega
 rw[Tj K,List.take_set,List.take_set,vy _ _ K,Int.sub_eq_add_neg]
theorem Zb.add(h:Zb n w)(hi:i<n)(O:0<=i):Zb n (Fv w i v):=λj K=>by
 unfold Fv
 rw[Tj (by omega)]
 exact h j K
theorem Zb.zero(n:Nat):Zb n (List.replicate 5 0):=λj _=>by
 unfold gN
 rw[f7,tU]
 split<;>rfl
variable{o:OW}
theorem W2(h:VO o):Zb o.1.length (BT o):=by
 have:∀(ds:List DT) (w:List Int),Zb o.1.length w->(∀d∈ds,VD o.1.length d)->Zb o.1.length (ds.foldl G0 w):=by
  intro ds
  induction ds with
  | nil=>exact λw hw _=>hw
  | cons d ds K=>
   intro w hw hd;let⟨v1,v2,O,v4,_⟩:=hd d rX;exact K _ ((hw.add v4 O).add v2 v1) λx U=>hd x (f4 _ U)
 exact this _ _ (Zb.zero _) h.ds
variable{F:Nat}
theorem jh(al:100<F)(h:VO o):f55 F o=some ((BT o).take o.1.length):=by
 have U:=h.n5;have am:=h.d8;refine Dx ?_;unfold f55;refine AY (b:=List.replicate o.1.length 0) ?_ ?_;unfold IN;rw[d6 (by omega)];rfl
 refine AE (S:=λr=>r=(BT o).take o.1.length) ?_ (λr Y=>Am Y);refine CZ o.2.length (λi s=>s.2=(i:Int)/\∃w,s.1=w.take o.1.length/\w=(o.2.take i).foldl G0 (List.replicate 5 0)/\BN (20*i) w) ⟨rfl,List.replicate 5 0,by rw[List.take_replicate,tN U],rfl,rfl,by simp⟩ (by omega) ?_ ?_
 .rintro i ⟨s,c⟩ hi ⟨K,w,O,hw,hb⟩;simp only at K O;subst K;subst O;let⟨v1,v2,Z,v4,ac,v6,ap⟩:=h.ds _ (jK hi);have ag:=hb.add (i:=o.2[i].2.1) (v:=o.2[i].2.2) (V:=10) (by omega) (by omega) (by omega) (by omega);have g2:=ag.add (i:=o.2[i].1) (v:= -o.2[i].2.2) (V:=10) (by omega) (by omega) (by omega) (by omega);have k1:=hb.bd (i:=o.2[i].2.1.toNat) (by omega);have aq:=hb.bd (i:=o.2[i].1.toNat) (by omega);unfold Qr;refine BR (by simp only;omega) (Ba (m:=i) rfl hi ?_);refine AY (SJ hb U (by omega) (by omega)) (AY (SJ hb U (by omega) (by omega)) ?_);refine Ap.E _ rfl (AY (SJ hb U (by omega) (by omega)) ?_);refine Ap.E _ rfl (Ap.E ((i+1:Nat):Int) (by simp) ?_);refine Am ⟨rfl,G0 w o.2[i],(b8 v1 Z ac).symm,?_,g2.M (by omega)⟩;rw[sE,cT hi,th,← hw]
  rfl
 .rintro⟨s,c⟩ ⟨K,w,O,hw,hb⟩;simp only at K O;subst K;unfold Qr;rw[se] at hw;exact BO (by simp) (Am ⟨_,rfl,by simp only;rw[O,hw];rfl⟩)
theorem gM{d:DT}(h:w.length=5):(G0 w d).length=5:=by unfold G0 Fv;rw[rW,rW];exact h
def DF(w:List Int)(A:Nat->Bool):Int:=(if A 0 then gN w 0 else 0)+(if A 1 then gN w 1 else 0)+(if A 2 then gN w 2 else 0)+(if A 3 then gN w 3 else 0)+(if A 4 then gN w 4 else 0)
theorem MS(K:j<5):DF w (λi=>i==j)=gN w j:=by
 unfold DF
 match j,K with
 | 0,_ | 1,_ | 2,_ | 3,_ | 4,_=>simp
variable{p:Nat}
theorem fF{o:Nat}(O:p<5)(U:o<5)(K:o≠p)(X:Int):(if 0=p then -X else if 0=o then X else 0)+(if 1=p then -X else if 1=o then X else 0)+(if 2=p then -X else if 2=o then X else 0)+(if 3=p then -X else if 3=o then X else 0)+(if 4=p then -X else if 4=o then X else 0)=0:=by
 obtain rfl | rfl | rfl | rfl | rfl:p=0∨p=1∨p=2∨p=3∨p=4:=by omega
 all_goals
  obtain rfl | rfl | rfl | rfl | rfl:o=0∨o=1∨o=2∨o=3∨o=4:=by omega
  all_goals first | exact absurd rfl K | (simp;try omega)
theorem RQ{v:List Int}{o:Nat}(O:p<5)(U:o<5)(Y:o≠p)(h:∀j,gN v j=if j=p then 0 else if j=o then gN w o+gN w p else gN w j)(A:Nat->Bool):DF v A=DF w (λj=>if j=p then A o else A j):=by
 have key:∀j,(if A j=true then gN v j else 0)=(if(if j=p then A o else A j)=true then gN w j else 0)+(if j=p then -(if A o=true then gN w p else 0) else if j=o then(if A o=true then gN w p else 0) else 0):=by
  intro j;rw[h];by_cases K:j=p;subst K;rw[d6 rfl,d6 rfl,d6 rfl];cases A o<;>cases A j<;>simp<;>omega;rw[d0 K,d0 K,d0 K];by_cases e2:j=o;subst e2;rw[d6 rfl,d6 rfl];cases A j<;>simp;rw[d0 e2,d0 e2,Int.add_zero]
 have am:=fF O U Y (if A o=true then gN w p else 0)
 have Z:=key 0;have k1:=key 1;have ac:=key 2;have ag:=key 3;have al:=key 4;unfold DF;rw[Z,k1,ac,ag,al];generalize (if(if 0=p then A o else A 0)=true then gN w 0 else 0)=ap
 generalize (if(if 1=p then A o else A 1)=true then gN w 1 else 0)=a1
 generalize (if(if 2=p then A o else A 2)=true then gN w 2 else 0)=aq
 generalize (if(if 3=p then A o else A 3)=true then gN w 3 else 0)=av
 generalize (if(if 4=p then A o else A 4)=true then gN w 4 else 0)=aw
 generalize (if A o=true then gN w p else 0)=X at*
 generalize (if 0=p then -X else if 0=o then X else 0)=ay at*
 generalize (if 1=p then -X else if 1=o then X else 0)=az at*
 generalize (if 2=p then -X else if 2=o then X else 0)=a0 at*
 generalize (if 3=p then -X else if 3=o then X else 0)=a2 at*
 generalize (if 4=p then -X else if 4=o then X else 0)=a3 at*
 omega
def s1(A:Nat->Bool)(d:DT):Int:=(if A d.2.1.toNat then d.2.2 else 0)+(if A d.1.toNat then -d.2.2 else 0)
theorem Pl(hw:w.length=5)(K:0<=i)(O:i<5)(A:Nat->Bool):DF (Fv w i v) A=DF w A+if A i.toNat then v else 0:=by
 unfold DF;rw[GV hw K O,GV hw K O,GV hw K O,GV hw K O,GV hw K O];obtain rfl | rfl | rfl | rfl | rfl:i=0∨i=1∨i=2∨i=3∨i=4:=by omega
 simp only[show Int.toNat 0=0 from rfl];cases A 0<;>simp<;>omega;simp only[show Int.toNat 1=1 from rfl];cases A 1<;>simp<;>omega;simp only[show Int.toNat 2=2 from rfl];cases A 2<;>simp<;>omega;simp only[show Int.toNat 3=3 from rfl];cases A 3<;>simp<;>omega;simp only[show Int.toNat 4=4 from rfl];cases A 4<;>simp<;>omega
theorem RS(A:Nat->Bool):∀(l:List DT) (w:List Int),(∀d∈l,(0<=d.1/\d.1<5)/\0<=d.2.1/\d.2.1<5)->w.length=5->DF (l.foldl G0 w) A=DF w A+(l.map (s1 A)).sum
 | [],w,_,_=>by simp
 | d::l,w,h,hw=>by
  let⟨⟨a1,K⟩,O,U⟩:=h d rX
  rw[tq,RS A l _ (λx Y=>h x (f4 _ Y)) (gM hw),sN,tz]
  unfold G0 s1
  rw[Pl (by unfold Fv;rw[rW];exact hw) a1 K,Pl hw O U]
  omega
theorem VO.YN(h:VO o):∀d∈o.2,(0<=d.1/\d.1<5)/\0<=d.2.1/\d.2.1<5:=λd hd=>by
 have K:=h.n5
 obtain⟨a1,O,U,Y,-⟩:=h.ds d hd;omega
structure PN (n:Nat) (π:List Nat):Prop where
 len:π.length=n
 nd:π.Nodup
 lt:∀x∈π,x<n
variable{π:List Nat}
theorem PN.get(h:PN n π){i:Nat}(hi:i<n):π.getD i 0<n:=by
 rw[f7,cT (by rw[h.len];exact hi)];exact h.lt _ (jK _)
theorem PN.inj(h:PN n π){i:Nat}(hi:i<n)(K:j<n)(e:π.getD i 0=π.getD j 0):i=j:=by
 have O:=h.len;rw[f7,f7,cT (by omega),cT (by omega)] at e;exact(List.getElem_inj h.nd).1 e
theorem Xz{k:Nat}{b:Ir}(aw:100<F)(hb:BG k b)(ay:k<1000)(az:n<=5):Ap (f49 F b (n:Int)) (λr=>∃π,PN n π/\π.Perm (List.range n)/\r.1=(π.map λi:Nat=>(i:Int))/\BG (k+n) r.2):=by
 unfold f49;refine AE (S:=λr=>∃π,PN n π/\π.Perm (List.range n)/\r.1=(π.map λi:Nat=>(i:Int))/\BG (k+n) r.2) ?_ (λr ac=>Am ac);refine CZ n (λi s=>s.2.2.2.2=(i:Int)/\BG (k+i) (s.1,s.2.1,s.2.2.1)/\s.2.2.2.1.Perm ((List.range i).map λi:Nat=>(i:Int))) ⟨V,hb,.refl _⟩ (by omega) ?_ ?_
 .rintro i ⟨l,t,ag,w,z⟩ hi ⟨O,U,K⟩;simp only at O U K;subst O;have al:w.length=i:=by rw[K.length_eq];simp
  unfold Qz;refine BR (by simp only;omega) (AE (La U (by omega) (by simp only;omega)) ?_);rintro⟨j,a0⟩ ⟨am,ap,g2⟩;simp only at am ap g2 ⊢;obtain⟨j,rfl⟩:∃m:Nat,j=(m:Int):=⟨j.toNat,by omega⟩;have a1:j<=i:=by omega
  refine HW (by omega) ?_;have a2:(w++ [(i:Int)]).length=i+1:=by simp[al]
  refine Ba (m:=j) V (by omega) (Ba (m:=i) V (by omega) ?_);refine Ba (m:=j) V (by rw[rW];omega) (Ap.E ((i+1:Nat):Int) (by simp) ?_);refine Am ⟨V,g2,?_⟩;simp only;rw[show Int.toNat (i:Int)=i by omega,show Int.toNat (j:Int)=j by omega];have aq:(w++ [(i:Int)])[i]'(by omega)=(i:Int):=by
   rw[List.getElem_append_right (by omega)];simp
  have av:(((w++ [(i:Int)]).set i ((w++ [(i:Int)])[j]'(by omega))).set j (i:Int)).Perm (w++ [(i:Int)]):=by
   have:=List.set_set_perm (show i<(w++ [(i:Int)]).length by omega) (show j<(w++ [(i:Int)]).length by omega);rw[aq] at this;exact this
  refine av.trans ?_;rw[vV,sB];exact K.append_right _
 .rintro⟨l,t,ag,w,z⟩ ⟨O,U,K⟩;simp only at O U K;subst O;unfold Qz;have Y:(w.map Int.toNat).Perm (List.range n):=by
   have:=K.map Int.toNat;rw[List.map_map] at this;have e:(Int.toNat∘λi:Nat=>(i:Int))=id:=by funext i;simp
   rwa[e,List.map_id] at this
  refine BO (by simp only;omega) (Am ⟨_,V,w.map Int.toNat,?_,Y,?_,U⟩);exact⟨by rw[Y.length_eq];simp,Y.nodup_iff.2 List.nodup_range,λx Z=>rH.1 (Y.mem_iff.1 Z)⟩;simp only;rw[List.map_map];refine(List.map_id _).symm.trans (List.map_congr_left λx Z=>?_);obtain⟨y,-,rfl⟩:=sj.1 (K.mem_iff.1 Z);simp
open Go Go.Conc Go.Proofs
variable {J:Judge Tryz.prog}{E:LH}
def Ov(fu_:Nat)(p0:Bh)(p1:AH):Option (Int):=
 (f70 fu_ p0 ([])).bind λK=>
 if K.2≠0 then(
  some K.2
 ) else(
  (No fu_ K.1 p1).bind λO=>
  (Tu fu_ O).bind λU=>
  some U
 )
variable{a1:As}{c2 fu_:Nat}{p0:Bh}
theorem ky{Y:As}{Z:Nat}{ac:As}{ag:Nat}{p1:AH}(av:GE E)(aw:Ao (rL rI) E a1 c2 (p0.1))(ay:Ao AF E Y Z (p0.2))(az:Ao AF E ac ag (p1)){r:Int}(al:Ov fu_ p0 p1=some r):AZ J 13 [.agg #[.slice a1 (p0.1).length c2,.slice Y (p0.2).length Z],.slice ac (p1).length ag] E [] (λw E' B'=>w=iV r/\B'=[]):=by
 refine Bq Tryz.func13 λQ b4 cs H a0 am=>?_;unfold Ov at al;refine C 2 V (DD a0 λb5 b6 K a2 a3=>?_);refine C 4 V (B6 a2 EK CJ V V ?_);let⟨ca,a4,a5⟩:=bs al;refine BW (Lc (aw.M K) (ay.M K) Ao.nil a4) V V KR a3 ?_;rintro _ cc _ U ⟨ce,ci,co,cp,rfl,rfl,a6,a7⟩ a8;refine C 3 V (B5 a8 HT λct a9=>?_);refine JS.sx 3 a9 DR λbb=>?_;refine Db 3 bb V λcw O be ap=>C 8 V (AX a5 (λbi bn=>?_) (λbi bo=>?_));refine C 5 V ?_;cases bn;exact AW Tryz.func13 V V (am ((K.trans U).trans O) V ⟨V,V⟩ ap);refine C 3 V (B6 be FV DR V V ?_);let⟨cy,bv,bw⟩:=bs bo;refine C 1 V (BW (XY (a6.M O) (a7.M O) (az.M ((K.trans U).trans O)) bv) V V (A4 Tryz.func23 V) ap ?_);rintro c0 c1 _ aq ⟨_,rfl,rfl,bx⟩ bz;let⟨c3,b0,b1⟩:=bs bw;refine Co (Wq (av.M (((K.trans U).trans O).trans aq)) bx b0) V V (A4 Tryz.func22 V) bz λc4 b2 b3=>C 2 V ?_;cases b1;exact AW Tryz.func13 V V (am ((((K.trans U).trans O).trans aq).trans b2) V ⟨V,V⟩ b3)
def Su(fu_:Nat)(p0:Bh)(K:(List Int)×Int):Option (Bm ((List Int)×Int) ((List Int))):=
 if K.2<((p0.2).length:Int) then(
  (ix p0.2 (K.2)).bind λO=>
  (ix K.1 (O.1)).bind λal=>
  (ix K.1 (O.1)).bind λU=>
  (Au (U - O.2.2)).bind λY=>
  (ix K.1 (O.2.1)).bind λZ=>
  (Au (Z+O.2.2)).bind λac=>
  (Au (K.2+1)).bind λag=>
  some (.more (((K.1.set (Int.toNat O.1) Y).set (Int.toNat O.2.1) ac),ag))
 ) else(
  some (.done K.1)
 )
def Ow(fu_:Nat)(p0:Bh):Option ((List Int)):=
 (IN ((p0.1).length:Int) (0:Int)).bind λK=>
 Option.bind (iter (Su fu_ p0) fu_ (K,0)) λO=>
 some O
theorem jP{be:As}{bi:Nat}(e6:Ao (rL rI) E a1 c2 (p0.1))(b5:Ao AF E be bi (p0.2)){r:(List Int)}(bn:Ow fu_ p0=some r):AZ J 19 [.agg #[.slice a1 (p0.1).length c2,.slice be (p0.2).length bi]] E [] (λw E' B'=>∃(bo:As) (bv:Nat) (g0:Seg),w=.slice bo (r).length bv/\B'=g0/\OL 3 rI E' bo bv g0 (r)):=by
 refine Bq Tryz.func19 λQ e7 cs H b6 ca=>?_;unfold Ow at bn;refine C 2 V (DD b6 λbw a5 bx a6 cc=>?_);refine C 4 V (Cc 0 a6 Tryz.underlying28 FI FX ?_);refine JL.ln Tryz.underlying25 V V V ?_;let⟨ce,ci,co⟩:=bs bn;refine JS.make (pp:=rI) ci V V V V V Tryz.underlying22 AK (Dc Tryz.type3) (by decide) CR (by decide) V cc λcp ct cw cy=>?_;let⟨bz,c0,c1⟩:=bs co;refine C 7 V (Bx (λL s=>∃(a7:LH) (aq:As) (av:Nat) (aw:Seg),Jn a5 H a7 [aw] [(3,.slice aq (bz).length av)] L s (OL 3 rI a7 aq av aw (bz))) ?_ ?_);rintro _ _ ⟨a7,aq,av,aw,rfl,rfl,c3,c4,c5⟩;refine C 5 V ?_;cases c1;exact AW Tryz.func19 V V (ca (bx.trans c3) V ⟨aq,av,aw,V,(by first | rfl | simp | (simp[Value.cells])),c5⟩ c4);intro c6;refine JL.block (Ch c0 (λL s Y=>∃(ay:LH) (az:As) (ac:Nat) (a0:Seg),Jn a5 H ay [a0] [(1,.pointer (some ⟨bw,0,none⟩)),(3,.slice az (Y.1).length ac),(4,iV Y.2)] L s (OL 3 rI ay az ac a0 (Y.1))) ⟨a5,(some ⟨cp,0,none⟩),(ce).length,ct,V,V,(Le.refl _),cy,cw⟩ ?_);rintro _ _ Y ⟨ay,az,ac,a0,rfl,rfl,ap,b0,b1⟩ c7 ⟨e8,a8⟩ c8;have b2:=a8;unfold Su at b2;refine C 4 V (Cc 1 (a6.M ap) Tryz.underlying28 HU Kj ?_);refine JL.ln Tryz.underlying26 V V V (C 2 V ?_);refine AX b2 (λc9 dd=>?_) (λc9 dj=>?_);refine C 5 V (Cc 1 (a6.M ap) Tryz.underlying28 HU Kj ?_);let⟨O,ea,eb⟩:=bs dd;refine C 1 V (JS.ix (b5.M (bx.trans ap)) ea Tryz.underlying26 Bv ?_);rintro ff fk _ ⟨_,_,rfl,rfl,⟨_,_,rfl,rfl,rfl⟩⟩ ec;refine B6 ec Ei Bv V V (B5 b0 BU λU ed=>?_);refine JS.sx 1 ed Bv λee=>?_;refine Db 1 ee V λef b3 ag a9=>?_;let⟨fl,eg,ej⟩:=bs eb;refine JL.done ?_;let⟨a2,f77,ek,Z⟩:=WL.of (b1.M b3) eg;obtain⟨rfl,rfl⟩:=ek;refine Gp [23,25] [a2] [] mixed V (AV 0 V V ?_);refine Ey (v:=.pointer (some ⟨U,0,none⟩)) 1 true V V (λρ h s' K=>Hk (a:=⟨U,0,none⟩) 0 0 Tryz.underlying52 AK V V V (h _ _ V)) (K4 (v:=iV O.1) 2 V (by decide+kernel) V V V (λρ h s' K=>Yl.load Bb (h _ _ V) (At.J5 (j:=0) ag K V)) ?_);refine AV 3 V V (Ey (v:=.pointer (some ⟨U,1,none⟩)) 4 true V V (λρ h s' K=>Hk (a:=⟨U,0,none⟩) 0 1 Tryz.underlying52 AK V V V (h _ _ V)) ?_);refine K4 (v:=iV O.2.1) 5 V (by decide+kernel) V V V (λρ h s' K=>Yl.load Bb (h _ _ V) (At.J5 (j:=1) ag K V)) (AV 6 V V ?_);refine Ey (v:=.pointer (some ⟨U,0,none⟩)) 7 true V V (λρ h s' K=>Hk (a:=⟨U,0,none⟩) 0 0 Tryz.underlying52 AK V V V (h _ _ V)) (K4 (v:=iV O.1) 8 V (by decide+kernel) V V V (λρ h s' K=>Yl.load Bb (h _ _ V) (At.J5 (j:=0) ag K V)) ?_);let⟨el,a3,em⟩:=bs ej;obtain⟨_,rfl,eo⟩:=WL.at Z a3;refine JB.ix 9 Z.2 a3 Tryz.underlying22 AK ?_;refine JB.val (v:=iV el) 10 false V (by decide+kernel) V V V (λρ h s' K=>have K:=K V;Yl.load Bb (h _ _ V) (BQ 0 a9 V (by simp[AG]) K (eo 0 _ V))) (Ey (v:=.pointer (some ⟨U,2,none⟩)) 11 true V V (λρ h s' K=>Hk (a:=⟨U,0,none⟩) 0 2 Tryz.underlying52 AK V V V (h _ _ V)) ?_);refine K4 (v:=iV O.2.2) 12 V (by decide+kernel) V V V (λρ h s' K=>Yl.load Bb (h _ _ V) (At.J5 (j:=2) ag K V)) ?_;let⟨al,ep,er⟩:=bs em;refine Ey 13 true V V (λρ h s' K=>EB (h _ _ V) (h _ _ V) ep) (AV 14 V V ?_);refine Ey (v:=.pointer (some ⟨U,1,none⟩)) 15 true V V (λρ h s' K=>Hk (a:=⟨U,0,none⟩) 0 1 Tryz.underlying52 AK V V V (h _ _ V)) (K4 (v:=iV O.2.1) 16 V (by decide+kernel) V V V (λρ h s' K=>Yl.load Bb (h _ _ V) (At.J5 (j:=1) ag K V)) ?_);let⟨eu,a4,ew⟩:=bs er;obtain⟨_,rfl,ex⟩:=WL.at Z a4;refine JB.ix 17 Z.2 a4 Tryz.underlying22 AK ?_;refine JB.val (v:=iV eu) 18 false V (by decide+kernel) V V V (λρ h s' K=>have K:=K V;Yl.load Bb (h _ _ V) (BQ 0 a9 V (by simp[AG]) K (ex 0 _ V))) (Ey (v:=.pointer (some ⟨U,2,none⟩)) 19 true V V (λρ h s' K=>Hk (a:=⟨U,0,none⟩) 0 2 Tryz.underlying52 AK V V V (h _ _ V)) ?_);refine K4 (v:=iV O.2.2) 20 V (by decide+kernel) V V V (λρ h s' K=>Yl.load Bb (h _ _ V) (At.J5 (j:=2) ag K V)) ?_;let⟨am,ey,eA⟩:=bs ew;refine Ey 21 true V V (λρ h s' K=>DX (h _ _ V) (h _ _ V) ey) (JB.ix 22 Z.2 a3 Tryz.underlying22 AK ?_);have b4:=WL.put (x':=al) (ws':=[iV al]) Z Z.2 a3 V;refine JB.sx 23 0 a9 AK trivial b4.2 λeC=>?_;refine JB.ix 24 Z.2 a4 Tryz.underlying22 AK ?_;have bb:=WL.put (x':=am) (ws':=[iV am]) b4.1 Z.2 a4 V;refine JB.sx 25 0 eC AK trivial bb.2 λeN=>?_;refine JB.fin (by decide+kernel) ?_;have e0:=(bb.1).1;have e1:(((Y.1.set (Int.toNat O.1) al).set (Int.toNat O.2.1) am)).length=(Y.1).length:=(bb.1).2;refine EV (L':=[(1,.pointer (some ⟨bw,0,none⟩)),(3,.slice (some ⟨a2,0,none⟩) (((Y.1.set (Int.toNat O.1) al).set (Int.toNat O.2.1) am)).length ac),(4,iV Y.2)]) ⟨V,by rw[e1];rfl,V,trivial⟩ ?_;let⟨e3,e4,e5⟩:=bs eA;refine C 3 V (Bt e4 V V V ?_);refine C 2 V ?_;cases e5;exact Az (c8 _ _ (((Y.1.set (Int.toNat O.1) al).set (Int.toNat O.2.1) am),e3) ⟨ef,(some ⟨a2,0,none⟩),ac,[(a2,.cells (Bc (Bc f77 (Int.toNat (O.1)*1) [iV al]) (Int.toNat (O.2.1)*1) [iV am]) 3 (0,0))],V,V,(ap.trans b3),eN,e0⟩ a8) V;refine JL.exit V ?_;cases dj;obtain rfl:=c7 _ a8;exact Az (c6 _ _ ⟨ay,az,ac,a0,V,V,ap,b0,b1⟩) V
def N3(fu_:Nat)(ac:(List Int)×(Cl))(K:(List Int)×Int×Nat×(List Int)×AH×Int):Option (Bm ((List Int)×Int×Nat×(List Int)×AH×Int) (AH×Cl)):=
 if 0<K.2.2.2.2.2 then(
  (ix ac.1 (K.2.2.2.2.2)).bind λZ=>
  (Au (K.2.2.2.2.2 - 1)).bind λag=>
  (f36 fu_ (K.1,K.2.1,K.2.2.1) ag).bind λY=>
  (ix ac.1 (Y.1)).bind λO=>
  (ix K.2.2.2.1 (Z)).bind λU=>
  (ix K.2.2.2.1 (O)).bind λal=>
  (Au (al+U)).bind λam=>
  (ix K.2.2.2.1 (O)).bind λa0=>
  Option.bind (
   if 0<U then(
    (room K.2.2.2.2.1 (O,Z,U)).bind λap=>
    some ap
   ) else(
    Option.bind (
     if U<0 then(
      (Au (-(U))).bind λaq=>
      (room K.2.2.2.2.1 (Z,O,aq)).bind λav=>
      some av
     ) else(
      some K.2.2.2.2.1
     )
    ) λaw=>
    some aw
   )
  ) λay=>
  (Au (K.2.2.2.2.2 - 1)).bind λaz=>
  some (.more (Y.2.1,Y.2.2.1,Y.2.2.2,(K.2.2.2.1.set (Int.toNat O) am),ay,az))
 ) else(
  some (.done (K.2.2.2.2.1,K.1,K.2.1,K.2.2.1))
 )
def N1(fu_:Nat)(O:AH×Cl)(U:(List Int)×(Cl))(K:AH×Int):Option (Bm (AH×Int) (AH)):=
 if K.2<((O.1).length:Int) then(
  (ix U.1 (K.2)).bind λZ=>
  (ix K.1 (Z)).bind λal=>
  (ix U.1 (K.2)).bind λY=>
  (ix O.1 (K.2)).bind λac=>
  (ix K.1 (Y)).bind λam=>
  (Au (K.2+1)).bind λag=>
  some (.more ((K.1.set (Int.toNat Y) ac),ag))
 ) else(
  some (.done K.1)
 )
def Ol(fu_:Nat)(p0:Cl)(p1:Bh):Option (AH×(Cl)):=
 (Ow fu_ p1).bind λU=>
 (f49 fu_ p0 ((U).length:Int)).bind λK=>
 (Au (((K.1).length:Int) - 1)).bind λZ=>
 Option.bind (iter (N3 fu_ K) fu_ (K.2.1,K.2.2.1,K.2.2.2,U,[],Z)) λO=>
 (IN ((O.1).length:Int) ((0,0,0):Int×Int×Int)).bind λac=>
 (f49 fu_ O.2 ((O.1).length:Int)).bind λY=>
 Option.bind (iter (N1 fu_ O Y) fu_ (ac,0)) λag=>
 some (ag,Y.2)
theorem gV{bk:Nat}{ex:As}{ey:Nat}{eA:As}{eC:Nat}{p0:Cl}{p1:Bh}(g0:Ao rI E a1 c2 (p0.1))(g1:Ao (rL rI) E ex ey (p1.1))(g3:Ao AF E eA eC (p1.2)){r:AH×(Cl)}(eN:Ol fu_ p0 p1=some r):AZ J 6 [.pointer (some ⟨bk,0,none⟩),.agg #[.slice ex (p1.1).length ey,.slice eA (p1.2).length eC]] E [(bk,.cells #[.slice a1 (p0.1).length c2,iV p0.2.1,.int .u64 ((p0.2.2:Nat):Int)] 46 (0,0))] (λw E' B'=>∃(e0:As) (e1:Nat) (e3:As) (e4:Nat),w=.slice e0 (r.1).length e1/\B'=[(bk,.cells #[.slice e3 (r.2.1).length e4,iV r.2.2.1,.int .u64 ((r.2.2.2:Nat):Int)] 46 (0,0))]/\Ao AF E' e0 e1 (r.1)/\Ao rI E' e3 e4 (r.2.1)):=by
 refine Bq Tryz.func6 λQ nf cs H g4 g5=>?_;unfold Ol at eN;refine C 2 V (DD g4 λng nh bv g6 g7=>?_);refine C 4 V (B6 g6 EK CJ V V ?_);let⟨ni,g8,g9⟩:=bs eN;refine BW (jP (g1.M bv) (g3.M bv) g8) V V (A4 Tryz.func19 V) g7 ?_;rintro _ nj ha e5 ⟨hb,hc,_,rfl,rfl,hd⟩ he;refine C 6 V (JL.ln Tryz.underlying22 V V V ?_);let⟨a0,hf,hg⟩:=bs g9;refine Cg 0 (X1 (g0.M (bv.trans e5)) hf) V V (A4 Tryz.func20 V) he V ?_;rintro _ c4 _ e6 ⟨a2,a3,hj,hk,rfl,rfl,e7,hl⟩ hm;refine C 10 V (JL.ln Tryz.underlying22 V V V ?_);let⟨nk,hn,ho⟩:=bs hg;refine BY hn V V V ?_;let⟨am,hp,hq⟩:=bs ho;refine C 2 V (Bx (λL s=>∃(bw:LH) (a8:As) (a9:Nat) (c5:Seg) (c6:As) (c7:Nat),Jn c4 H bw [[(bk,.cells #[.slice c6 (am.2.1).length c7,iV am.2.2.1,.int .u64 ((am.2.2.2:Nat):Int)] 46 (0,0))],c5] [(0,.pointer (some ⟨bk,0,none⟩)),(7,.slice a8 (am.1).length a9)] L s (OL 52 AF bw a8 a9 c5 (am.1)/\Ao rI bw c6 c7 (am.2.1))) ?_ ?_);rintro _ _ ⟨bw,a8,a9,c5,c6,c7,rfl,rfl,hr,hs,ht,hu⟩;refine JL.seq (Ck 1 ht hs V λnl e8 hv hw=>?_);refine C 2 V (JL.ln Tryz.underlying26 V V V ?_);let⟨hx,hy,hz⟩:=bs hq;refine JS.make (pp:=AF) hy V V V V V Tryz.underlying26 Bv (Dc Tryz.type52) (by decide) BU (by decide) ⟨_,_,V,V,⟨_,_,V,V,V⟩⟩ hw λhA hB hC hD=>C 6 V (JL.ln Tryz.underlying26 V V V ?_);let⟨ap,hE,hF⟩:=bs hz;refine Cg 0 (X1 (hu.M e8) hE) V V (A4 Tryz.func20 V) hD V ?_;rintro _ c8 _ c9 ⟨ff,fk,dd,dj,rfl,rfl,hG,hH⟩ hI;let⟨fl,hK,hL⟩:=bs hF;refine C 7 V (Bx (λL s=>∃(ea:LH) (bx:As) (bz:Nat) (eb:Seg),Jn c8 H ea [[(bk,.cells #[.slice dd (ap.2.1).length dj,iV ap.2.2.1,.int .u64 ((ap.2.2.2:Nat):Int)] 46 (0,0))],eb] [(12,.slice bx (fl).length bz)] L s (OL 52 AF ea bx bz eb (fl))) ?_ ?_);rintro _ _ ⟨ea,bx,bz,eb,rfl,rfl,fm,hM,hN⟩;refine C 5 V (Ck 1 hN hM V λnm fo hO hP=>?_);cases hL;exact AW Tryz.func6 V V (g5 (((((((bv.trans e5).trans e6).trans hr).trans e8).trans c9).trans fm).trans fo) V ⟨bx,bz,dd,dj,V,V,hO,(hH.M (fm.trans fo))⟩ hP);intro hQ;refine JL.block (Ch hK (λL s al=>∃(bb:LH) (b0:As) (a4:Nat) (b1:Seg),Jn c8 H bb [[(bk,.cells #[.slice dd (ap.2.1).length dj,iV ap.2.2.1,.int .u64 ((ap.2.2.2:Nat):Int)] 46 (0,0))],b1] [(7,.slice a8 (am.1).length a9),(12,.slice b0 (al.1).length a4),(13,.slice ff (ap.1).length fk),(14,iV al.2)] L s (OL 52 AF bb b0 a4 b1 (al.1))) ⟨c8,(some ⟨hA,0,none⟩),(hx).length,hB,V,V,(Le.refl _),hI,(hC.M c9)⟩ ?_);rintro _ _ al ⟨bb,b0,a4,b1,rfl,rfl,b2,fs,fv⟩ hR ⟨np,ec⟩ hS;have fw:=ec;unfold N1 at fw;refine C 5 V (JL.ln Tryz.underlying26 V V V ?_);refine C 2 V (AX fw (λhT hU=>?_) (λhT hV=>?_));let⟨nq,nr,hW⟩:=bs hU;let⟨ns,hX,hY⟩:=bs hW;refine C 3 V ?_;let⟨b3,f145,h0,b4⟩:=WL.of fv hX;obtain⟨rfl,rfl⟩:=h0;refine Gp [10] [b3] [] mixed V (AV 0 V V ?_);refine AV 1 V V (AV 2 V V ?_);let⟨be,h1,h2⟩:=bs hY;obtain⟨h3,h4,_,rfl,h5,h6⟩:=Ao.YB (P:=Tryz.prog) (hG.M b2) h1;refine JB.val (v:=.pointer (some ⟨h3,h4,none⟩)) 3 true V (by decide+kernel) V V V (λρ h s' a5=>h6 Tryz.underlying22 AK (h _ _ V) (h _ _ V)) (K4 (v:=iV be) 4 V (by decide+kernel) V V V (λρ h s' a5=>Yl.load Bb (h _ _ V) (At.J5 (j:=0) h5 a5 V)) ?_);refine AV 5 V V (AV 6 V V ?_);let⟨O,h7,h8⟩:=bs h2;obtain⟨h9,ia,_,⟨_,_,rfl,rfl,⟨_,_,rfl,rfl,rfl⟩⟩,ih,ii⟩:=Ao.YB (P:=Tryz.prog) (hv.M (c9.trans b2)) h7;refine JB.val (v:=.pointer (some ⟨h9,ia,none⟩)) 7 true V (by decide+kernel) V V V (λρ h s' a5=>ii Tryz.underlying26 Bv (h _ _ V) (h _ _ V)) (K4 (v:=.agg #[iV O.1,iV O.2.1,iV O.2.2]) 8 V (by decide+kernel) V V V (λρ h s' a5=>Jc (vs:=[iV O.1,iV O.2.1,iV O.2.2]) Ei Bv (h _ _ V) (At.Tg ih a5)) ?_);let⟨nt,ed,io⟩:=bs h8;obtain⟨_,⟨_,_,rfl,rfl,⟨_,_,rfl,rfl,rfl⟩⟩,nu⟩:=WL.at b4 ed;refine JB.ix 9 b4.2 ed Tryz.underlying26 Bv ?_;have ee:=WL.put (x':=O) (ws':=[iV O.1,iV O.2.1,iV O.2.2]) b4 b4.2 ed ⟨_,_,V,V,⟨_,_,V,V,V⟩⟩;refine JB.sx 10 1 fs Bv trivial ee.2 λi0=>?_;refine JB.fin (by decide+kernel) ?_;have i1:=(ee.1).1;have i3:((al.1.set (Int.toNat be) O)).length=(al.1).length:=(ee.1).2;refine EV (L':=[(7,.slice a8 (am.1).length a9),(12,.slice (some ⟨b3,0,none⟩) ((al.1.set (Int.toNat be) O)).length a4),(13,.slice ff (ap.1).length fk),(14,iV al.2)]) ⟨V,by rw[i3];rfl,V,V,trivial⟩ ?_;let⟨i4,i5,i6⟩:=bs io;refine C 3 V (Bt i5 V V V ?_);refine C 2 V ?_;cases i6;exact Az (hS _ _ ((al.1.set (Int.toNat be) O),i4) ⟨bb,(some ⟨b3,0,none⟩),a4,[(b3,.cells (Bc f145 (Int.toNat (be)*3) [iV O.1,iV O.2.1,iV O.2.2]) 52 (0,0))],V,V,b2,i0,i1⟩ ec) V;refine JL.exit V ?_;cases hV;obtain rfl:=hR _ ec;exact Az (hQ _ _ ⟨bb,b0,a4,b1,V,V,b2,fs,fv⟩) V;intro i7;refine JL.block (Ch hp (λL s K=>∃(a6:LH) (b5:As) (b6:Nat) (Z:As) (ac:Nat) (ef:Seg) (aq:As) (av:Nat) (bi:Seg),Jn c4 H a6 [[(bk,.cells #[.slice b5 (K.1).length b6,iV K.2.1,.int .u64 ((K.2.2.1:Nat):Int)] 46 (0,0))],ef,bi] [(0,.pointer (some ⟨bk,0,none⟩)),(5,.slice Z (K.2.2.2.1).length ac),(6,.slice a2 (a0.1).length a3),(7,.slice aq (K.2.2.2.2.1).length av),(8,iV K.2.2.2.2.2)] L s (Ao rI a6 b5 b6 (K.1)/\OL 3 rI a6 Z ac ef (K.2.2.2.1)/\OL 52 AF a6 aq av bi (K.2.2.2.2.1))) ⟨c4,hj,hk,hb,hc,ha,none,0,[],V,V,(Le.refl _),hm,hl,(hd.M e6),OL.nil⟩ ?_);rintro _ _ K ⟨a6,b5,b6,Z,ac,ef,aq,av,bi,rfl,rfl,ca,fN,gc,eg,cc⟩ i8 ⟨nx,ej⟩ i9;have ge:=ej;unfold N3 at ge;refine C 6 V (AX ge (λjg jj=>?_) (λjg jp=>?_));refine C 4 V (Fu 12 λaw=>?_);refine A5 aw V [0,1] V ?_;let⟨az,jt,jy⟩:=bs jj;refine Ew 2 (e7.M ca) jt aw Tryz.underlying22 AK ?_;rintro j0 j1 _ rfl kb;refine DC 3 aw 0 kb Bb V V V V (A5 aw V [4,5,6] V ?_);let⟨gg,kc,ke⟩:=bs jy;refine AU 7 aw V V (λρ h s' a5=>EB (h _ _ V) (h _ _ V) kc) ?_;let⟨ag,kf,ki⟩:=bs ke;refine R4 (i:=8) (vs:=[.pointer (some ⟨bk,0,none⟩),iV gg]) 0 (λ_ h=>by cases h) (Lf gc kf) (by decide+kernel) V V V KS V fN V ?_;rintro _ bn _ ay ⟨ek,el,rfl,rfl,km⟩ em;let⟨U,kn,ko⟩:=bs ki;refine Ew 9 (e7.M (ca.trans ay)) kn aw Tryz.underlying22 AK ?_;rintro kp ks _ rfl kv;refine DC 10 aw 0 kv Bb V V V V (DW 11 aw V V ?_);refine De [12] ?_;let⟨a7,k0,k1⟩:=bs ko;refine C 6 V (Ji 1 (eg.M ay) k0 V V V V V V Tryz.underlying22 AK ?_);rintro k2 k3 ny _ k4 rfl k5 nz nA nB nC;refine An (v:=iV a7) V (λρ h=>Yl.load Bb (h _ _ V) (B8 (j:=1) em k4 (k5 0 _ V))) ?_;let⟨gh,k6,k7⟩:=bs k1;refine C 8 V (Ji 1 (eg.M ay) k6 V V V V V V Tryz.underlying22 AK ?_);rintro k9 la nD _ ld rfl li nE nF nG nH;refine An (v:=iV gh) V (λρ h=>Yl.load Bb (h _ _ V) (B8 (j:=1) em ld (li 0 _ V))) ?_;let⟨Y,lm,ls⟩:=bs k7;refine C 1 V (Bt lm V V V ?_);let⟨nI,lw,l3⟩:=bs ls;refine Ji 1 (eg.M ay) lw V V V V V V Tryz.underlying22 AK ?_;rintro ce bo eo _ l4 rfl nJ l5 l6 nK nL;refine JS.store (v:=iV Y) (off:=bo) 1 V V V em V V AK (by simp[Value.cells,C5]) l4 (by have:=l5;simp only[Rp.n,rK,rN,rB,rP,rL] at this;show _+1<=_;omega) λep=>?_;have ma:=l6 (Y) [iV Y] V;have ci:(K.2.2.2.1.set (Int.toNat U) Y).length=(K.2.2.2.1).length:=rW;refine EV (L':=[(0,.pointer (some ⟨bk,0,none⟩)),(5,.slice Z ((K.2.2.2.1.set (Int.toNat U) Y)).length ac),(6,.slice a2 (a0.1).length a3),(7,.slice aq (K.2.2.2.2.1).length av),(8,iV K.2.2.2.2.2),(24,iV K.2.2.2.2.2),(25,.bool (decide (0<K.2.2.2.2.2))),(28,.slice a2 (a0.1).length a3),(29,iV K.2.2.2.2.2),(30,.pointer (some ⟨j0,j1,none⟩)),(31,iV az),(32,.slice a2 (a0.1).length a3),(33,.pointer (some ⟨bk,0,none⟩)),(34,iV K.2.2.2.2.2),(35,iV gg),(36,iV ag.1),(37,.pointer (some ⟨kp,ks,none⟩)),(38,iV U),(9,iV az),(10,iV U),(39,.slice Z ((K.2.2.2.1.set (Int.toNat U) Y)).length ac),(40,iV az),(41,.pointer (some ⟨k2,k3,none⟩)),(42,iV a7),(11,iV a7),(43,.slice Z ((K.2.2.2.1.set (Int.toNat U) Y)).length ac),(44,iV U),(45,.slice Z ((K.2.2.2.1.set (Int.toNat U) Y)).length ac),(46,iV U),(47,.pointer (some ⟨k9,la,none⟩)),(48,iV gh),(49,iV a7),(50,iV Y),(51,.pointer (some ⟨ce,bo,none⟩))]) ⟨V,by rw[ci];rfl,V,V,V,V,V,V,V,V,V,V,V,V,V,V,V,V,V,V,by rw[ci];rfl,V,V,V,V,by rw[ci];rfl,V,by rw[ci];rfl,V,V,V,V,V,V,trivial⟩ ?_;let⟨er,mb,mm⟩:=bs l3;refine C 6 V (Bx (λL s=>∃(co:LH) (cp:As) (ct:Nat) (cw:Seg),Jn bn H co [[(bk,.cells #[.slice ek (ag.2.1).length el,iV ag.2.2.1,.int .u64 ((ag.2.2.2:Nat):Int)] 46 (0,0))],[(ce,.cells (Bc eo bo [iV Y]) 3 (0,0))],cw] [(0,.pointer (some ⟨bk,0,none⟩)),(5,.slice Z ((K.2.2.2.1.set (Int.toNat U) Y)).length ac),(6,.slice a2 (a0.1).length a3),(7,.slice cp (er).length ct),(8,iV K.2.2.2.2.2)] L s (OL 52 AF co cp ct cw (er))) ?_ ?_);rintro _ _ ⟨co,cp,ct,cw,rfl,rfl,eu,mp,ms⟩;let⟨mv,mH,mI⟩:=bs mm;refine C 3 V (BY mH V V V ?_);refine C 2 V ?_;cases mI;exact Az (i9 _ _ (ag.2.1,ag.2.2.1,ag.2.2.2,(K.2.2.2.1.set (Int.toNat U) Y),er,mv) ⟨co,ek,el,Z,ac,[(ce,.cells (Bc eo bo [iV Y]) 3 (0,0))],cp,ct,cw,V,V,((ca.trans ay).trans eu),mp,(km.M eu),(ma.M eu),ms⟩ ej) V;intro gt;refine AX mb (λmJ mK=>?_) (λmJ mL=>?_);refine C 5 V (An (v:=.agg #[iV U,iV az,iV a7]) V (λρ h=>C4 [(0,1),(1,1),(2,1)] h BU Tryz.underlying52 ⟨V,A0 Tryz.type3,V,A0 Tryz.type3,V,A0 Tryz.type3,trivial⟩ V V) ?_);let⟨nM,mM,mO⟩:=bs mK;refine JS.app (pp:=AF) (v:=.agg #[iV U,iV az,iV a7]) (a:=aq) (c:=av) 2 mM V V V V (λ_=>V) V (λ_=>V) V V V Tryz.underlying26 Tryz.underlying26 Tryz.underlying26 Bv (Dc Tryz.type52) BU V (by decide) (by decide) (by decide) (by decide) (cc.M ay) ⟨_,_,V,V,⟨_,_,V,V,V⟩⟩ ep V λnN mP mQ mR mS mT=>C 2 V ?_;cases mO;exact Az (gt _ _ ⟨bn,mP,mQ,mR,V,V,(Le.refl _),mT,mS⟩) V;obtain⟨gE,mU,mV⟩:=bs mL;refine C 5 V (Bx (λL s=>∃(cy:LH) (c0:As) (c1:Nat) (c3:Seg),Jn bn H cy [[(bk,.cells #[.slice ek (ag.2.1).length el,iV ag.2.2.1,.int .u64 ((ag.2.2.2:Nat):Int)] 46 (0,0))],[(ce,.cells (Bc eo bo [iV Y]) 3 (0,0))],c3] [(0,.pointer (some ⟨bk,0,none⟩)),(5,.slice Z ((K.2.2.2.1.set (Int.toNat U) Y)).length ac),(6,.slice a2 (a0.1).length a3),(7,.slice c0 (gE).length c1),(8,iV K.2.2.2.2.2)] L s (OL 52 AF cy c0 c1 c3 (gE))) ?_ ?_);rintro _ _ ⟨cy,c0,c1,c3,rfl,rfl,mW,mX,mY⟩;cases mV;exact Az (gt _ _ ⟨cy,c0,c1,c3,V,V,mW,mX,mY⟩) V;intro gO;refine AX mU (λmZ m0=>?_) (λmZ m1=>?_);let⟨ew,m2,m3⟩:=bs m0;refine C 5 V (An (v:=iV ew) V (λρ h=>H4 (h _ _ V) m2) ?_);refine An (v:=.agg #[iV az,iV U,iV ew]) V (λρ h=>C4 [(0,1),(1,1),(2,1)] h BU Tryz.underlying52 ⟨V,A0 Tryz.type3,V,A0 Tryz.type3,V,A0 Tryz.type3,trivial⟩ V V) ?_;let⟨nO,m4,m5⟩:=bs m3;refine JS.app (pp:=AF) (v:=.agg #[iV az,iV U,iV ew]) (a:=aq) (c:=av) 2 m4 V V V V (λ_=>V) V (λ_=>V) V V V Tryz.underlying26 Tryz.underlying26 Tryz.underlying26 Bv (Dc Tryz.type52) BU V (by decide) (by decide) (by decide) (by decide) (cc.M ay) ⟨_,_,V,V,⟨_,_,V,V,V⟩⟩ ep V λnP m6 m7 m9 na nb=>C 2 V ?_;cases m5;exact Az (gO _ _ ⟨bn,m6,m7,m9,V,V,(Le.refl _),nb,na⟩) V;refine JL.skip ?_;cases m1;exact Az (gO _ _ ⟨bn,aq,av,bi,V,V,(Le.refl _),ep,(cc.M ay)⟩) V;refine JL.exit V (JS.drop 1 fN V λnc=>?_);cases jp;obtain rfl:=i8 _ ej;exact Az (i7 _ _ ⟨a6,aq,av,bi,b5,b6,V,V,ca,nc,cc,gc⟩) V
end Pal
namespace Pal
abbrev z5:List Int:=List.replicate 5 0
def GD(n:Nat)(d:DT):Prop:=0<=d.1/\d.1<(n:Int)/\0<=d.2.1/\d.2.1<(n:Int)/\d.1≠d.2.1/\1<=d.2.2/\d.2.2<=72
variable{F:Nat}
theorem iy{n:Nat}{d:DT}(O:n<1000)(h:GD n d):f86 F d (n:Int) 72=some 0:=by
 obtain⟨U,Y,Z,ac,K,ag,al⟩:=h;show f88 F (n:Int) d 72=some 0;refine Dx ?_;unfold f88;refine Ap.E ((n:Int) - 1) V (AY (Ma _ _ _ _) ?_);refine AY (b:=false) ?_ ?_;rw[d0 (by simp;omega)];refine Dx (Ap.E ((n:Int) - 1) V (AY (Ma _ _ _ _) (Am ?_)));simp;omega
 refine BO (by simp) (BO K ?_);exact AY (Ma _ _ _ _) (BO (by simp;omega) (Am V))
def eD(d:DT):Nat:=(max d.1 d.2.1 - 1).toNat+4*(min d.1 d.2.1).toNat
theorem Tv{n:Nat}{d:DT}(K:n<=5)(h:GD n d):eD d<20:=by
 obtain⟨O,U,Y,Z,_⟩:=h;unfold eD;omega
theorem Ww{n:Nat}{d:DT}(ac:n<=5)(h:GD n d):f106 F d.1 d.2.1=some (2^eD d):=by
 obtain⟨O,U,Y,Z,K,_⟩:=h;obtain⟨x,y,p⟩:=d;simp only at O U Y Z K;have key:∀a b:Fin 5,a≠b->f106 0 ((a.val:Nat):Int) ((b.val:Nat):Int)=some (2^eD (((a.val:Nat):Int),((b.val:Nat):Int),0)):=by decide+kernel
 obtain⟨a,rfl⟩:∃a:Nat,x=(a:Int):=⟨x.toNat,by omega⟩;obtain⟨b,rfl⟩:∃b:Nat,y=(b:Int):=⟨y.toNat,by omega⟩;exact key ⟨a,by omega⟩ ⟨b,by omega⟩ (λe=>K (by rw[Fin.mk.injEq] at e;omega))
theorem Yp{n:Nat}{d d':DT}(Y:n<=5)(h:GD n d)(K:GD n d')(e:eD d=eD d'):(d.1=d'.1/\d.2.1=d'.2.1)∨(d.1=d'.2.1/\d.2.1=d'.1):=by
 obtain⟨Z,ac,ag,al,O,_⟩:=h;obtain⟨am,g2,ap,aq,U,_⟩:=K;unfold eD at e;rcases Int.lt_or_gt_of_ne O with k | k<;>rcases Int.lt_or_gt_of_ne U with k' | k';rw[u1 (by omega),vd (by omega),u1 (by omega),vd (by omega)] at e;omega;rw[u1 (by omega),vd (by omega),ve (by omega),u2 (by omega)] at e;omega;rw[ve (by omega),u2 (by omega),u1 (by omega),vd (by omega)] at e;omega;rw[ve (by omega),u2 (by omega),ve (by omega),u2 (by omega)] at e;omega
def G5(l:List DT):Nat:=l.foldl (λm d=>m|||2^eD d) 0
theorem bB(l:List DT)(d:DT):G5 (l++ [d])=G5 l|||2^eD d:=by unfold G5;rw[th];rfl
theorem VA(l:List DT)(k:Nat):(G5 l).testBit k=true↔k∈l.map eD:=by
 have:∀(l:List DT) (m:Nat),(l.foldl (λm d=>m|||2^eD d) m).testBit k=true↔m.testBit k=true∨k∈l.map eD:=by
  intro l
  induction l with
  | nil=>simp
  | cons d l K=>
   intro m;rw[tq,K,vZ,uF,sN,iC];simp only[sW,tg];constructor;rintro((h | h) | h);exact .inl h;exact .inr (.inl h.symm);exact .inr (.inr h);rintro(h | h | h);exact .inl (.inl h);exact .inl (.inr h.symm);exact .inr h
 rw[G5,this];simp
variable{l:List DT}
theorem WZ{n:Nat}(K:n<=5)(h:∀d∈l,GD n d):G5 l<2^20:=by
 refine Nat.lt_pow_two_of_testBit _ λi hi=>?_;rcases hb:(G5 l).testBit i with _ | _;rfl;let⟨d,hd,e⟩:=sj.1 ((VA l i).1 hb);have:=Tv K (h d hd);omega
theorem fc{n:Nat}{d:DT}(U:n<=5)(Z:∀d∈l,GD n d)(h:GD n d):f136 F (G5 l) d.1 d.2.1=some (decide (eD d∈l.map eD)):=by
 have ac:(2:Nat)^eD d<2^20:=tR (by decide) (Tv U h);have hm:=WZ U Z;refine Dx ?_;unfold f136;refine AY (Ww U h) ?_;refine AY (b:=G5 l&&& 2^eD d) (by unfold Ql;rw[d6 (by omega)]) (Am ?_);have e:(G5 l&&& 2^eD d=0)↔¬(G5 l).testBit (eD d)=true:=by
  constructor
  .intro O K;have:(G5 l&&& 2^eD d).testBit (eD d)=true:=by rw[uG,K,uF];simp
   rw[O,Nat.zero_testBit] at this;cases this
  .intro O;refine uB λi=>?_;rw[uG,uF,Nat.zero_testBit];by_cases hi:eD d=i;subst hi;simp at O;rw[O];rfl;simp[hi]
 rw[VA] at e;apply decide_eq_decide.2;constructor;intro K;exact ud λY=>K (by rw[e.2 Y]);intro K Y;exact e.1 (by omega) K
theorem eQ{n:Nat}{d:DT}(K:n<=5)(O:∀d∈l,GD n d)(h:GD n d):Ou F (G5 l) d.1 d.2.1=some (G5 (l++ [d])):=by
 have U:(2:Nat)^eD d<2^20:=tR (by decide) (Tv K h);have hm:=WZ K O;refine Dx ?_;unfold Ou;refine AY (Ww K h) ?_;refine AY (b:=G5 l|||2^eD d) (by unfold QR;rw[d6 (by omega)]) (Am (bB l d).symm)
theorem BN.pay{B:Int}{w:List Int}{n:Nat}{d:DT}(h:BN B w)(U:n<=5)(g:GD n d):BN (B+144) (Dg w d):=by
 obtain⟨K,Y,O,Z,ac,ag,al⟩:=g;exact((h.add (i:=d.1) (v:=d.2.2) (V:=72) K (by omega) (by omega) (by omega)).add (i:=d.2.1) (v:= -d.2.2) (V:=72) O (by omega) (by omega) (by omega)).M (by omega)
theorem Ut{α:Type} [DecidableEq α] {x:List α}{i:Nat}(hi:i<x.length):(x.take (i+1)).Nodup↔(x.take i).Nodup/\x[i] ∉ x.take i:=by
 rw[sE,cT hi,tj,sR];constructor;rintro⟨K,_,O⟩;exact⟨K,λh=>O _ h _ (bN.2 V) V⟩;rintro⟨K,O⟩;exact⟨K,by simp,λa U b hb e=>O (by rw[bN] at hb;subst hb;subst e;exact U)⟩
theorem WS{o:OW}{x:List DT}(am:100<F)(h:VO o)(Y:∀d∈x,GD o.1.length d)(aw:x.length<=8):
  No F o x=some (if(x.map eD).Nodup then(if x.foldl Dg (BT o)=z5 then none else some 9) else some 4):=by
 have Z:=h.n5;refine Dx ?_;unfold No;refine BO (by omega) ?_;let⟨a1,ap⟩:=L9 am h;refine AY a1 ?_;refine AE (S:=λr=>(r=Sum.inl (some 4)/\¬(x.map eD).Nodup)∨(r=Sum.inr (x.foldl Dg (BT o))/\(x.map eD).Nodup)) ?_ ?_
 .refine CZ x.length (λi s=>s=((x.take i).foldl Dg (BT o),G5 (x.take i),(i:Int))/\((x.map eD).take i).Nodup/\BN (200+144*i) ((x.take i).foldl Dg (BT o))) ⟨V,.nil,ap.M (by omega)⟩ (by omega) ?_ ?_
  .rintro i _ hi ⟨rfl,K,hb⟩;unfold PF;refine BR (by simp only;omega) (Ba (m:=i) V hi ?_);have O:=Y _ (jK hi);have ac:∀d∈x.take i,GD o.1.length d:=λd hd=>Y d (vb hd);refine AY (iy (by omega) O) (BO (by simp) ?_);refine AY (fc Z ac O) ?_;have ag:i<(x.map eD).length:=by simpa using hi
   have al:(x.map eD)[i]=eD x[i]:=by simp
   rw[List.map_take];refine Bw (λhm=>Am ?_) (λhm=>?_);refine .inl ⟨V,λaq=>?_⟩;have:=((Ut ag).1 (aq.sublist (List.take_sublist _ _))).2;rw[al] at this;exact this (tf hm);refine AY (eQ Z ac O) ?_;obtain⟨ay,g2,az,a0,a2,a3,a4⟩:=O;obtain⟨av,_⟩:=Sn (F:=F) (d:=x[i]) hb (by omega) (by omega) (by omega) (by omega) (by omega) (by omega) (by omega);refine AY av (Ap.E ((i+1:Nat):Int) (by simp) ?_);refine Am ⟨?_,(Ut ag).2 ⟨K,by rw[al];simpa using hm⟩,?_⟩;rw[sE,cT hi,tj,th];rfl;rw[sE,cT hi,tj,th];exact(BN.pay hb Z (Y _ (jK hi))).M (by omega)
  .rintro _ ⟨rfl,K,hb⟩;unfold PF;refine BO (by simp only;omega) (Am ⟨_,V,.inr ⟨?_,?_⟩⟩);rw[se];rwa[s4 (by simp)] at K
 .rintro r (⟨rfl,K⟩ | ⟨rfl,K⟩);rw[d0 K];exact Am V;rw[d6 K];simp only[Sum.elim_inr];by_cases U:x.foldl Dg (BT o)=z5;rw[d6 U];exact BO (λh=>h U) (Am V);rw[d0 U];exact BR U (Am V)
def cN(j:Nat)(d:DT):Int:=(if(j:Int)=d.2.1 then d.2.2 else 0)+(if(j:Int)=d.1 then -d.2.2 else 0)
theorem Qe{w:List Int}{d:DT}(h:w.length=5):(Dg w d).length=5:=by unfold Dg Fv;rw[rW,rW];exact h
theorem SA{w:List Int}{d:DT}{n:Nat}(h:w.length=5)(U:n<=5)(g:GD n d)(j:Nat):gN (Dg w d) j=gN w j - cN j d:=by
 obtain⟨K,Y,O,Z,_⟩:=g;unfold Dg cN;rw[GV (by unfold Fv;rw[rW];exact h) O (by omega),GV h K (by omega)];split<;>split<;>omega
theorem NP{n:Nat}(K:n<=5):∀(x:List DT) (w:List Int),w.length=5->(∀d∈x,GD n d)->(x.foldl Dg w).length=5/\∀j,gN (x.foldl Dg w) j=gN w j - (x.map (cN j)).sum
 | [],w,h,_=>⟨h,by simp⟩
 | d::x,w,h,O=>by
  let⟨U,Y⟩:=NP K x (Dg w d) (Qe h) (λe he=>O e (f4 _ he))
  refine⟨U,λj=>?_⟩
  rw[tq,Y,SA h K (O d rX),sN,tz];omega
theorem Yq(j:Nat):gN z5 j=0:=by
 unfold gN;rw[f7,tU];split<;>rfl
theorem cb{l l':List Int}(h:l.Perm l'):l.sum=l'.sum:=by
 induction h with
 | nil=>rfl
 | cons _ _ K=>rw[tz,tz,K]
 | swap a b l=>simp only[tz];omega
 | trans _ _ a b=>exact a.trans b
theorem aX{n:Nat}{w:List Int}{x y:List DT}(K:n<=5)(hw:w.length=5)(O:∀d∈x,GD n d)(U:x.Perm y):x.foldl Dg w=y.foldl Dg w:=by
 let⟨a1,Y⟩:=NP K x w hw O;let⟨Z,ac⟩:=NP K y w hw (λd hd=>O d (U.mem_iff.2 hd));refine R8 a1 Z λj _=>?_;rw[Y,ac,cb (U.map (cN j))]
def S5(w:List Int):Int:=DF w λ_=>true
theorem iX{w:List Int}{d:DT}{n:Nat}(h:w.length=5)(U:n<=5)(g:GD n d):S5 (Dg w d)=S5 w:=by
 obtain⟨K,Y,O,Z,_⟩:=g;unfold S5 Dg;rw[Pl (by unfold Fv;rw[rW];exact h) O (by omega),Pl h K (by omega)];simp;omega
theorem V8(A:Nat->Bool):DF z5 A=0:=by unfold DF;simp[Yq]
theorem Ty{o:OW}(h:VO o)(A:Nat->Bool): -72<=DF (BT o) A/\DF (BT o) A<=72:=by
 have O:=h.d8;have:∀l:List DT,(∀d∈l,VD o.1.length d)-> -(9*(l.length:Int))<=(l.map (s1 A)).sum/\(l.map (s1 A)).sum<=9*l.length:=by
  intro l
  induction l with
  | nil=>simp
  | cons d l K=>
   intro hd;have:=K λe he=>hd e (f4 _ he);let⟨_,_,_,_,_,U,Y⟩:=hd d rX;rw[sN,tz,r4];have: -9<=s1 A d/\s1 A d<=9:=by unfold s1;split<;>split<;>omega
   omega
 have k:=this o.2 h.ds;have e:=RS A o.2 z5 h.YN V;rw[V8] at e;show -72<=DF (o.2.foldl G0 z5) A/\DF (o.2.foldl G0 z5) A<=72;omega
theorem me{o:OW}(h:VO o):S5 (BT o)=0:=by
 have:∀l:List DT,(l.map (s1 λ_=>true)).sum=0:=by
  intro l
  induction l with
  | nil=>rfl
  | cons d l K=>rw[sN,tz,K];unfold s1;simp;omega
 unfold S5 BT;rw[RS _ _ _ h.YN rfl,V8,this];rfl
structure PI (n:Nat) (π:List Nat) (w:List Int) (i:Nat) (m:List Int) (out:List DT):Prop where
 ml:m.length=n
 gd:∀d∈out,GD n d
 YH:∀k,i<k->k<n->gN (out.foldl Dg w) (π.getD k 0)=0
 rest:∀k,k<=i->k<n->gN m (π.getD k 0)=gN (out.foldl Dg w) (π.getD k 0)
 sub:∀A,∃B,DF (out.foldl Dg w) A=DF w B
 pl:∀d∈out,∃k j,i<k/\k<n/\j<k/\((d.1=((π.getD k 0:Nat):Int)/\d.2.1=((π.getD j 0:Nat):Int))∨(d.1=((π.getD j 0:Nat):Int)/\d.2.1=((π.getD k 0:Nat):Int)))
 nd:(out.map eD).Nodup
 ol:out.length+i+1<=n
def Kc(out:List DT)(u v:Nat)(z:Int):List DT:=if 0<z then out++ [((u:Int),(v:Int),z)] else if z<0 then out++ [((v:Int),(u:Int),-z)] else out
theorem PI.step{n:Nat}{π:List Nat}{w:List Int}{i j:Nat}{m:List Int}{out:List DT}(h:PI n π w i m out)(ac:n<=5)(hw:w.length=5)(hb:∀A,-72<=DF w A/\DF w A<=72)(O:PN n π)(bb:0<i)(hi:i<n)(aw:j<i):
  PI n π w (i - 1) (m.set (π.getD j 0) (gN m (π.getD j 0)+gN m (π.getD i 0))) (Kc out (π.getD j 0) (π.getD i 0) (gN m (π.getD i 0))):=by
 have be:=O.get hi;have hu:=O.get (show j<n by omega);have a5:π.getD j 0≠π.getD i 0:=λe=>by have:=O.inj (by omega) hi e;omega
 have ag:=h.rest i (rJ _) hi;have e2:=h.rest j (by omega) (by omega);let⟨ay,bi⟩:=NP ac out w hw h.gd;have bn: -72<=gN m (π.getD i 0)/\gN m (π.getD i 0)<=72:=by
  let⟨B,al⟩:=h.sub λx=>x==π.getD i 0;rw[MS (by omega)] at al;rw[ag,al];exact hb B
 have K:∀d∈Kc out (π.getD j 0) (π.getD i 0) (gN m (π.getD i 0)),GD n d:=by
  intro d hd;unfold Kc at hd;split at hd;rcases kO.1 hd with hd | hd;exact h.gd d hd;rw[bN] at hd;subst hd;unfold GD;simp only;omega;split at hd;rcases kO.1 hd with hd | hd;exact h.gd d hd;rw[bN] at hd;subst hd;unfold GD;simp only;omega;exact h.gd d hd
 have ap:∀k,gN ((Kc out (π.getD j 0) (π.getD i 0) (gN m (π.getD i 0))).foldl Dg w) k=if k=π.getD i 0 then 0 else if k=π.getD j 0 then gN (out.foldl Dg w) (π.getD j 0)+gN (out.foldl Dg w) (π.getD i 0) else gN (out.foldl Dg w) k:=by
  intro k;unfold Kc at K ⊢;rw[← ag];split;rename_i U;rw[d6 U] at K;have g:=K _ (sc _ rX);rw[th,tq,v3,SA ay ac g];unfold cN;simp only;by_cases k1:k=π.getD i 0;subst k1;rw[d6 rfl,d0 (by omega),d6 rfl];omega;rw[d0 (by omega),d0 k1];by_cases Y:k=π.getD j 0;subst Y;rw[d6 rfl,d6 rfl];omega;rw[d0 (by omega),d0 Y];omega
  .split;rename_i aq U;rw[d0 aq,d6 U] at K;have g:=K _ (sc _ rX);rw[th,tq,v3,SA ay ac g];unfold cN;simp only;by_cases k1:k=π.getD i 0;subst k1;rw[d0 (by omega),d6 rfl,d6 rfl];omega;by_cases Y:k=π.getD j 0;subst Y;rw[d6 rfl,d0 (by omega),d0 k1,d6 rfl];omega;rw[d0 (by omega),d0 (by omega),d0 k1,d0 Y];omega
   .have U:gN m (π.getD i 0)=0:=by omega
    by_cases k1:k=π.getD i 0;subst k1;rw[d6 rfl,← ag,U];rw[d0 k1];by_cases Y:k=π.getD j 0;subst Y;rw[d6 rfl,U];omega;rw[d0 Y]
 have a6:∀d:DT,GD n d->(d.1=((π.getD i 0:Nat):Int)/\d.2.1=((π.getD j 0:Nat):Int)∨d.1=((π.getD j 0:Nat):Int)/\d.2.1=((π.getD i 0:Nat):Int))->eD d ∉ out.map eD:=by
  intro d hd az hm;let⟨d',a0,e⟩:=sj.1 hm;let⟨k,l,a7,am,a2,a3⟩:=h.pl d' a0;have a1:π.getD k 0≠π.getD i 0:=λe=>by have:=O.inj am hi e;omega
  have bo:π.getD k 0≠π.getD j 0:=λe=>by have:=O.inj am (by omega) e;omega
  have:=Yp ac (h.gd d' a0) hd e;omega
 refine⟨by rw[rW];exact h.ml,K,λk a8 Z=>?_,λk a8 Z=>?_,λA=>?_,λd hd=>?_,?_,?_⟩;rw[ap];by_cases a4:k=i;subst a4;rw[d6 rfl];rw[d0 (λe=>a4 (O.inj Z hi e)),d0 (λe=>by have:=O.inj Z (show j<n by omega) e;omega)];exact h.YH k (by omega) Z;rw[ap,d0 (λe=>by have:=O.inj Z hi e;omega)];by_cases av:k=j;subst av;rw[d6 rfl,← ag,← e2];unfold gN;rw[f7,tE (by rw[h.ml];exact hu)];rfl;rw[d0 (λe=>av (O.inj Z (by omega) e)),Tj (λe=>av (O.inj Z (by omega) e.symm))];exact h.rest k (by omega) Z
 .let⟨B,al⟩:=h.sub λx=>if x=π.getD i 0 then A (π.getD j 0) else A x
  exact⟨B,(RQ (p:=π.getD i 0) (o:=π.getD j 0) (by omega) (by omega) a5 ap A).trans al⟩
 .unfold Kc at hd;have old:d∈out->_:=λhd=>let ⟨k,l,a7,am,a2,a3⟩:=h.pl d hd;(⟨k,l,by omega,am,a2,a3⟩:∃k j,i - 1<k/\k<n/\j<k/\((d.1=((π.getD k 0:Nat):Int)/\d.2.1=((π.getD j 0:Nat):Int))∨(d.1=((π.getD j 0:Nat):Int)/\d.2.1=((π.getD k 0:Nat):Int))));split at hd;rcases kO.1 hd with hd | hd;exact old hd;rw[bN] at hd;subst hd;exact⟨i,j,by omega,hi,aw,.inr ⟨V,V⟩⟩;split at hd;rcases kO.1 hd with hd | hd;exact old hd;rw[bN] at hd;subst hd;exact⟨i,j,by omega,hi,aw,.inl ⟨V,V⟩⟩;exact old hd
 .have add:∀d:DT,GD n d->(d.1=((π.getD i 0:Nat):Int)/\d.2.1=((π.getD j 0:Nat):Int)∨d.1=((π.getD j 0:Nat):Int)/\d.2.1=((π.getD i 0:Nat):Int))->((out++ [d]).map eD).Nodup:=by
   intro d hd az;rw[sB,sR];refine⟨h.nd,by simp,λa a9 b hb e=>?_⟩;simp at hb;subst hb;subst e;exact a6 d hd az a9
  unfold Kc at K ⊢;split;rename_i U;rw[d6 U] at K;exact add _ (K _ (sc _ rX)) (.inr ⟨V,V⟩);split;rename_i aq U;rw[d0 aq,d6 U] at K;exact add _ (K _ (sc _ rX)) (.inl ⟨V,V⟩);exact h.nd
 .have:=h.ol;unfold Kc;split;rw[rS,s7];omega;split;rw[rS,s7];omega;omega
variable{π:List Nat}
theorem PI.fin{n:Nat}{o:OW}{m:List Int}{out:List DT}(h:PI n π (BT o) 0 m out)(Y:VO o)(al:o.1.length=n)(hw:(BT o).length=5)(am:π.Perm (List.range n)):out.foldl Dg (BT o)=z5:=by
 have ap:n<=5:=al▸Y.n5;have a0:2<=n:=al▸Y.n2;let⟨aw,ay⟩:=NP ap out (BT o) hw h.gd;have a1:π.length=n:=by rw[am.length_eq];simp
 have O:S5 (out.foldl Dg (BT o))=0:=by
  have:∀(l:List DT) (w:List Int),w.length=5->(∀d∈l,GD n d)->S5 (l.foldl Dg w)=S5 w:=by
   intro l
   induction l with
   | nil=>exact λ_ _ _=>rfl
   | cons d l Z=>exact λw hw U=>(Z _ (Qe hw) λe he=>U e (f4 _ he)).trans (iX hw ap (U d rX))
  rw[this _ _ hw h.gd,me Y]
 have K:∀j,j<5->j≠π.getD 0 0->gN (out.foldl Dg (BT o)) j=0:=by
  intro j aq ac;rcases jH j n with av | av;let⟨k,az,e⟩:=List.getElem_of_mem (am.mem_iff.2 (rH.2 av));have ag:π.getD k 0=j:=(Jd az).trans e;have a2:k≠0:=λe=>ac (by rw[e] at ag;exact ag.symm);rw[← ag];exact h.YH k (by omega) (by omega)
  .rw [ay,W2 Y j (by omega)];have:∀l:List DT,(∀d∈l,GD n d)->(l.map (cN j)).sum=0:=by
    intro l
    induction l with
    | nil=>exact λ_=>rfl
    | cons d l Z=>
     intro U;let⟨a3,g2,a4,a5,_⟩:=U d rX;rw[sN,tz,Z λe he=>U e (f4 _ he)];unfold cN;rw[d0 (by omega),d0 (by omega)];rfl
   rw[this out h.gd];rfl
 refine R8 aw V λj aq=>?_;rw[Yq];by_cases ac:j=π.getD 0 0
 .unfold S5 DF at O;simp only[sO] at O;obtain rfl | rfl | rfl | rfl | rfl:j=0∨j=1∨j=2∨j=3∨j=4:=by omega
  rw[K 1 (by omega) (by omega),K 2 (by omega) (by omega),K 3 (by omega) (by omega),K 4 (by omega) (by omega)] at O;omega;rw[K 0 (by omega) (by omega),K 2 (by omega) (by omega),K 3 (by omega) (by omega),K 4 (by omega) (by omega)] at O;omega;rw[K 1 (by omega) (by omega),K 0 (by omega) (by omega),K 3 (by omega) (by omega),K 4 (by omega) (by omega)] at O;omega;rw[K 1 (by omega) (by omega),K 2 (by omega) (by omega),K 0 (by omega) (by omega),K 4 (by omega) (by omega)] at O;omega;rw[K 1 (by omega) (by omega),K 2 (by omega) (by omega),K 3 (by omega) (by omega),K 0 (by omega) (by omega)] at O;omega
 .exact K j aq ac
theorem e9(F:Nat)(o:OW):Ow F o=f55 F o:=by
 have e:Su F o=Qr F o:=by funext s;rfl
 unfold f55 Ow;rw[e]
structure RP (o:OW) (x:List DT):Prop where
 gd:∀d∈x,GD o.1.length d
 nd:(x.map eD).Nodup
 z:x.foldl Dg (BT o)=z5
 len:x.length+1<=o.1.length
theorem RP.perm{o:OW}{x y:List DT}(h:RP o x)(K:x.Perm y)(O:VO o)(hw:(BT o).length=5):RP o y:=
 ⟨λd hd=>h.gd d (K.mem_iff.2 hd),(K.map eD).nodup_iff.1 h.nd,(aX O.n5 hw h.gd K).symm.trans h.z,by rw[← K.length_eq];exact h.len⟩
theorem TB{l:List Int}{j:Nat}(h:j<l.length):ix l (j:Int)=some (gN l j):=by
 refine H8 (m:=j) V ?_;rw[cT h,K8 h]
theorem aB{k:Nat}{o:OW}{b av:Ir}(aw:100<F)(h:VO o)(hb:BG k b)(ay:k<2000)(O:PN o.1.length π)(ag:π.Perm (List.range o.1.length)):
  Ap (Pal.iter (N3 F (π.map (λi:Nat=>(i:Int)),av)) F (b.1,b.2.1,b.2.2,(BT o).take o.1.length,[],((o.1.length - 1:Nat):Int))) (λr=>RP o r.1/\BG (k+5) r.2):=by
 let⟨_,U⟩:=L9 aw h;have az:=h.n5;have a6:=h.n2;refine CZ (o.1.length - 1) (λt s=>∃i,i=o.1.length - 1 - t/\s.2.2.2.2.2=(i:Int)/\BG (k+t) (s.1,s.2.1,s.2.2.1)/\PI o.1.length π (BT o) i s.2.2.2.1 s.2.2.2.2.1) ⟨_,V,by simp,hb,?_⟩ (by omega) ?_ ?_;refine⟨by rw[tn,U.1];omega,λd hd=>absurd hd rO,λk a0 al=>by omega,λk a0 al=>?_,λA=>⟨A,V⟩,λd hd=>absurd hd rO,.nil,by simp;omega⟩;have ay:=O.get al;rw[v3,K8 (by rw[tn,U.1];omega),K8 (by rw[U.1];omega),List.getElem_take]
 .rintro t ⟨l,z,a1,m,out,c⟩ a7 ⟨i,hi,Y,Z,K⟩;simp only at Y Z K;subst Y;have a2:0<i:=by omega
  have ac:i<o.1.length:=by omega
  unfold N3;refine BR (by simp only;omega) ?_;simp only;have a8:π.length=o.1.length:=by rw[ag.length_eq];simp
  have am:∀q,q<o.1.length->ix (π.map λi:Nat=>(i:Int)) (q:Int)=some ((π.getD q 0:Nat):Int):=λq ap=>by
   refine H8 (m:=q) V ?_;rw[sk,cT (by omega),sU,Jd (by omega)]
  refine AY (am i ac) (Ap.E ((i:Int) - 1) V ?_);refine AE (La Z (by omega) (by omega)) ?_;rintro⟨j,a9⟩ ⟨a3,a4,g2⟩;simp only at a3 a4 g2 ⊢;obtain⟨j,rfl⟩:∃q:Nat,j=(q:Int):=⟨j.toNat,by omega⟩;have a5:j<i:=by omega
  refine AY (am j (by omega)) ?_;have bb:=O.get ac;have hu:=O.get (show j<o.1.length by omega);have be:=K.ml;have bd:∀q,q<=i-> -72<=gN m (π.getD q 0)/\gN m (π.getD q 0)<=72:=λq ap=>by
   let⟨B,aq⟩:=K.sub λx=>x==π.getD q 0;have bi:=O.get (show q<o.1.length by omega);rw[MS (by omega)] at aq;rw[K.rest q ap (by omega),aq];exact Ty h B
  have bn:=bd i (rJ _);have bo:=bd j (by omega);refine AY (TB (by omega)) ?_;refine AY (TB (by omega)) ?_;refine Ap.E _ V ?_;refine AY (TB (by omega)) ?_;have bv:=K.ol;refine AY (b:=Kc out (π.getD j 0) (π.getD i 0) (gN m (π.getD i 0))) ?_ ?_;unfold Kc;split;exact Dx (HW (by omega) (Am V));split;exact Dx (AY (Dx (Ap.E _ V (HW (by omega) (Am V)))) (Am V));rfl
  refine Ap.E ((i - 1:Nat):Int) (by omega) (Am ⟨i - 1,by omega,V,g2,?_⟩);simp only[sJ];exact K.step az U.1 (Ty h) O a2 ac a5
 .rintro⟨l,z,a1,m,out,c⟩ ⟨i,hi,Y,Z,K⟩;simp only at Y Z K;subst Y;obtain rfl:i=0:=by omega
  unfold N3;refine BO (by simp) (Am ⟨_,V,⟨K.gd,K.nd,K.fin h V U.1 ag,by have:=K.ol;omega⟩,Z.M (by omega)⟩)
theorem bR{out:List DT}{b am:Ir}(aq:100<F)(av:out.length<=5)(ac:PN out.length π)(ag:π.Perm (List.range out.length)):
  Ap (Pal.iter (N1 F (out,b) (π.map (λi:Nat=>(i:Int)),am)) F (List.replicate out.length (0,0,0),0)) (λr=>out.Perm r):=by
 have aw:π.length=out.length:=by rw[ag.length_eq];simp
 refine CZ out.length (λt s=>s.2=(t:Int)/\s.1.length=out.length/\∀q,q<t->s.1[π.getD q 0]?=out[q]?) ⟨V,by simp,λq K=>by omega⟩ (by omega) ?_ ?_
 .rintro t ⟨l,c⟩ Y ⟨O,Z,U⟩;simp only at O Z U;subst O;unfold N1;refine BR (by simp only;omega) ?_;simp only;have hu:=ac.get Y;have al:ix (π.map λi:Nat=>(i:Int)) (t:Int)=some ((π.getD t 0:Nat):Int):=by
   refine H8 (m:=t) V ?_;rw[sk,cT (by omega),sU,Jd (by omega)]
  refine AY al (Ba (m:=π.getD t 0) V (by omega) ?_);refine AY al (Ba (m:=t) V Y ?_);refine Ba (m:=π.getD t 0) V (by omega) (Ap.E ((t+1:Nat):Int) (by simp) ?_);refine Am ⟨V,by simp[Z],λq K=>?_⟩;simp only[sJ];by_cases e:q=t;subst e;rw[tE (by omega),cT Y];rw[tb (λk=>e (ac.inj Y (by omega) k).symm)];exact U q (by omega)
 .rintro⟨l,c⟩ ⟨O,Z,U⟩;simp only at O Z U;subst O;unfold N1;refine BO (by simp) (Am ⟨_,V,?_⟩);simp only;have ap:out=π.map λp=>l.getD p (0,0,0):=by
   refine s9 λq=>?_;rcases jH q out.length with K | K;have:=ac.get K;rw[← U q K,cT (show π.getD q 0<l.length by omega),sk,cT (show q<π.length by omega),sU,← Jd (l:=π) (d:=0) (by omega),Jd (l:=l) (by omega)];rw[sd K,sd (by simp;omega)]
  have e2:(List.range out.length).map (λp=>l.getD p (0,0,0))=l:=by
   refine s9 λq=>?_;rcases jH q out.length with K | K;rw[sk,ug K,sU,Jd (by omega),cT (by omega)];rw[sd (by simp;omega),sd (by omega)]
  rw[ap];refine(ag.map _).trans ?_;rw[e2]
theorem eG{k:Nat}{o:OW}{b:Ir}(K:100<F)(h:VO o)(hb:BG k b)(aw:k<900):Ap (Ol F b o) (λr=>RP o r.1/\BG (k+20) r.2):=by
 let⟨_,U⟩:=L9 K h;have al:=h.n5;have ay:=h.n2;have hlen:((BT o).take o.1.length).length=o.1.length:=by rw[tn,U.1];omega
 unfold Ol;refine AY ((e9 F o).trans (jh K h)) ?_;rw[hlen];refine AE (Xz K hb (by omega) al) ?_;rintro⟨az,a0⟩ ⟨π,am,Y,rfl,Z⟩;simp only at Z ⊢;have a1:π.length=o.1.length:=by rw[Y.length_eq];simp
 refine Ap.E ((o.1.length - 1:Nat):Int) (by simp;omega) (AE (aB K h Z (by omega) am Y) ?_);rintro⟨out,a2⟩ ⟨O,ac⟩;simp only at O ac ⊢;have a3:=O.len;refine AY (b:=List.replicate out.length (0,0,0)) (by unfold IN;rw[d6 (by omega)];simp) (AE (Xz K ac (by omega) (by omega)) ?_);rintro⟨pl,a4⟩ ⟨a5,ap,aq,rfl,ag⟩;simp only at ag ⊢;refine AE (bR K (by omega) ap aq) ?_;intro l av;exact Am ⟨O.perm av h U.1,ag.M (by omega)⟩
open Go Go.Conc
variable {κ ν:Type}
variable {pk:Rp κ}{pv:Rp ν}{ka va:Bool}{E E' H:LH}
variable {P:Program}{s:St}{t tm te:TypeId}{X:Halt->St->Prop}{bk:Nat}{o:Obj}{xs:List (κ×ν)}{w:Value}{v0:ν}
section
variable [DecidableEq κ]
theorem K0(x y:κ)(v:ν):∀xs:List (κ×ν),Bg (Cm xs x v) y=if y=x then some v else Bg xs y
 | []=>by
  unfold Cm Bg
  by_cases h:y=x;rw[d6 h];simp[h];rw[d0 h];simp[h]
 | z::U=>by
  have Y:=K0 x y v U;unfold Cm;by_cases h:x=z.1;rw[d6 h];by_cases K:y=x;rw[d6 K];unfold Bg;simp[K];rw[d0 K];unfold Bg;rw[tW (by simpa using K),tW (by simpa using λe=>K (e.trans h.symm))]
  .rw [d0 h];by_cases O:y=z.1;rw[d0 (λe=>h (e.symm.trans O))];unfold Bg;simp[O]
   .have:Bg (z::Cm U x v) y=Bg (Cm U x v) y:=by unfold Bg;rw[tW (by simpa using O)]
    rw[this,Y];by_cases K:y=x;rw[d6 K,d6 K];rw[d0 K,d0 K];unfold Bg;rw[tW (by simpa using O)]
open Classical in
variable {k:Value}{x:κ}
end
variable {J:Judge P}{Q:Gs_}{b:Frame}{ds:Ld_}{ops:Ao_}{kk:Li_}{cs:Lf_}{L:Env}{S:List Seg}{fuel:Nat}{listed:Array Bool}
variable {u ty e:TypeId}{p:String}{af:Ae_}{g:On_}{rest:List Nat}{zv:Value}{x0:κ}{z0:ν}
section
variable [DecidableEq κ]
variable {n m:Nat}
variable {d:Option Tmp}{x y z:Operand}{i:Nat}{k:Value}
end
end Pal
namespace Pal
abbrev CF:=Nat->Nat->Int
abbrev PU:=List (List (Int×Int))
def ES(C:CF)(x y c:Nat):CF:=λa b=>C a b - (if a=x/\b=c then 1 else 0)+(if a=y/\b=c then 1 else 0)
def Ha(C:CF)(x y:Nat)(v:Nat->Nat):CF:=λa b=>C a b - (if a=x then(v b:Int) else 0)+(if a=y then(v b:Int) else 0)
def wS(v:Nat->Nat):Nat:=v 1+2*v 2+3*v 3+4*v 4+5*v 5+6*v 6+7*v 7+8*v 8+9*v 9
def OC(v:Nat->Nat)(lo:Nat):Prop:=∀b,v b≠0->lo<=b/\b<=9
def EG(C:CF)(d:DT)(K:CF):Prop:=∃v,OC v 1/\(∀b,(v b:Int)<=C d.1.toNat b)/\(wS v:Int)=d.2.2/\K=Ha C d.1.toNat d.2.1.toNat v
inductive Ic (x y:Nat):Nat->Nat->CF->CF->Prop
 | done {lo:Nat}{C:CF}:Ic x y lo 0 C C
 | step {lo left c:Nat}{C K:CF}:lo<=c->c<=9->c<=left->0<C x c->Ic x y c (left - c) (ES C x y c) K->Ic x y lo left C K
def Ip(v:Nat->Nat)(c:Nat):Nat->Nat:=λb=>if b=c then v b+1 else v b
def IW(v:Nat->Nat)(c:Nat):Nat->Nat:=λb=>if b=c then v b - 1 else v b
variable{v:Nat->Nat}
theorem Wg{c:Nat}(K:1<=c)(O:c<=9):wS (Ip v c)=wS v+c:=by
 have:c=1∨c=2∨c=3∨c=4∨c=5∨c=6∨c=7∨c=8∨c=9:=by omega
 rcases this with rfl | rfl | rfl | rfl | rfl | rfl | rfl | rfl | rfl<;>simp[wS,Ip]<;>omega
theorem Se{c:Nat}(K:1<=c)(O:c<=9)(U:0<v c):wS (IW v c)+c=wS v:=by
 have:c=1∨c=2∨c=3∨c=4∨c=5∨c=6∨c=7∨c=8∨c=9:=by omega
 rcases this with rfl | rfl | rfl | rfl | rfl | rfl | rfl | rfl | rfl<;>simp[wS,IW]<;>omega
variable{c2:Nat}{C:CF}
theorem jl{x y:Nat}(Z:x≠y){lo:Nat}{K:CF}(h:Ic x y lo c2 C K):1<=lo->(∀b,0<=C x b)->∃v,OC v lo/\(∀b,(v b:Int)<=C x b)/\wS v=c2/\K=Ha C x y v:=by
 induction h with
 | @done lo C=>
  intro _ O;exact⟨λ_=>0,λb hb=>absurd V hb,λb=>by simpa using O b,V,by funext a b;simp[Ha]⟩
 | @step lo c2 c C K am ac ap aq _ ag=>
  intro av O;obtain⟨v,v1,v2,al,v4⟩:=ag (by omega) (λb=>by
   have:=O b
   unfold ES
   by_cases e:b=c;subst e;simp[Z];omega
   .simp [e];omega)
  refine⟨Ip v c,λb hb=>?_,λb=>?_,?_,?_⟩;unfold Ip at hb;by_cases e:b=c;omega;rw[d0 e] at hb;have:=v1 b hb;omega;have:=v2 b;unfold ES at this;unfold Ip;by_cases e:b=c;subst e;simp[Z] at this;simp;omega;simp[e] at this;simp[e];omega;rw[Wg (by omega) ac,al];omega;rw[v4];funext a b;unfold Ha ES Ip;by_cases e:b=c;by_cases U:a=x<;>by_cases Y:a=y<;>simp[e,U,Y]<;>omega;by_cases U:a=x<;>by_cases Y:a=y<;>simp[e,U,Y]
theorem Ve(v:Nat->Nat):∀k,(∃b,b<k/\v b≠0)->∃c,c<k/\v c≠0/\∀b,b<c->v b=0
 | 0,⟨b,hb,_⟩=>by omega
 | k+1,⟨b,hb,K⟩=>by
  by_cases h:∃b,b<k/\v b≠0
  .let⟨c,Z,U,Y⟩:=Ve v k h
   exact⟨c,by omega,U,Y⟩
  .have O:∀b,b<k->v b=0:=λb hb=>td λq=>h ⟨b,hb,q⟩;have:b=k:=by
    rcases jH b k with q | q;exact absurd (O b q) K;omega
   subst this;exact⟨b,by omega,K,O⟩
theorem iv{x y:Nat}(ag:x≠y):∀(left lo:Nat) (C:CF) (v:Nat->Nat),1<=lo->OC v lo->(∀b,(v b:Int)<=C x b)->wS v=left->Ic x y lo left C (Ha C x y v):=by
 intro left
 induction left using Nat.strongRecOn with
 | _ left al=>
  intro lo C v ap O Z hw;by_cases ac:left=0
  .subst ac;have K:v=λ_=>0:=by
    funext b;by_cases hb:1<=b/\b<=9
    .unfold wS at hw;have:b=1∨b=2∨b=3∨b=4∨b=5∨b=6∨b=7∨b=8∨b=9:=by omega
     rcases this with rfl | rfl | rfl | rfl | rfl | rfl | rfl | rfl | rfl<;>omega
    .exact td λq=>hb (by have:=O b q;omega)
   have e:Ha C x y v=C:=by subst K;funext a b;simp[Ha]
   rw[e];exact .done
  .have hex:∃b,b<10/\v b≠0:=by
    refine td λq=>ac ?_;have K:∀b,b<10->v b=0:=λb hb=>td λr=>q ⟨b,hb,r⟩;rw[← hw];unfold wS;rw[K 1,K 2,K 3,K 4,K 5,K 6,K 7,K 8,K 9]<;>omega
   let⟨c,c1,c2,c3⟩:=Ve v 10 hex;let⟨s1,s2⟩:=O c c2;have aq:=Se (v:=v) (c:=c) (by omega) s2 (by omega);have am:=al (left - c) (by omega) c (ES C x y c) (IW v c) (by omega) (λb hb=>?_) (λb=>?_) (by omega)
   .refine .step (c:=c) s1 s2 (by omega) (by have:=Z c;omega) ?_;have e:Ha (ES C x y c) x y (IW v c)=Ha C x y v:=by
     funext a b;unfold Ha ES IW;by_cases e:b=c;by_cases U:a=x<;>by_cases Y:a=y<;>simp[e,U,Y]<;>omega;by_cases U:a=x<;>by_cases Y:a=y<;>simp[e,U,Y]
    rw[← e];exact am
   unfold IW at hb;by_cases e:b=c;omega;rw[d0 e] at hb;have:=O b hb;refine⟨?_,this.2⟩;rcases jH b c with q | q;exact absurd (c3 b q) hb;exact q;have:=Z b;unfold ES IW;by_cases e:b=c;subst e;simp[ag];omega;simp[e];exact this
def CM:List Nat->List Nat->CF
 | l::L,o::w,a,b=>CM L w a b+if a=o/\b=l then 1 else 0
 | _,_,_,_=>0
theorem Sv:∀(L w:List Nat) (a b:Nat),0<=CM L w a b
 | [],w,a,b=>by unfold CM;exact vW _
 | _::_,[],a,b=>by unfold CM;exact vW _
 | l::L,o::w,a,b=>by have:=Sv L w a b;unfold CM;split<;>omega
theorem Wi:∀(L w:List Nat) (a b:Nat),CM L w a b<=L.length
 | [],w,a,b=>by unfold CM;simp
 | _::_,[],a,b=>by unfold CM;omega
 | l::L,o::w,a,b=>by have:=Wi L w a b;unfold CM;rw[r4];split<;>omega
theorem Wp{x y c:Nat}:∀{L w:List Nat},L.length=w.length->0<CM L w x c->∃w':List Nat,w'.length=w.length/\(∀o∈w',o∈w∨o=y)/\CM L w'=ES (CM L w) x y c
 | [],[],_,h=>by unfold CM at h;omega
 | [],_::_,h,_=>by simp at h
 | _::_,[],h,_=>by simp at h
 | l::L,o::w,U,h=>by
  by_cases O:x=o/\c=l;refine⟨y::w,V,λz K=>?_,?_⟩;rcases iC.1 K with rfl | K;exact .inr V;exact .inl (f4 _ K);funext a b;obtain⟨rfl,rfl⟩:=O;unfold ES;simp only[CM];by_cases Y:a=x/\b=c<;>by_cases e2:a=y/\b=c<;>simp[Y,e2]<;>omega
  .have Z:0<CM L w x c:=by
    unfold CM at h;rw[d0 O] at h;omega
   obtain⟨w',ac,ag,al⟩:=Wp (L:=L) (w:=w) (by simpa using U) Z;refine⟨o::w',by simp[ac],λz K=>?_,?_⟩;rcases iC.1 K with rfl | K;exact .inl rX;rcases ag z K with q | q;exact .inl (f4 _ q);exact .inr q;funext a b;have:=we (we al a) b;simp only[CM,ES] at this ⊢;omega
theorem Pb(l o:Nat)(L w:List Nat)(a b:Nat):CM (l::L) (o::w) a b=CM L w a b+if a=o/\b=l then 1 else 0:=rfl
def DG(C:CF)(x:Nat):Nat->Nat
 | 0=>0
 | k+1=>(C x (9 - k)).toNat+DG C x k
theorem Sb{C:CF}{x:Nat}(h:∀b,C x b=0):∀k,DG C x k=0
 | 0=>rfl
 | k+1=>by
  show(C x (9 - k)).toNat+DG C x k=0
  rw[h,Sb h k];rfl
theorem Vp(x l o:Nat)(L w:List Nat):∀k,k<=9->DG (CM (l::L) (o::w)) x k=DG (CM L w) x k+if x=o/\l<=9/\9<k+l then 1 else 0
 | 0,_=>by rw[d0 (by omega)];rfl
 | k+1,O=>by
  show(CM (l::L) (o::w) x (9 - k)).toNat+DG (CM (l::L) (o::w)) x k=(CM L w x (9 - k)).toNat+DG (CM L w) x k+_
  have U:=Sv L w x (9 - k)
  rw[Vp x l o L w k (by omega),Pb]
  by_cases e:x=o;by_cases e2:9 - k=l;rw[d6 ⟨e,e2⟩,d0 (by omega),d6 (by omega)];omega;rw[d0 (λq=>e2 q.2)];by_cases K:l<=9/\9<k+l;rw[d6 ⟨e,K⟩,d6 (by omega)];omega;rw[d0 (λq=>K q.2),d0 (by omega)];omega;rw[d0 (λq=>e q.1),d0 (λq=>e q.1),d0 (λq=>e q.1)];omega
theorem W7(x:Nat):∀(L w:List Nat) (k:Nat),k<=9->DG (CM L w) x k<=L.length
 | [],w,k,_=>by rw[Sb (λb=>by unfold CM;rfl)];exact sC _
 | _::_,[],k,_=>by rw[Sb (λb=>by unfold CM;rfl)];exact sC _
 | l::L,o::w,k,K=>by
  have:=W7 x L w k K
  rw[Vp x l o L w k K,r4]
  split<;>omega
theorem kB{x y c:Nat}(O:x≠y)(Y:c<=9)(Z:1<=c)(ac:0<C x c):DG (ES C x y c) x (10 - c)+1=DG C x (10 - c):=by
 have lower:∀k,k<=9 - c->DG (ES C x y c) x k=DG C x k:=by
  intro k
  induction k with
  | zero=>intro _;rfl
  | succ k U=>
   intro K;simp only[DG];rw[U (by omega)];congr 1;unfold ES;rw[d0 (by omega),d0 (by omega)];simp
 obtain⟨k,K⟩:∃k,10 - c=k+1:=⟨9 - c,by omega⟩;rw[K];simp only[DG];rw[lower k (by omega),show 9 - k=c by omega];unfold ES;rw[d6 ⟨rfl,rfl⟩,d0 (λq=>O q.1)];omega
structure SP (n:Nat) (L:List Nat) (p:PU):Prop where
 len:p.length=n
 keys:∀xs∈p,∀K∈xs,0<=K.1/\K.1<10
 own:∃w:List Nat,w.length=L.length/\(∀o∈w,o<n)/\AJ p=CM L w
variable{p:PU}
theorem SP.nn{n:Nat}{L:List Nat}(h:SP n L p)(a b:Nat):0<=AJ p a b:=by obtain⟨w,_,_,e⟩:=h.own;rw[e];exact Sv _ _ _ _
theorem SP.le{n:Nat}{L:List Nat}(h:SP n L p)(a b:Nat):AJ p a b<=L.length:=by obtain⟨w,_,_,e⟩:=h.own;rw[e];exact Wi _ _ _ _
theorem RU{A ν:Type} [DecidableEq A] (x y:A):∀xs:List (A×ν),Bg (Ee xs x) y=if y=x then none else Bg xs y
 | []=>by simp[Ee,Bg]
 | z::xs=>by
  have U:=RU x y xs
  unfold Ee at U ⊢
  by_cases O:x=z.1
  .rw [vQ (by simpa using O),U]
   by_cases K:y=x;rw[d6 K,d6 K];rw[d0 K,d0 K];have:y≠z.1:=λe=>K (e.trans O.symm);simp[Bg,this]
  .rw [vR (by simpa using O)];by_cases K:y=z.1;rw[d0 (λe=>O (e.symm.trans K))];simp[Bg,K]
   .have Y:Bg (z::xs.filter λy=>decide (x≠y.1)) y=Bg (xs.filter λy=>decide (x≠y.1)) y:=by simp[Bg,K]
    have e2:Bg (z::xs) y=Bg xs y:=by simp[Bg,K]
    rw[Y,e2,U]
theorem R7{A ν:Type} [DecidableEq A] {x:A}{v:ν}{K:A×ν}:∀{xs:List (A×ν)},K∈Cm xs x v->K.1=x∨∃u,(K.1,u)∈xs
 | [],h=>by cases bN.1 h;exact .inl rfl
 | y::ys,h=>by
  unfold Cm at h
  split at h;rcases iC.1 h with rfl | h;exact .inl V;exact .inr ⟨K.2,f4 _ h⟩;rcases iC.1 h with rfl | h;exact .inr ⟨K.2,rX⟩;rcases R7 h with h | ⟨u,h⟩;exact .inl h;exact .inr ⟨u,f4 _ h⟩
theorem eO{F n x y c:Nat}{L:List Nat}(be:n<=5)(h:SP n L p)(bi:L.length<=100)(bn:x<n)(bo:y<n)(aw:x≠y)(bv:c<10)(ay:0<AJ p x c):
  ∃q,Nm F p (x:Int) (y:Int) (c:Int)=some q/\SP n L q/\AJ q=ES (AJ p) x y c:=by
 have a1:=h.len;have ac:x<p.length:=by omega
 have al:y<p.length:=by omega
 have ex:p[x]=p.getD x []:=by rw[f7,cT ac];rfl
 have am:p[y]=p.getD y []:=by rw[f7,cT al];rfl
 have a2:=h.le x c;have a3:=h.le y c;have a4:=h.nn y c;unfold AJ at ay a2 a3 a4;have a5:Nm F p (x:Int) (y:Int) (c:Int)=some ((p.set x (if(Bg (Cm p[x] (c:Int) ((Bg p[x] (c:Int)).getD 0 - 1)) (c:Int)).getD 0=0 then Ee (Cm p[x] (c:Int) ((Bg p[x] (c:Int)).getD 0 - 1)) (c:Int) else Cm p[x] (c:Int) ((Bg p[x] (c:Int)).getD 0 - 1))).set y (Cm p[y] (c:Int) ((Bg p[y] (c:Int)).getD 0+1))):=by
  refine Dx ?_;unfold Nm;refine Ba (m:=x) V ac (Ba (m:=y) V al ?_);refine AY (b:=List.replicate p.length (Go.Value.map none)) (by unfold IN;rw[d6 (by omega)];simp) (BO (by omega) ?_);refine L4 _ V (by rw[ex];omega) (by rw[ex];omega) (L4 _ V (by rw[am];omega) (by rw[am];omega) ?_);refine Am ?_;rw[sJ,sJ]
 refine⟨_,a5,?_⟩;have az:AJ ((p.set x (if(Bg (Cm p[x] (c:Int) ((Bg p[x] (c:Int)).getD 0 - 1)) (c:Int)).getD 0=0 then Ee (Cm p[x] (c:Int) ((Bg p[x] (c:Int)).getD 0 - 1)) (c:Int) else Cm p[x] (c:Int) ((Bg p[x] (c:Int)).getD 0 - 1))).set y (Cm p[y] (c:Int) ((Bg p[y] (c:Int)).getD 0+1)))=ES (AJ p) x y c:=by
  funext a b;unfold AJ ES;rw[f7,tp,tp];by_cases ap:y=a;subst ap;rw[d6 rfl,d6 (by rw[rW];omega),d0 (λq:y=x/\b=c=>aw q.1.symm)];simp only[Option.getD_some,am];rw[K0];by_cases K:b=c;subst K;simp;rw[d0 (by omega),d0 (λq=>K q.2)];simp
  .rw [d0 ap];by_cases e2:x=a
   .subst e2;rw[d6 rfl,d6 (by omega),d0 (λq:x=y/\b=c=>aw q.1)];simp only[Option.getD_some,ex];have a0:∀z:Int,Bg (Cm (p.getD x []) (c:Int) z) (c:Int)=some z:=λz=>by rw[K0,d6 rfl]
    rw[a0,Option.getD_some];by_cases K:b=c;subst K;by_cases O:(Bg (p.getD x []) (b:Int)).getD 0 - 1=0;rw[d6 O,RU,d6 rfl,d6 ⟨trivial,rfl⟩,Option.getD_none];omega;rw[d0 O,a0,d6 ⟨trivial,rfl⟩,Option.getD_some];omega
    .have aq:¬((b:Int)=(c:Int)):=by omega
     rw[d0 (λq:True/\b=c=>K q.2)];by_cases O:(Bg (p.getD x []) (c:Int)).getD 0 - 1=0;rw[d6 O,RU,d0 aq,K0,d0 aq];omega;rw[d0 O,K0,d0 aq];omega
   .rw [d0 e2,d0 (λq=>e2 q.1.symm),d0 (λq=>ap q.1.symm)];show(Bg (p[a]?.getD []) (b:Int)).getD 0=(Bg (p.getD a []) (b:Int)).getD 0 - 0+0;rw[f7];omega
 refine⟨⟨by simp[a1],λxs U Y Z=>?_,?_⟩,az⟩
 .have av:∀(ag:List (Int×Int)) (u:Int),ag∈p->Y∈Cm ag (c:Int) u->0<=Y.1/\Y.1<10:=by
   intro ag u a6 a7;rcases R7 a7 with q | ⟨r,q⟩;rw[q];omega;exact h.keys ag a6 (Y.1,r) q
  rcases tK U with U | rfl;rcases tK U with U | rfl;exact h.keys xs U Y Z;split at Z;exact av _ _ (jK ac) (tQ.1 Z).1;exact av _ _ (jK ac) Z;exact av _ _ (jK al) Z
 .obtain⟨w,w1,w2,w3⟩:=h.own;have a8:0<CM L w x c:=by rw[← w3];exact ay
  let⟨w',v1,v2,a9⟩:=Wp (y:=y) w1.symm a8;refine⟨w',by omega,λo bb=>?_,by rw[az,a9,w3]⟩;rcases v2 o bb with q | q;exact w2 o q;omega
theorem cm(C:CF)(x:Nat){c:Nat}(O:c<=9):DG C x (10 - c)=(C x c).toNat+DG C x (10 - (c+1)):=by
 obtain⟨k,K⟩:∃k,10 - c=k+1:=⟨9 - c,by omega⟩;rw[K,show 10 - (c+1)=k by omega];show(C x (9 - k)).toNat+DG C x k=_;rw[show 9 - k=c by omega]
structure VT (n:Nat) (d:DT):Prop where
 x0:0<=d.1
 x1:d.1<(n:Int)
 y0:0<=d.2.1
 y1:d.2.1<(n:Int)
 ne:d.1≠d.2.1
 p0:1<=d.2.2
 p1:d.2.2<=72
variable{d:DT}
theorem fG{F n:Nat}{L:List Nat}(a6:n<=5)(ca:L.length<=15)(hd:VT n d)(cc:100<F):∀(N left lo:Nat) (p:PU) (acc:List PU),left<N->left<=100->1<=lo->SP n L p->acc.length+2^DG (AJ p) d.1.toNat (10 - lo)<=2^20->
  Ap (Oa N F p (lo:Int) (left:Int) acc d) (λout=>∃new,out=acc++new/\new.length<=2^DG (AJ p) d.1.toNat (10 - lo)/\(∀q∈new,SP n L q/\Ic d.1.toNat d.2.1.toNat lo left (AJ p) (AJ q))/\∀O,Ic d.1.toNat d.2.1.toNat lo left (AJ p) O->∃q∈new,AJ q=O):=by
 obtain⟨x0,x1,y0,y1,ce,-,-⟩:=hd;intro N
 induction N with
 | zero=>intro left lo p acc h;omega
 | succ N a7=>
  intro left lo p acc ci co cp ag hb;have hlen:=ag.len;have a8:d.1.toNat<n:=by omega
  have a9:d.2.1.toNat<n:=by omega
  have a2:d.1.toNat≠d.2.1.toNat:=by omega
  have bb:1<=2^DG (AJ p) d.1.toNat (10 - lo):=uS;unfold Oa Qt;refine Bw (λbe=>?_) (λbe=>?_)
  .obtain rfl:left=0:=by omega
   refine HW (by omega) (Am ⟨[p],V,bb,λq aq=>?_,λO h=>?_⟩);cases bN.1 aq;exact⟨ag,.done⟩
   .refine⟨p,bN.2 V,?_⟩;cases h with
    | done=>rfl
    | step a1 bi a3=>omega
  .refine AE (S:=λout=>∃new,out=acc++new/\new.length<=2^DG (AJ p) d.1.toNat (10 - lo)/\(∀q∈new,SP n L q/\Ic d.1.toNat d.2.1.toNat lo left (AJ p) (AJ q))/\∀O,Ic d.1.toNat d.2.1.toNat lo left (AJ p) O->∃q∈new,AJ q=O) ?_ (λr bn=>Am bn);refine CZ (min left 9+1 - lo) (λi s=>s.2=((lo+i:Nat):Int)/\∃new,s.1=acc++new/\new.length+2^DG (AJ p) d.1.toNat (10 - (lo+i))<=2^DG (AJ p) d.1.toNat (10 - lo)/\(∀q∈new,SP n L q/\Ic d.1.toNat d.2.1.toNat lo left (AJ p) (AJ q))/\∀K,lo<=K->K<lo+i->K<=left->0<AJ p d.1.toNat K->∀O,Ic d.1.toNat d.2.1.toNat K (left - K) (ES (AJ p) d.1.toNat d.2.1.toNat K) O->∃q∈new,AJ q=O)
    ⟨rfl,[],by simp,by simp,(λq aq=>by cases aq),(λK ct cw=>by omega)⟩ (by omega) ?_ ?_
   .rintro i ⟨s,z⟩ hi ⟨Z,new,ac,av,al,am⟩;simp only at Z ac;subst Z;subst ac;have aw:lo+i<=9:=by omega
    have bo:lo+i<=left:=by omega
    have cy:=cm (AJ p) d.1.toNat aw;have c0:=ag.nn d.1.toNat (lo+i);unfold PX;refine BR (by simp only;omega) ?_;have bv:ix p d.1=some (p.getD d.1.toNat []):=H8 (m:=d.1.toNat) (by omega) (by rw[f7,cT (by omega)];rfl);refine AY bv ?_;refine AE (S:=λs=>∃Y,s=acc++Y/\Y.length+2^DG (AJ p) d.1.toNat (10 - (lo+i+1))<=2^DG (AJ p) d.1.toNat (10 - lo)/\(∀q∈Y,SP n L q/\Ic d.1.toNat d.2.1.toNat lo left (AJ p) (AJ q))/\∀K,lo<=K->K<lo+i+1->K<=left->0<AJ p d.1.toNat K->∀O,Ic d.1.toNat d.2.1.toNat K (left - K) (ES (AJ p) d.1.toNat d.2.1.toNat K) O->∃q∈Y,AJ q=O) ?_ ?_
    .refine Bw (λU=>?_) (λU=>?_)
     .have U:0<AJ p d.1.toNat (lo+i):=U;refine Ap.E ((left - (lo+i):Nat):Int) (by simp only;omega) ?_;obtain⟨q,a4,bw,ay⟩:=eO (F:=F) a6 ag (by omega) a8 a9 a2 (show lo+i<10 by omega) U;rw[show((d.1.toNat:Nat):Int)=d.1 by omega,show((d.2.1.toNat:Nat):Int)=d.2.1 by omega] at a4;refine AY a4 ?_;have hm:=kB a2 aw (by omega) U;rw[← ay] at hm;have c1:2^DG (AJ p) d.1.toNat (10 - (lo+i))=2*2^DG (AJ q) d.1.toNat (10 - (lo+i)):=by
       rw[← hm,vc];omega
      have hle:2^DG (AJ p) d.1.toNat (10 - (lo+i+1))<=2^DG (AJ q) d.1.toNat (10 - (lo+i)):=sn (by omega) (by omega);refine AE (a7 (left - (lo+i)) (lo+i) q (acc++new) (by omega) (by omega) (by omega) bw ?_) ?_;rw[rS];omega
      .rintro r ⟨n2,rfl,c2,bx,bz⟩;refine Am ⟨new++n2,by rw[sb],?_,λu hu=>?_,λK k1 b0 az ap O hC=>?_⟩;rw[rS];omega;rcases kO.1 hu with hu | hu;exact al u hu;let⟨b1,a5⟩:=bx u hu;rw[ay] at a5;exact⟨b1,.step (by omega) aw bo U a5⟩
       .rcases jH K (lo+i) with a0 | b2;let⟨u,hu,e⟩:=am K k1 a0 az ap O hC;exact⟨u,sD _ hu,e⟩
        .obtain rfl:K=lo+i:=by omega
         rw[← ay] at hC;let⟨u,hu,e⟩:=bz O hC;exact⟨u,sc _ hu,e⟩
     .have U:¬0<AJ p d.1.toNat (lo+i):=U;refine Am ⟨new,V,?_,al,λK k1 b0 az ap=>?_⟩;rw[show DG (AJ p) d.1.toNat (10 - (lo+i+1))=DG (AJ p) d.1.toNat (10 - (lo+i)) by omega];exact av
      .rcases jH K (lo+i) with a0 | b2;exact am K k1 a0 az ap
       .obtain rfl:K=lo+i:=by omega
        exact absurd ap U
    .rintro s ⟨Y,rfl,b3,e2,b4⟩;exact Ap.E ((lo+(i+1):Nat):Int) (by simp only;omega) (Am ⟨V,Y,V,b3,e2,b4⟩)
   .rintro⟨s,z⟩ ⟨Z,new,ac,av,al,am⟩;simp only at Z ac;subst Z;subst ac;unfold PX;refine BO (by simp only;omega) (Am ⟨_,V,new,V,sG (Nat.le_add_right _ _) av,al,λO h=>?_⟩);cases h with
    | done=>omega
    | step a1 bi a3 b5 b6=>exact am _ a1 (by omega) a3 b5 _ b6
theorem WQ{F n:Nat}{L:List Nat}(ac:n<=5)(U:L.length<=15)(hd:VT n d)(ag:100<F)(O:SP n L p):
  Ap (f186 F p d) (λl=>l.length<=2^15/\(∀q∈l,SP n L q/\EG (AJ p) d (AJ q))/\∀K,EG (AJ p) d K->∃q∈l,AJ q=K):=by
 have Y:d.1.toNat≠d.2.1.toNat:=by have:=hd.ne;have:=hd.x0;have:=hd.y0;omega
 have al:DG (AJ p) d.1.toNat (10 - 1)<=15:=by
  obtain⟨w,_,_,e⟩:=O.own;rw[e];exact sG (W7 _ L w 9 (by omega)) U
 have Z:2^DG (AJ p) d.1.toNat (10 - 1)<=2^15:=sn (by omega) al;have a0:=hd.p0;have a2:=hd.p1;unfold f186;refine AE (S:=λl=>l.length<=2^15/\(∀q∈l,SP n L q/\EG (AJ p) d (AJ q))/\∀K,EG (AJ p) d K->∃q∈l,AJ q=K) ?_ (λr am=>Am am);unfold TM;have:=fG ac U hd ag F d.2.2.toNat 1 p [] (by omega) (by omega) (by omega) O (by rw[u6,tx];exact sG Z (by decide));rw[show((d.2.2.toNat:Nat):Int)=d.2.2 by omega] at this;refine Ap.M this ?_;rintro out ⟨new,rfl,ap,aq,av⟩;refine⟨sG ap Z,λq aw=>?_,λK hC=>?_⟩;let⟨a1,ay⟩:=aq q aw;let⟨v,v1,v2,az,v4⟩:=jl Y ay (rJ 1) (O.nn _);exact⟨a1,v,v1,v2,by omega,v4⟩;obtain⟨v,v1,v2,az,rfl⟩:=hC;exact av _ (iv Y _ 1 _ v (rJ 1) v1 v2 (by omega))
def Fo(C:CF):List (List Int):=(List.range 5).map λa=>(List.range 10).map λb=>C a b
theorem Wo{F n:Nat}{L:List Nat}(U:n<=5)(O:SP n L p):f187 F p=some (Fo (AJ p)):=by
 have h:p.length<=5/\(p.all λxs=>xs.all λK=>decide (0<=K.1/\K.1<10))=true:=⟨by rw[O.len];exact U,lH.2 λxs Y=>lH.2 λK Z=>sL (O.keys xs Y K Z)⟩;unfold f187;rw[d6 h];rfl
theorem SP.out{n:Nat}{L:List Nat}(Y:n<=5)(O:SP n L p){a b:Nat}(h:5<=a∨10<=b):AJ p a b=0:=by
 unfold AJ;rcases h with h | h;rw[f7,sd (by rw[O.len];omega)];rfl
 .have:Bg (p.getD a []) (b:Int)=none:=by
   unfold Bg;rw[Option.map_eq_none_iff,t7];intro U K;rcases jH a p.length with q | q;rw[f7,cT q] at K;have:=O.keys _ (jK q) U K;simp;omega;rw[f7,sd q] at K;cases K
  rw[this];rfl
theorem Xm{n:Nat}{L:List Nat}{q:PU}(U:n<=5)(Z:SP n L p)(ac:SP n L q)(h:Fo (AJ p)=Fo (AJ q)):AJ p=AJ q:=by
 funext a b;by_cases Y:5<=a∨10<=b;rw[Z.out U Y,ac.out U Y];have K:=r5 (λl=>l[a]?) h;simp only[Fo,sk] at K;rw[ug (by omega)] at K;have O:=r5 (λl=>l[b]?) (f6 K);simp only[sk] at O;rw[ug (by omega)] at O;exact f6 O
def On(n:Nat):Nat->List (List Nat)
 | 0=>[[]]
 | k+1=>(List.range n).flatMap λx=>(On n k).map (x::·)
theorem V1{n:Nat}:∀{l:List Nat},(∀x∈l,x<n)->l∈On n l.length
 | [],_=>bN.2 rfl
 | x::l,h=>vL.2 ⟨x,rH.2 (h x rX),sj.2 ⟨l,V1 λy K=>h y (f4 _ K),rfl⟩⟩
theorem Vz(n:Nat):∀k,(On n k).length=n^k
 | 0=>rfl
 | k+1=>by
  unfold On
  rw[List.length_flatMap]
  simp only[ts,Vz n k]
  rw[List.map_const',List.sum_replicate_nat,uu,vc,Nat.mul_comm]
theorem MK{α:Type} [DecidableEq α]:∀{l m:List α},l.Nodup->(∀x∈l,x∈m)->l.length<=m.length
 | [],m,_,_=>sC _
 | x::l,m,h,K=>by
  let⟨Y,Z⟩:=un.1 h
  have O:=K x rX
  have:=MK (l:=l) (m:=m.erase x) Z λy U=>(List.mem_erase_of_ne (λe=>by subst e;exact Y U)).2 (K y (f4 _ U))
  rw[List.length_erase_of_mem O] at this
  have:=List.length_pos_of_mem O
  rw[r4];omega
theorem mE{n:Nat}{L:List Nat}{l:List PU}(K:n<=5)(O:L.length<=15)(U:∀q∈l,SP n L q)(hd:(l.map λq=>Fo (AJ q)).Nodup):l.length<=5^15:=by
 have:=MK (m:=(On n L.length).map λw=>Fo (CM L w)) hd λx Y=>by
  obtain⟨q,Z,rfl⟩:=sj.1 Y;let⟨w,w1,w2,w3⟩:=(U q Z).own;refine sj.2 ⟨w,?_,by rw[w3]⟩;have:=V1 w2
  rwa[w1] at this
 rw[ts,ts,Vz] at this;refine sG this (sG (Nat.pow_le_pow_left K _) (sn (by omega) O))
inductive FR (P:List DT):Nat->CF->List Int->Prop
 | nil {dn:Nat}{C:CF}:dn=2^P.length - 1->FR P dn C []
 | cons {dn i:Nat}{C K:CF}{d:DT}{π:List Int}:P[i]?=some d->dn.testBit i=false->EG C d K->FR P (dn|||2^i) K π->FR P dn C ((i:Int)::π)
def Ends(P:List DT)(dn:Nat)(C:CF):Prop:=∃π,FR P dn C π
theorem Ends.cases{P:List DT}(h:Ends P c2 C)(O:c2≠2^P.length - 1):∃(i:Nat) (d:DT) (K:CF),P[i]?=some d/\c2.testBit i=false/\EG C d K/\Ends P (c2|||2^i) K:=by
 obtain⟨π,h⟩:=h;cases h with
 | nil e=>exact absurd e O
 | cons a b c d=>exact⟨_,_,_,a,b,c,_,d⟩
theorem P0{i:Nat}(h:i<8):Jz (i:Int)=some (2^i):=by
 unfold Jz;rw[d6 (by omega),sJ,Nat.one_shiftLeft,Nat.mod_eq_of_lt];exact sS (tR (by omega) h) (by decide)
theorem Vk{i:Nat}(h:i<8):Nb c2 (i:Int)=some (c2>>>i):=by unfold Nb;rw[d6 (by omega),sJ]
theorem PE{m:Nat}(h:m<=8):2^m<=256:=sG (sn (by omega) h) (by decide)
theorem Vv{i m:Nat}(hm:m<=8)(h:c2<2^m):Ng (c2>>>i) 1=some (if c2.testBit i=true then 1 else 0):=by
 have K:c2>>>i<=c2:=by rw[uc];exact Nat.div_le_self _ _
 have O:=PE hm;unfold Ng;rw[d6 (by omega),Nat.and_one_is_mod];congr 1;rw[Nat.testBit_eq_decide_div_mod_eq,uc];have:=uU (c2/2^i) (show 0<2 by omega);by_cases q:c2/2^i%2=1;rw[d6 (sL q),q];rw[d0 (by simpa using q)];omega
theorem Px{i m:Nat}(hm:m<=8)(h:c2<2^m)(hi:i<m):Mn c2 (2^i)=some (c2|||2^i)/\c2|||2^i<2^m:=by
 have O:=PE hm;have K:2^i<2^m:=tR (by omega) hi;exact⟨d6 (by omega),ub h K⟩
theorem Xt(dn i j:Nat):(dn|||2^i).testBit j=(dn.testBit j || decide (i=j)):=by rw[vZ,uF]
theorem TE{i:Nat}(h:c2.testBit i=false):c2<c2|||2^i:=by
 rcases Nat.lt_or_eq_of_le (show c2<=c2|||2^i from Nat.left_le_or) with q | q;exact q;have:=Xt c2 i i;rw[← q,h] at this;simp at this
variable {F:Nat}{L:List Nat}{P:List DT}
variable{sm:List ((Nat×List (List Int))×Bool)}{now:List PU}
section
variable {n:Nat}
structure SX (F n:Nat) (L:List Nat) (P:List DT):Prop where
 n5:n<=5
 Oz:L.length<=15
 m8:P.length<=8
 ok:∀d∈P,VT n d
 fuel:5^16<F
def F3(n:Nat)(L:List Nat)(P:List DT)(sm:List ((Nat×List (List Int))×Bool)):Prop:=∀dn X b,Bg sm (dn,X)=some b->∀p,SP n L p->Fo (AJ p)=X->(b=true↔Ends P dn (AJ p))
theorem SX.QY(h:SX F n L P):100<F:=Nat.lt_trans (by decide) h.fuel
theorem et(ag:SX F n L P):∀(N dn:Nat) (p:PU) (sm:List ((Nat×List (List Int))×Bool)),256<N+dn->dn<2^P.length->SP n L p->F3 n L P sm->
  Ap (N4 N F p dn P sm) (λr=>(r.1=true↔Ends P dn (AJ p))/\F3 n L P r.2):=by
 have hm:=ag.m8;have co:=PE hm;have bw:=ag.QY;intro N
 induction N with
 | zero=>intro dn p sm Y al;omega
 | succ N bx=>
  intro dn p sm cp a7 ay az;unfold N4 Qj;have bz:Jz ((P.length:Nat):Int)=some (2^P.length%256):=by
   unfold Jz;rw[d6 (by omega),sJ,Nat.one_shiftLeft]
  refine AY bz ?_;have ct:1<=2^P.length:=uS;have b0:(2^P.length%256+(256 - 1))%256=2^P.length - 1:=by omega
  rw[b0];refine Bw (λa0=>Am ⟨uY V ⟨[],.nil (by omega)⟩,az⟩) (λa0=>?_);have a0:dn≠2^P.length - 1:=λe=>a0 (by rw[e]);refine AY (Wo ag.n5 ay) (Bw (λY=>?_) (λY=>?_));let⟨b,hb⟩:=uH.1 Y;rw[hb];exact Am ⟨az _ _ _ hb p ay V,az⟩
  .have b1:Bg sm (dn,Fo (AJ p))=none:=by
    cases q:Bg sm (dn,Fo (AJ p)) with
    | none=>rfl
    | some b=>rw[q] at Y;exact absurd rfl Y
   rw[b1];refine AE (S:=λr=>(r.1=true↔Ends P dn (AJ p))/\F3 n L P r.2) ?_ ?_
   .refine CZ P.length (λi s=>s.2.2=(i:Int)/\F3 n L P s.1/\(s.2.1=true->Ends P dn (AJ p))/\(s.2.1=false->∀j<i,∀d O,P[j]?=some d->dn.testBit j=false->EG (AJ p) d O->¬Ends P (dn|||2^j) O)) ⟨V,az,(λh=>by cases h),(λ_ j a8=>by omega)⟩ (by omega) ?_ ?_
    .rintro i ⟨a9,is,z⟩ hi ⟨Z,am,aq,ap⟩;simp only at Z am aq ap;subst Z;have hd:=ag.ok _ (jK hi);let⟨b2,b3⟩:=Px hm a7 hi;unfold Pz;refine BR (by simp only;omega) (AE (S:=λr=>F3 n L P r.2/\(r.1=true->Ends P dn (AJ p))/\(r.1=false->∀j<i+1,∀d O,P[j]?=some d->dn.testBit j=false->EG (AJ p) d O->¬Ends P (dn|||2^j) O)) ?_ ?_)
     .refine Ba (m:=i) V hi (AY (Vk (by omega)) ?_);refine AY (Vv hm a7) (AE (S:=λc=>c=(dn.testBit i || is)) ?_ ?_)
      .cases hb:dn.testBit i with
       | true=>exact BR (by simp) (Am rfl)
       | false=>exact BO (by simp) (Am rfl)
      rintro c rfl;refine Bw (λK=>Am ⟨am,aq,λbb j a8 d O Y al a1=>?_⟩) (λK=>?_)
      .rw [show is=false from bb,Bool.or_false] at K;rcases jH j i with a2 | b4;exact ap bb j a2 d O Y al a1
       .obtain rfl:j=i:=by omega
        rw[K] at al;cases al
      .have hb:dn.testBit i=false:=by cases q:dn.testBit i;rfl;rw[q] at K;exact absurd V K
       have a3:is=false:=by cases q:is;rfl;rw[q,Bool.or_true] at K;exact absurd V K
       subst a3;refine AE (WQ (d:=P[i]) ag.n5 ag.Oz hd bw ay) ?_;rintro l ⟨l1,l2,b5⟩;refine AE (S:=λr=>F3 n L P r.2/\(r.1=true->Ends P dn (AJ p))/\(r.1=false->∀q∈l,¬Ends P (dn|||2^i) (AJ q))) ?_ ?_
       .have b6:l.length<F:=tJ l1 (Nat.lt_trans (by decide) ag.fuel);have cw:(2:Nat)^15=32768:=by decide
        refine CZ l.length (λk s=>s.2.2=(k:Int)/\F3 n L P s.1/\(s.2.1=true->Ends P dn (AJ p))/\(s.2.1=false->∀q∈l.take k,¬Ends P (dn|||2^i) (AJ q))) ⟨V,am,(λh=>by cases h),(λ_ q a4=>by cases a4)⟩ b6 ?_ ?_;rintro k ⟨be,bi,z⟩ a5 ⟨Z,t1,t2,t3⟩;simp only at Z t1 t2 t3;subst Z;let⟨sq,pv⟩:=l2 _ (jK a5);unfold P7;refine BR (by simp only;omega) (Ba (m:=k) V a5 ?_);refine AE (S:=λr=>F3 n L P r.2/\(r.1=true->Ends P dn (AJ p))/\(r.1=false->∀q∈l.take (k+1),¬Ends P (dn|||2^i) (AJ q))) ?_ ?_;refine Bw (λK=>Am ⟨t1,(λ_=>t2 K),(λh=>by cases h)⟩) (λK=>?_);have K:bi=false:=ut.2 K;refine AY (P0 (by omega)) (AY b2 ?_);have cy:=TE hb;refine AE (bx (dn|||2^i) l[k] be (by omega) b3 sq t1) ?_;rintro⟨b,a6⟩ ⟨U,ac⟩;refine Am ⟨ac,λh=>?_,λh=>?_⟩;let⟨π,ca⟩:=U.1 h;exact⟨_,.cons (cT hi) hb pv ca⟩;refine Jg a5 (t3 K) λhe=>?_;have:=U.2 he;simp only at h this;rw[this] at h;cases h;rintro⟨b,a6⟩ ⟨U,ac,av⟩;exact Ap.E ((k+1:Nat):Int) (by simp) (Am ⟨V,U,ac,av⟩);rintro⟨be,bi,z⟩ ⟨Z,t1,t2,t3⟩;simp only at Z t1 t2 t3;subst Z;unfold P7;rw[se] at t3;exact BO (by simp only;omega) (Am ⟨_,V,t1,t2,t3⟩)
       .rintro⟨b,a6⟩ ⟨U,ac,av⟩;refine Am ⟨U,ac,λh j a8 d O Y al a1=>?_⟩;rcases jH j i with a2 | b4;exact ap V j a2 d O Y al a1
        .obtain rfl:j=i:=by omega
         rw[cT hi] at Y;cases Y;let⟨q,a4,e⟩:=b5 O a1;rw[← e];exact av h q a4
     .rintro⟨b,a6⟩ ⟨U,ac,av⟩;exact Ap.E ((i+1:Nat):Int) (by simp) (Am ⟨V,U,ac,av⟩)
    .rintro⟨a9,is,z⟩ ⟨Z,am,aq,ap⟩;simp only at Z am aq ap;subst Z;unfold Pz;refine BO (by simp only;omega) (Am ⟨_,V,⟨aq,λhe=>?_⟩,am⟩);simp only;cases a3:is with
     | true=>rfl
     | false=>
      let⟨i,d,O,bn,e2,cc,ce⟩:=he.cases a0;exact absurd ce (ap a3 i (d7.1 bn).1 d O bn e2 cc)
   .rintro⟨b,a9⟩ ⟨U,ac⟩;refine Am ⟨U,λc0 X b' aw ci bo bv=>?_⟩;simp only at aw U;rw[K0] at aw;split at aw;rename_i e;cases aw;cases e;rw[Xm ag.n5 bo ay bv];exact U;exact ac _ _ _ aw ci bo bv
theorem fM(U:SX F n L P)(ac:c2<2^P.length){l:List PU}(av:l.length<=5^15)(ag:∀q∈l,SP n L q)(al:F3 n L P sm):
  Ap (f160 F l c2 P sm) (λr=>F3 n L P r.2/\r.1.length<=l.length/\(∀q∈r.1,q∈l/\Ends P c2 (AJ q))/\∀q∈l,Ends P c2 (AJ q)->q∈r.1):=by
 have aw:(5:Nat)^15=30517578125:=by decide
 have ay:(5:Nat)^16=152587890625:=by decide
 have az:=U.fuel;unfold f160;refine AE (S:=λr=>F3 n L P r.2/\r.1.length<=l.length/\(∀q∈r.1,q∈l/\Ends P c2 (AJ q))/\∀q∈l,Ends P c2 (AJ q)->q∈r.1) ?_ (λr am=>Am am);refine CZ l.length (λi s=>s.2.2=(i:Int)/\F3 n L P s.1/\s.2.1.length<=i/\(∀q∈s.2.1,q∈l/\Ends P c2 (AJ q))/\∀q∈l.take i,Ends P c2 (AJ q)->q∈s.2.1) ⟨V,al,sC _,(λq K=>by cases K),(λq K=>by cases K)⟩ (by omega) ?_ ?_;rintro i ⟨Y,out,z⟩ hi ⟨O,t1,t2,t3,t4⟩;simp only at O t1 t2 t3 t4;subst O;unfold Qd;refine BR (by simp only;omega) (Ba (m:=i) V hi ?_);refine AE (et U F c2 l[i] Y (by omega) ac (ag _ (jK hi)) t1) ?_;rintro⟨b,a0⟩ ⟨Z,ap⟩;refine AE (S:=λs=>s.length<=i+1/\(∀q∈s,q∈l/\Ends P c2 (AJ q))/\∀q∈l.take (i+1),Ends P c2 (AJ q)->q∈s) ?_ ?_;refine Bw (λhb=>?_) (λhb=>Am ⟨by simp only;omega,t3,?_⟩);refine HW (by simp only;omega) (Am ⟨by show(out++ [_]).length<=i+1;rw[rS,s7];omega,λq K=>?_,?_⟩);rcases kO.1 K with K | K;exact t3 q K;cases bN.1 K;exact⟨jK hi,Z.1 hb⟩;exact Jg hi (λq K he=>sD _ (t4 q K he)) λ_=>sc _ (bN.2 V);exact Jg hi t4 λhe=>absurd (Z.2 he) hb;rintro s ⟨v1,v2,aq⟩;exact Ap.E ((i+1:Nat):Int) (by simp) (Am ⟨V,ap,v1,v2,aq⟩);rintro⟨Y,out,z⟩ ⟨O,t1,t2,t3,t4⟩;simp only at O t1 t2 t3 t4;subst O;unfold Qd;rw[se] at t4;exact BO (by simp only;omega) (Am ⟨_,V,t1,t2,t3,t4⟩)
theorem gD(Y:SX F n L P)(hd:VT n d)(a2:now.length<=5^15)(ac:∀q∈now,SP n L q):
  Ap (f161 F now d) (λout=>out.length<=5^15/\(∀q∈out,SP n L q/\∃p∈now,EG (AJ p) d (AJ q))/\∀p∈now,∀K,EG (AJ p) d K->∃q∈out,AJ q=K):=by
 have a3:(5:Nat)^15=30517578125:=by decide
 have a4:(5:Nat)^16=152587890625:=by decide
 have a5:(2:Nat)^15=32768:=by decide
 have a6:=Y.fuel;have am:∀{out:List PU},(∀q∈out,SP n L q)->(out.map λq=>Fo (AJ q)).Nodup->out.length<=5^15:=λa b=>mE Y.n5 Y.Oz a b;unfold f161;refine AE (S:=λr=>r.1.length<=5^15/\(∀q∈r.1,SP n L q/\∃p∈now,EG (AJ p) d (AJ q))/\∀p∈now,∀K,EG (AJ p) d K->∃q∈r.1,AJ q=K) ?_ (λr ap=>Am ap);refine CZ now.length (λi s=>s.2.2=(i:Int)/\(∀X,(Bg s.1 X).getD false=true↔X∈s.2.1.map λq=>Fo (AJ q))/\(s.2.1.map λq=>Fo (AJ q)).Nodup/\(∀q∈s.2.1,SP n L q/\∃p∈now,EG (AJ p) d (AJ q))/\∀p∈now.take i,∀K,EG (AJ p) d K->∃q∈s.2.1,AJ q=K)
  ⟨rfl,(λX=>by simp[Bg]),vr,(λq O=>by cases O),(λp ac=>by cases ac)⟩ (by omega) ?_ ?_
 .rintro i ⟨met,out,z⟩ hi ⟨U,t1,t2,t3,t4⟩;simp only at U t1 t2 t3 t4;subst U;unfold Ps;refine BR (by simp only;omega) (Ba (m:=i) V hi ?_);refine AE (WQ Y.n5 Y.Oz hd Y.QY (ac _ (jK hi))) ?_;rintro l ⟨l1,l2,aq⟩;refine AE (S:=λs=>(∀X,(Bg s.2 X).getD false=true↔X∈s.1.map λq=>Fo (AJ q))/\(s.1.map λq=>Fo (AJ q)).Nodup/\(∀q∈s.1,SP n L q/\∃p∈now,EG (AJ p) d (AJ q))/\(∀p∈now.take i,∀K,EG (AJ p) d K->∃q∈s.1,AJ q=K)/\∀q∈l,∃u∈s.1,AJ u=AJ q) ?_ ?_
  .refine CZ l.length (λk s=>s.2.2=(k:Int)/\(∀X,(Bg s.1 X).getD false=true↔X∈s.2.1.map λq=>Fo (AJ q))/\(s.2.1.map λq=>Fo (AJ q)).Nodup/\(∀q∈s.2.1,SP n L q/\∃p∈now,EG (AJ p) d (AJ q))/\(∀p∈now.take i,∀K,EG (AJ p) d K->∃q∈s.2.1,AJ q=K)/\∀q∈l.take k,∃u∈s.2.1,AJ u=AJ q)
    ⟨rfl,t1,t2,t3,t4,(λq O=>by cases O)⟩ (by omega) ?_ ?_
   .rintro k ⟨met,out,z⟩ Z ⟨U,t1,t2,t3,t4,t5⟩;simp only at U t1 t2 t3 t4 t5;subst U;let⟨sq,pv⟩:=l2 _ (jK Z);have a7:=am (λq O=>(t3 q O).1) t2;unfold Qa;refine BR (by simp only;omega) (Ba (m:=k) V Z ?_);refine AY (Wo Y.n5 sq) (AE (S:=λs=>(∀X,(Bg s.2 X).getD false=true↔X∈s.1.map λq=>Fo (AJ q))/\(s.1.map λq=>Fo (AJ q)).Nodup/\(∀q∈s.1,SP n L q/\∃p∈now,EG (AJ p) d (AJ q))/\(∀p∈now.take i,∀K,EG (AJ p) d K->∃q∈s.1,AJ q=K)/\∀q∈l.take (k+1),∃u∈s.1,AJ u=AJ q) ?_ ?_)
    .refine Bw (λhb=>?_) (λhb=>Am ⟨t1,t2,t3,t4,?_⟩)
     .have av:Fo (AJ l[k]) ∉ out.map λq=>Fo (AJ q):=λh=>by
       rw[(t1 _).2 h] at hb;cases hb
      refine HW (by simp only;omega) (Am ⟨λX=>?_,?_,λq O=>?_,λp aw K hC=>?_,?_⟩);simp only;rw[K0,sB,kO,uT,bN,← t1];by_cases e:X=Fo (AJ l[k]);rw[d6 e];simp[e];rw[d0 e];simp[e];simp only;rw[sB,sR];refine⟨t2,by simp,λa ay b hb e=>?_⟩;cases bN.1 hb;subst e;exact av ay;rcases kO.1 O with O | O;exact t3 q O;cases bN.1 O;exact⟨sq,_,jK hi,pv⟩;let⟨q,O,e⟩:=t4 p aw K hC;exact⟨q,sD _ O,e⟩;refine Jg Z (λq O=>?_) ⟨_,sc _ (bN.2 V),V⟩;let⟨u,hu,e⟩:=t5 q O;exact⟨u,sD _ hu,e⟩
     .refine Jg Z t5 ?_;have az:Fo (AJ l[k])∈out.map λq=>Fo (AJ q):=(t1 _).1 (by
       cases q:(Bg met (Fo (AJ l[k]))).getD false with
       | true=>rfl
       | false=>rw[q] at hb;exact absurd rfl hb)
      let⟨u,hu,e⟩:=sj.1 az;exact⟨u,hu,Xm Y.n5 (t3 u hu).1 sq e⟩
    .rintro⟨a0,a1⟩ ⟨v1,v2,ag,v4,al⟩;exact Ap.E ((k+1:Nat):Int) (by simp) (Am ⟨V,v1,v2,ag,v4,al⟩)
   .rintro⟨met,out,z⟩ ⟨U,t1,t2,t3,t4,t5⟩;simp only at U t1 t2 t3 t4 t5;subst U;unfold Qa;rw[se] at t5;exact BO (by simp only;omega) (Am ⟨_,V,t1,t2,t3,t4,t5⟩)
  .rintro⟨a0,a1⟩ ⟨v1,v2,ag,v4,al⟩;refine Ap.E ((i+1:Nat):Int) (by simp) (Am ⟨V,v1,v2,ag,Jg hi v4 λK hC=>?_⟩);let⟨q,O,e⟩:=aq K hC;let⟨u,hu,e2⟩:=al q O;exact⟨u,hu,e2.trans e⟩
 .rintro⟨met,out,z⟩ ⟨U,t1,t2,t3,t4⟩;simp only at U t1 t2 t3 t4;subst U;unfold Ps;rw[se] at t4;exact BO (by simp only;omega) (Am ⟨_,V,am (λq O=>(t3 q O).1) t2,t3,t4⟩)
end
def KD:List Int->List Int->Bool
 | x::xs,y::ys=>if x=y then KD xs ys else decide (x<y)
 | _,_=>false
theorem R3(x y:Int)(xs ys:List Int):KD (x::xs) (y::ys)=if x=y then KD xs ys else decide (x<y):=rfl
theorem U1:∀{a b:List Int},a.length=b.length->KD a b=false->KD b a=false->a=b
 | [],[],_,_,_=>rfl
 | x::xs,y::ys,U,K,O=>by
  rw[R3] at K O
  by_cases e:x=y
  .subst e
   rw[d6 rfl] at K O;rw[U1 (by simpa using U) K O]
  .rw [d0 e] at K;rw[d0 (λq=>e q.symm)] at O;have K:=vu K;have O:=vu O;omega
def Io(P:List DT)(S:CF->Prop)(dn:Nat)(π:List Int):Prop:=(∃C,S C/\FR P dn C π)/\∀C K,S C->FR P dn C K->KD K π=false
def Mv(P:List DT)(S:CF->Prop)(dn i:Nat)(π:List Int):Prop:=(∃C,S C/\FR P dn C ((i:Int)::π))/\∀C K,S C->FR P dn C ((i:Int)::K)->KD K π=false
def Fl(P:List DT)(S:CF->Prop)(dn i:Nat):Prop:=∃C d K,S C/\P[i]?=some d/\dn.testBit i=false/\EG C d K/\Ends P (dn|||2^i) K
variable{π:List Int}
theorem FR.YK{P:List DT}{S:CF->Prop}(hC:S C)(h:FR P c2 C π)(U:c2≠2^P.length - 1):∃(i:Nat) (d:DT) (K:CF) (O:List Int),π=(i:Int)::O/\P[i]?=some d/\c2.testBit i=false/\EG C d K/\FR P (c2|||2^i) K O/\Fl P S c2 i:=by
 cases h with
 | nil e=>exact absurd e U
 | @cons _ i _ K d O a b c e=>exact⟨i,d,K,O,rfl,a,b,c,e,C,d,K,hC,a,b,c,O,e⟩
theorem FR.fst{P:List DT}{i:Nat}(h:FR P c2 C ((i:Int)::π)):∃(d:DT) (K:CF),P[i]?=some d/\c2.testBit i=false/\EG C d K/\FR P (c2|||2^i) K π:=by
 generalize O:(i:Int)::π=q at h;cases h with
 | nil e=>cases O
 | @cons _ j _ K d Y a b c e=>
  injection O with Z U;obtain rfl:i=j:=by omega
  subst U;exact⟨d,K,a,b,c,e⟩
theorem Mv.step{P:List DT}{S S1:CF->Prop}{c2 i k:Nat}{π:List Int}{d:DT}(hd:P[i]?=some d)(Y:∀K,S1 K↔((∃C,S C/\EG C d K)/\Ends P (c2|||2^i) K))(hb:c2.testBit i=false)(ag:c2|||2^i≠2^P.length - 1)(al:∀j,j<k->¬Fl P S1 (c2|||2^i) j)(h:Mv P S1 (c2|||2^i) k π):Mv P S c2 i ((k:Int)::π):=by
 obtain⟨⟨K,am,ap⟩,aq⟩:=h;obtain⟨⟨C,hC,av⟩,-⟩:=(Y K).1 am;refine⟨⟨C,hC,.cons hd hb av ap⟩,λaw ay az a0=>?_⟩;obtain⟨d2,O,Z,e2,a1,U⟩:=a0.fst;rw[hd] at Z;cases Z;have ac:S1 O:=(Y O).2 ⟨⟨aw,az,a1⟩,ay,U⟩;obtain⟨j,a4,a5,a2,rfl,-,-,-,-,a3⟩:=U.YK ac ag;have a6:k<=j:=by
  rcases jH j k with q | q;exact absurd a3 (al j q);exact q
 rw[R3];by_cases e:(j:Int)=(k:Int)
 .rw [d6 e];obtain rfl:j=k:=by omega
  exact aq O a2 ac U
 .rw [d0 e];exact sz (by omega)
structure OS (m dn:Nat) (os:List Nat):Prop where
 nd:os.Nodup
 lt:∀i∈os,i<m
 bit:∀i,i<m->(dn.testBit i=true↔i∈os)
 dn:dn<2^m
variable{os:List Nat}
theorem OS.full{m:Nat}(h:OS m c2 os):os.length=m↔c2=2^m - 1:=by
 have hle:os.length<=m:=by
  have:=MK (m:=List.range m) h.nd λx K=>rH.2 (h.lt x K)
  rwa[uu] at this
 constructor
 .intro e;have O:∀i,i<m->i∈os:=by
   intro i hi;refine td λU=>?_;have:=MK (l:=i::os) (m:=List.range m) (un.2 ⟨U,h.nd⟩) λx K=>by
    rcases iC.1 K with rfl | K;exact rH.2 hi;exact rH.2 (h.lt x K)
   rw[uu,r4] at this;omega
  refine uB λi=>?_;rw[vx];rcases jH i m with hi | hi;rw[(h.bit i hi).2 (O i hi),sL hi];rw[sz (by omega)];exact tX (sS h.dn (sn (by omega) hi))
 .intro e;have:=MK (l:=List.range m) (m:=os) List.nodup_range λx K=>by
   have K:=rH.1 K;refine(h.bit x K).1 ?_;rw[e,vx,sL K]
  rw[uu] at this;omega
theorem OS.snoc{m i:Nat}(h:OS m c2 os)(hi:i<m)(hb:c2.testBit i=false):OS m (c2|||2^i) (os++ [i]):=by
 have O:i ∉ os:=λq=>by rw[(h.bit i hi).2 q] at hb;cases hb
 refine⟨?_,λj K=>?_,λj K=>?_,?_⟩;rw[sR];exact⟨h.nd,by simp,λa U b Y e=>by cases bN.1 Y;subst e;exact O U⟩;rcases kO.1 K with K | K;exact h.lt j K;cases bN.1 K;exact hi;rw[Xt,sW,tg,h.bit j K,kO,bN];exact⟨λq=>q.imp id Eq.symm,λq=>q.imp id Eq.symm⟩;exact ub h.dn (tR (by omega) hi)
variable{A S:Type}{N:Nat}
theorem b9{body:S->Option (Bm S A)}{s s':S}(h:body s=some (.more s')):Pal.iter body (N+1) s=Pal.iter body N s':=by
 conv=>lhs;unfold Pal.iter
 rw[h]
theorem Vn{body:S->Option (Bm S A)}{s:S}{a:A}(h:body s=some (.done a)):Pal.iter body (N+1) s=some a:=by
 conv=>lhs;unfold Pal.iter
 rw[h]
variable{i0:Int}
section
variable {n:Nat}
def FF(l:List PU):CF->Prop:=λC=>∃p∈l,AJ p=C
theorem WH(U:SX F n L P){dn i:Nat}(aq:dn<2^P.length)(hd:P[i]?=some d)(hb:dn.testBit i=false)(av:now.length<=5^15)(aw:∀q∈now,SP n L q)(ay:F3 n L P sm):
  ∃all r,f161 F now d=some all/\f160 F all (dn|||2^i) P sm=some r/\F3 n L P r.2/\r.1.length<=5^15/\(∀q∈r.1,SP n L q)/\(∀K,FF r.1 K↔((∃C,FF now C/\EG C d K)/\Ends P (dn|||2^i) K))/\(r.1=[]↔¬Fl P (FF now) dn i):=by
 have hi:i<P.length:=(d7.1 hd).1;have az:=U.ok d (r7 hd);let⟨all,a0,a1,Z,a2⟩:=gD U az av aw;obtain⟨-,a3⟩:=Px U.m8 aq hi;let⟨r,a4,a5,be,am,a6⟩:=fM U a3 a1 (λq O=>(Z q O).1) ay;have ac:∀K,FF r.1 K↔((∃C,FF now C/\EG C d K)/\Ends P (dn|||2^i) K):=by
  intro K;constructor;rintro⟨q,O,rfl⟩;let⟨c1,c2⟩:=am q O;obtain⟨-,p,ag,al⟩:=Z q c1;exact⟨⟨_,⟨p,ag,V⟩,al⟩,c2⟩;rintro⟨⟨C,⟨p,ag,rfl⟩,al⟩,he⟩;obtain⟨q,O,rfl⟩:=a2 p ag K al;exact⟨q,a6 q O he,V⟩
 refine⟨all,r,a0,a4,a5,by omega,λq O=>(Z q (am q O).1).1,ac,?_⟩;constructor;rintro e ⟨C,d',K,k1,Y,ap,a7,a8⟩;rw[hd] at Y;cases Y;obtain⟨q,O,-⟩:=(ac K).2 ⟨⟨C,k1,a7⟩,a8⟩;rw[e] at O;cases O
 .intro a9;cases bb:r.1 with
  | nil=>rfl
  | cons q l=>
   exfalso;obtain⟨⟨C,k1,Y⟩,ap⟩:=(ac (AJ q)).1 ⟨q,by rw[bb];exact rX,rfl⟩;exact a9 ⟨C,d,_,k1,hd,hb,Y,ap⟩
theorem aU(K:SX F n L P)(O:c2<2^P.length){ag:List PU}{al am:List ((Nat×List (List Int))×Bool)}{ap:List Int}{aq:Nat}(av:now.length<=5^15)(aw:∀q∈now,SP n L q)(ay:F3 n L P sm)
  (hex:∃k,k<P.length/\Fl P (FF now) c2 k):
  Ap (Pal.iter (Pt F P (am,ag,i0,ap,aq) (now,al) c2) F (sm,0)) (λr=>F3 n L P r.2/\∃k:Nat,r.1=(k:Int)/\k<P.length/\Fl P (FF now) c2 k/\∀j,j<k->¬Fl P (FF now) c2 j):=by
 have hm:=K.m8;have a8:=K.QY;refine CZ P.length (λi s=>s.2=(i:Int)/\F3 n L P s.1/\∀j,j<i->¬Fl P (FF now) c2 j) ⟨V,ay,λj az=>by omega⟩ (by omega) ?_ ?_
 .rintro i ⟨a0,z⟩ hi ⟨U,t1,t2⟩;simp only at U t1 t2;subst U;let⟨a1,a9⟩:=Px hm O hi;unfold Pt;refine BR (by simp only;omega) (Ba (m:=i) V hi ?_);refine AY (Vk (by omega)) (AY (Vv hm O) ?_);refine AE (S:=λr=>F3 n L P r.2/\(r.1=true↔Fl P (FF now) c2 i)) ?_ ?_
  .cases hb:c2.testBit i with
   | true=>
    refine BO (by simp) (Am ⟨t1,uf (by simp) ?_⟩);rintro⟨C,d,bb,_,_,k,_⟩;rw[hb] at k;cases k
   | false=>
    let⟨all,r,a2,a3,a4,be,bi,bn,Y⟩:=WH K O (cT hi) hb av aw t1;refine BR (by simp) (AY (P0 (by omega)) ?_);refine AY a1 (AY a2 ?_);refine AY a3 (Am ⟨a4,?_⟩);rw[tg];constructor;intro q;refine ud λa5=>?_;rw[Y.2 a5] at q;exact absurd q (by simp);intro q;have:r.1≠ []:=λe=>Y.1 e q;have:=vk.2 this;omega
  .rintro⟨b,bo⟩ ⟨Z,ac⟩;refine Bw (λhb=>Am ⟨Z,i,V,hi,ac.1 hb,t2⟩) (λhb=>?_);refine Ap.E ((i+1:Nat):Int) (by simp) (Am ⟨V,Z,λj az=>?_⟩);rcases jH j i with a6 | bv;exact t2 j a6
   .obtain rfl:j=i:=by omega
    exact λq=>hb (ac.2 q)
 .rintro⟨a0,z⟩ ⟨U,t1,t2⟩;obtain⟨k,a7,hh⟩:=hex;exact absurd hh (t2 k a7)
theorem fC(K:SX F n L P):∀(N dn i:Nat) (os:List Nat) (now:List PU) (sm:List ((Nat×List (List Int))×Bool)),300<N+dn->OS P.length dn os->i<P.length->dn.testBit i=false->now.length<=5^15->(∀q∈now,SP n L q)->F3 n L P sm->
  Ap (Pal.iter (NU F P) N (sm,now,(i:Int),os.map (λj:Nat=>(j:Int)),dn)) (λq=>∃r sm',q=Sum.inl (r,sm')/\((¬Fl P (FF now) dn i/\r=[])∨(Fl P (FF now) dn i/\∃π,r=os.map (λj:Nat=>(j:Int))++(i:Int)::π/\Mv P (FF now) dn i π))):=by
 have hm:=K.m8;have ct:=PE hm;intro N
 induction N with
 | zero=>intro dn i os now sm aq Z;have:=Z.dn;omega
 | succ N a7=>
  intro dn i os now sm cw O hi hb a8 a9 bb;have av:=O.dn;let⟨aw,be⟩:=Px hm av hi;let⟨all,r,aq,Z,bi,ay,az,a0,ac⟩:=WH K av (cT hi) hb a8 a9 bb;have ag:=O.snoc hi hb;have cy:os.length<=8:=by
   have:=MK (m:=List.range P.length) O.nd λx K=>rH.2 (O.lt x K);rw[uu] at this;omega
  have body:Ap (NU F P (sm,now,(i:Int),os.map (λj:Nat=>(j:Int)),dn)) (λst=>
    (∃sm',st=.done (Sum.inl ([],sm'))/\¬Fl P (FF now) dn i)∨
    (∃sm',st=.done (Sum.inl (os.map (λj:Nat=>(j:Int))++ [(i:Int)],sm'))/\Fl P (FF now) dn i/\dn|||2^i=2^P.length - 1)∨
    (∃sm' k,st=.more (sm',r.1,((k:Nat):Int),(os++ [i]).map (λj:Nat=>(j:Int)),dn|||2^i)/\Fl P (FF now) dn i/\dn|||2^i≠2^P.length - 1/\k<P.length/\Fl P (FF r.1) (dn|||2^i) k/\(∀j,j<k->¬Fl P (FF r.1) (dn|||2^i) j)/\F3 n L P sm')):=by
   unfold NU
   dsimp only;refine Ba (m:=i) V hi (AY (P0 (by omega)) ?_);refine AY aw (AY aq ?_);refine AY Z (Bw (λa1=>Am (.inl ⟨_,V,ac.1 (tk.1 (by omega))⟩)) (λa1=>?_));have al:Fl P (FF now) dn i:=ud λq=>a1 (by rw[ac.2 q];rfl);refine AY (P0 (by omega)) (AY aw ?_);refine Ap.OA (by simp;omega) ?_;have hlen:(os.map (λj:Nat=>(j:Int))++ [(i:Int)]).length=(os++ [i]).length:=by simp
   refine Bw (λU=>Am (.inr (.inl ⟨_,V,al,ag.full.1 (by omega)⟩))) (λU=>?_);have Y:dn|||2^i≠2^P.length - 1:=λe=>U (by have:=ag.full.2 e;omega)
   have hex:∃k,k<P.length/\Fl P (FF r.1) (dn|||2^i) k:=by
    have bn:r.1≠ []:=λe=>ac.1 e al;let⟨q,a2⟩:=vD _ bn;obtain⟨-,he⟩:=(a0 (AJ q)).1 ⟨q,a2,V⟩;let⟨k,d,a3,a4,e2,bo,bv⟩:=he.cases Y;exact⟨k,(d7.1 a4).1,_,d,a3,⟨q,a2,V⟩,a4,e2,bo,bv⟩
   refine AE (aU K be ay az bi hex) ?_;rintro⟨z,sm'⟩ ⟨bw,k,a5,bx,bz,b0⟩;simp only at a5;subst a5;exact Am (.inr (.inr ⟨sm',k,by simp only[sB,uT],al,Y,bx,bz,b0,bw⟩))
  obtain⟨st,am,b1⟩:=body;have c0:=TE hb;rcases b1 with⟨sm',rfl,ap⟩ | ⟨sm',rfl,hh,b2⟩ | ⟨sm',k,rfl,hh,Y,b3,a6,b4,b5⟩;rw[Vn am];exact Am ⟨[],sm',V,.inl ⟨ap,V⟩⟩;rw[Vn am];refine Am ⟨_,sm',V,.inr ⟨hh,[],V,?_⟩⟩;obtain⟨C,d,a3,k1,b6,ca,cc,c1⟩:=hh;exact⟨⟨C,k1,.cons b6 ca cc (.nil b2)⟩,λc2 ce _ _=>by cases ce<;>rfl⟩
  .rw [b9 am];have ci:(dn|||2^i).testBit k=false:=by obtain⟨_,_,_,_,_,q,_⟩:=a6;exact q
   refine(a7 (dn|||2^i) k (os++ [i]) r.1 sm' (by omega) ag b3 ci ay az b5).M ?_;rintro q ⟨r',co,rfl,U⟩;refine⟨r',co,V,?_⟩;rcases U with⟨ap,-⟩ | ⟨-,π,rfl,cp⟩;exact absurd a6 ap;refine .inr ⟨hh,(k:Int)::π,by simp,cp.step (cT hi) a0 hb Y b4⟩
end
def FN(ps:List (List Int)):CF:=λa b=>(((ps.getD a []).count (b:Int):Nat):Int)
def KH(ps:List (List Int)):List Nat:=ps.flatMap λx=>x.map Int.toNat
def My:Nat->List (List Int)->List Nat
 | _,[]=>[]
 | i,x::xs=>List.replicate x.length i++My (i+1) xs
theorem VE{K w2:List Nat}(a b:Nat):∀{O w1:List Nat},O.length=w1.length->CM (O++K) (w1++w2) a b=CM O w1 a b+CM K w2 a b
 | [],[],_=>by show CM K w2 a b=0+CM K w2 a b;omega
 | l::O,o::w1,h=>by
  rw[tl,tl,Pb,Pb,VE a b (by simpa using h)];omega
theorem Vl(i a b:Nat):∀{x:List Int},(∀c∈x,0<=c)->CM (x.map Int.toNat) (List.replicate x.length i) a b=if a=i then((x.count (b:Int):Nat):Int) else 0
 | [],_=>by show(0:Int)=_;simp
 | c::x,h=>by
  have U:=h c rX
  rw[sN,r4,uD,Pb,Vl i a b λy O=>h y (f4 _ O),vf]
  by_cases K:a=i
  .rw [d6 K,d6 K]
   by_cases hb:b=c.toNat;rw[d6 ⟨K,hb⟩,d6 (by rw[tr];omega)];omega;rw[d0 (λq=>hb q.2),d0 (by rw[tr];omega)];omega
  .rw [d0 K,d0 K,d0 (λq=>K q.1)];omega
theorem W3(a b:Nat):∀(ps:List (List Int)) (i:Nat),(∀x∈ps,∀c∈x,0<=c)->CM (KH ps) (My i ps) a b=if i<=a then FN ps (a - i) b else 0
 | [],i,_=>by
  show(0:Int)=_
  split;unfold FN;rw[f7];simp;rfl
 | x::ps,i,h=>by
  have K:=W3 a b ps (i+1) λy O=>h y (f4 _ O);show CM (x.map Int.toNat++KH ps) (List.replicate x.length i++My (i+1) ps) a b=_;rw[VE a b (by simp),Vl i a b (h x rX),K];by_cases e:a=i;subst e;rw[d6 rfl,d0 (by omega),d6 (rJ _),uM];unfold FN;rw[List.getD_cons_zero];omega;rw[d0 e];by_cases e2:i<=a;rw[d6 (by omega),d6 e2];obtain⟨k,U⟩:∃k,a - i=k+1:=⟨a - i - 1,by omega⟩;unfold FN;rw[U,List.getD_cons_succ,show a - (i+1)=k by omega];omega;rw[d0 (by omega),d0 e2];omega
theorem W0:∀(ps:List (List Int)) (i:Nat),(My i ps).length=(KH ps).length
 | [],_=>rfl
 | x::ps,i=>by
  show(List.replicate x.length i++My (i+1) ps).length=(x.map Int.toNat++KH ps).length
  rw[rS,rS,W0 ps (i+1),uv,ts]
theorem XB:∀(ps:List (List Int)) (i:Nat),∀o∈My i ps,o<i+ps.length
 | [],_,o,h=>by cases h
 | x::ps,i,o,h=>by
  rw[r4]
  rcases kO.1 h with h | h;have:=(List.mem_replicate.1 h).2;omega;have:=XB ps (i+1) o h;omega
theorem WT:∀{ps:List (List Int)}{k:Nat},(∀x∈ps,x.length<=k)->(KH ps).length<=ps.length*k
 | [],_,_=>sC _
 | x::ps,k,h=>by
  have:=WT (ps:=ps) (k:=k) λy K=>h y (f4 _ K)
  have O:=h x rX
  show(x.map Int.toNat++KH ps).length<=_
  rw[rS,ts,r4,sT];omega
theorem Zx{x:List Int}{k:Nat}(K:k<x.length)(b:Int):(x.take (k+1)).count b=(x.take k).count b+if x[k]=b then 1 else 0:=by
 rw[sE,cT K,List.count_append,tj,List.count_singleton];by_cases e:x[k]=b;rw[d6 e,d6 (by simp[e])];rw[d0 e,d0 (by simp[e])]
variable{o:OW}
theorem fT{F:Nat}(ay:100<F)(h:VO o):Ap (f120 F o) (λp=>SP o.1.length (KH o.1) p/\AJ p=FN o.1):=by
 have az:=h.n5;unfold f120;refine AE (S:=λp=>p.length=o.1.length/\(∀xs∈p,∀K∈xs,0<=K.1/\K.1<10)/\∀a,a<o.1.length->∀b:Nat,AJ p a b=FN o.1 a b) ?_ ?_
 .refine CZ o.1.length (λi s=>s.2=(i:Int)/\s.1.length=i/\(∀xs∈s.1,∀K∈xs,0<=K.1/\K.1<10)/\∀a,a<i->∀b:Nat,AJ s.1 a b=FN o.1 a b) ⟨V,V,(λxs Z=>by cases Z),(λa ap=>by omega)⟩ (by omega) ?_ ?_
  .rintro i ⟨s,z⟩ hi ⟨O,t1,t2,t3⟩;simp only at O t1 t2 t3;subst O;let⟨c1,c2⟩:=h.cs _ (jK hi);unfold PC;refine BR (by simp only;omega) (Ba (m:=i) V hi ?_);refine AE (S:=λm=>(∀K∈m,0<=K.1/\K.1<10)/\∀b:Nat,(Bg m (b:Int)).getD 0=((o.1[i].count (b:Int):Nat):Int)) ?_ ?_
   .refine CZ o.1[i].length (λk s=>s.2=(k:Int)/\(∀K∈s.1,0<=K.1/\K.1<10)/\∀b:Nat,(Bg s.1 (b:Int)).getD 0=(((o.1[i].take k).count (b:Int):Nat):Int)) ⟨V,(λK ac=>by cases ac),(λb=>V)⟩ (by omega) ?_ ?_
    .rintro k ⟨m,z⟩ ac ⟨O,Y,U⟩;simp only at O Y U;subst O;have al:=c2 _ (jK ac);have aq:((o.1[i][k].toNat:Nat):Int)=o.1[i][k]:=by omega
     have ag:=U o.1[i][k].toNat;rw[aq] at ag;have hle:(o.1[i].take k).count o.1[i][k]<=k:=sG List.count_le_length (by rw[tn];omega);unfold PV;refine BR (by simp only;omega) ?_;refine Ba (m:=k) V ac ?_;refine L4 _ V (by simp only[ag];omega) (by simp only[ag];omega) ?_;refine Ap.E ((k+1:Nat):Int) (by simp) ?_;refine Am ⟨V,λK av=>?_,λb=>?_⟩;rcases R7 av with q | ⟨r,q⟩;rw[q];omega;exact Y (K.1,r) q;simp only;rw[K0,Zx ac];by_cases e:(b:Int)=o.1[i][k];rw[d6 e,d6 e.symm,Option.getD_some,ag,e];omega;rw[d0 e,d0 (λq=>e q.symm),U b];omega
    .rintro⟨m,z⟩ ⟨O,Y,U⟩;simp only at O Y U;subst O;unfold PV;rw[se] at U;exact BO (by simp only;omega) (Am ⟨_,V,Y,U⟩)
   .rintro m ⟨Y,U⟩;refine HW (by simp only;omega) (Ap.E ((i+1:Nat):Int) (by simp) ?_);refine Am ⟨V,by show(s++ [m]).length=i+1;rw[rS,s7];omega,λxs aw=>?_,λa ap b=>?_⟩;rcases kO.1 aw with q | q;exact t2 xs q;cases bN.1 q;exact Y
    .simp only;rcases jH a i with q | q;rw[← t3 a q b];unfold AJ;rw[f7,rQ (by omega),f7]
     .obtain rfl:a=i:=by omega
      unfold AJ FN;rw[f7,no (by omega),show a - s.length=0 by omega,f7,cT hi];exact U b
  .rintro⟨s,z⟩ ⟨O,t1,t2,t3⟩;simp only at O t1 t2 t3;subst O;unfold PC;exact BO (by simp only;omega) (Am ⟨_,V,t1,t2,t3⟩)
 .rintro p ⟨t1,t2,t3⟩;have am:AJ p=FN o.1:=by
   funext a b;rcases jH a o.1.length with q | q;exact t3 a q b;unfold AJ FN;rw[f7,sd (by omega),f7,sd q];rfl
  refine Am ⟨⟨t1,t2,My 0 o.1,W0 _ _,λx Z=>by have:=XB o.1 0 x Z;omega,?_⟩,am⟩;rw[am];funext a b;rw[W3 a b o.1 0 (λx Z c al=>by have:=(h.cs x Z).2 c al;omega),d6 (sC _),tO]
theorem VO.Oz(h:VO o):(KH o.1).length<=15:=by
 have O:=WT (ps:=o.1) (k:=3) λx K=>(h.cs x K).1;have:=h.n5;omega
structure PO (F:Nat) (o:OW) (P:List DT):Prop where
 vo:VO o
 m8:P.length<=8
 ok:∀d∈P,VT o.1.length d
 fuel:5^16<F
theorem PO.sx{F:Nat}{P:List DT}(h:PO F o P):SX F o.1.length (KH o.1) P:=⟨h.vo.n5,h.vo.Oz,h.m8,h.ok,h.fuel⟩
def S0(o:OW):CF->Prop:=λC=>FN o.1=C
theorem eS{F:Nat}{P:List DT}(h:PO F o P){j:Nat}(Y:j<P.length):Ap (J7 F o P j) (λr=>(¬Fl P (S0 o) 0 j/\r=[])∨(Fl P (S0 o) 0 j/\∃π,r=(j:Int)::π/\Mv P (S0 o) 0 j π)):=by
 have O:=h.sx;have al:=h.fuel;have am:(5:Nat)^16=152587890625:=by decide
 unfold J7;refine AE (fT O.QY h.vo) ?_;rintro p ⟨Z,U⟩;have ac:FF [p]=S0 o:=by
  funext C;unfold FF S0;refine propext ⟨?_,λe=>⟨p,bN.2 V,by rw[U];exact e⟩⟩;rintro⟨q,K,e⟩;cases bN.1 K;rw[← U];exact e
 have key:=fC O F 0 j [] [p] [] (by omega) ⟨vr,(λi hi=>by cases hi),(λi hi=>by simp),uq _⟩ Y (by simp) (by simp) (λq K=>by cases bN.1 K;exact Z) (λdn X b hb=>by cases hb);rw[ac] at key;refine AE (S:=λr=>(¬Fl P (S0 o) 0 j/\r.1=[])∨(Fl P (S0 o) 0 j/\∃π,r.1=(j:Int)::π/\Mv P (S0 o) 0 j π)) ?_ (λr ag=>Am ag);unfold f119;refine AE key ?_;rintro q ⟨r,sm',rfl,K⟩;exact Am K
theorem kN{F:Nat}{P:List DT}(h:PO F o P):Ap (f77 F o P) (λr=>(r.2=true/\Io P (S0 o) 0 r.1)∨(r=([],false)/\¬Ends P 0 (FN o.1))):=by
 have hm:=h.m8;unfold f77;refine Bw (λal=>Am (.inl ⟨V,⟨_,V,.nil (by rw[al])⟩,λC am _ _=>by cases am<;>rfl⟩)) (λal=>?_);have ap:0≠2^P.length - 1:=by
  have:2^1<=2^P.length:=sn (by omega) (by omega);omega
 have ac:∀j,j<P.length->∃r,J7 F o P j=some r/\KC F o P j=r/\((¬Fl P (S0 o) 0 j/\r=[])∨(Fl P (S0 o) 0 j/\∃π,r=(j:Int)::π/\Mv P (S0 o) 0 j π)):=λj O=>by
  let⟨r,Y,U⟩:=eS h O;exact⟨r,Y,by unfold KC;rw[Y];rfl,U⟩
 refine BR ⟨by omega,lH.2 λj O=>?_⟩ (Am ?_);let⟨r,Y,_⟩:=ac j (rH.1 O);rw[Y];rfl
 have ag:∀j,j<P.length->((!(KC F o P j).isEmpty)=true↔Fl P (S0 o) 0 j):=λj O=>by
  let⟨r,_,U,K⟩:=ac j O;rw[U];rcases K with⟨K,rfl⟩ | ⟨K,π,rfl,_⟩;exact uf (by simp) K;exact uY V K
 unfold M3;cases aq:(List.range P.length).find? λj=> !(KC F o P j).isEmpty with
 | none=>
  refine .inr ⟨V,λhe=>?_⟩;let⟨i,d,av,Z,e2,aw,ay⟩:=he.cases ap;have hi:=(d7.1 Z).1;have:=t7.1 aq i (rH.2 hi);exact this ((ag i hi).2 ⟨_,d,av,V,Z,e2,aw,ay⟩)
 | some j=>
  let⟨f1,f2,f3⟩:=sZ.1 aq;have O:=rH.1 f2;let⟨r,_,U,K⟩:=ac j O;have a2:=(ag j O).1 f1;rcases K with⟨K,_⟩ | ⟨K,π,rfl,⟨C,hC,a3⟩,a4⟩;exact absurd a2 K
  refine .inl ⟨V,?_⟩;show Io P (S0 o) 0 (KC F o P j);rw[U];refine⟨⟨C,hC,a3⟩,λa5 am az a0=>?_⟩;obtain⟨i,d,av,a6,rfl,Z,e2,aw,ay,a7⟩:=a0.YK az ap;have hi:=(d7.1 Z).1;have a8:j<=i:=by
   rcases jH i j with q | q;have:=f3 i q;rw[ua] at this;have a1:=(ag i hi).2 a7;rw[this] at a1;cases a1;exact q
  rw[R3];by_cases e:(i:Int)=(j:Int)
  .rw [d6 e];obtain rfl:i=j:=by omega
   exact a4 a5 a6 az a0
  .rw [d0 e];exact sz (by omega)
variable{w:List Int}
theorem Xs{p o:Nat}{x:PR}(hw:w.length=5)(ag:p<5)(al:o<5)(Y:o≠p)(ac:x.1+x.2 - (p:Int)=o)(j:Nat):gN (Dg w (dP p x (gN w p))) j=if j=p then 0 else if j=o then gN w o+gN w p else gN w j:=by
 have Z:∀i v,(Fv w i v).length=5:=λi v=>by unfold Fv;rw[rW];exact hw
 unfold dP;rw[ac];unfold Dg;by_cases h:0<gN w p;rw[d6 h];simp only;rw[GV (Z _ _) (by omega) (by omega),GV hw (by omega) (by omega)];have O:((j:Int)=(p:Int))=(j=p):=propext ⟨by omega,by omega⟩;have U:((j:Int)=(o:Int))=(j=o):=propext ⟨by omega,by omega⟩;simp only[O,U];by_cases K:j=p;subst K;rw[d0 (sy Y),d6 rfl,d6 rfl];omega;rw[d0 K,d0 K];by_cases e2:j=o;subst e2;rw[d6 rfl,d6 rfl];omega;rw[d0 e2,d0 e2];omega;rw[d0 h];simp only;rw[GV (Z _ _) (by omega) (by omega),GV hw (by omega) (by omega)];have O:((j:Int)=(p:Int))=(j=p):=propext ⟨by omega,by omega⟩;have U:((j:Int)=(o:Int))=(j=o):=propext ⟨by omega,by omega⟩;simp only[O,U];by_cases K:j=p;subst K;rw[d6 rfl,d0 (sy Y),d6 rfl];omega;rw[d0 K,d0 K];by_cases e2:j=o;subst e2;rw[d6 rfl,d6 rfl];omega;rw[d0 e2,d0 e2];omega
theorem Z4{α:Type}{l:List α}{i:Nat}(h:i<l.length):(l[i]::l.eraseIdx i).Perm l:=by
 rw[u5];refine r6.symm.trans ?_;rw[← tt h,List.take_append_drop]
def OF(d:DT):PR:=(min d.1 d.2.1,max d.1 d.2.1)
theorem iS{n p:Nat}{x:PR}{m:Int}(O:VP n x)(K:BH p x=true):OF (dP p x m)=x:=by
 obtain⟨v1,v2,U⟩:=O;unfold BH at K;simp at K;obtain⟨x1,x2⟩:=x;simp only at v1 v2 U K;unfold OF dP;split<;>simp only[d9]<;>omega
theorem Uo{n:Nat}:∀(k:Nat) (l:List PR) (w:List Int) (out r:List DT),l.length=k->(∀x∈l,VP n x)->EY n k l w out=some r->(r.map OF).Perm (out.map OF++l)
 | 0,l,w,out,r,Z,U,h=>by
  unfold EY at h
  split at h
  .cases h
   rw[tk.1 Z,r9]
  .cases h
 | k+1,l,w,out,r,Z,U,h=>by
  unfold EY at h;let⟨p,ac,h⟩:=bind_some h;split at h;cases h
  unfold IM at ac;let⟨c1,c2,c3⟩:=sZ.1 ac;have ag:l.countP (BH p)=1:=by simpa using c1
  have O:l.findIdx (BH p)<l.length:=by
   obtain⟨x,K,Y⟩:=ui.1 (show 0<l.countP (BH p) by omega);exact tG ⟨x,K,Y⟩
  rw[Jd O] at h;have Y:BH p l[l.findIdx (BH p)]=true:=ue;have K:=U _ (jK O);have:=Uo k _ _ _ r (by rw[tF O];omega) (λx K=>U x (ti K)) h;refine this.trans ?_;rw[sB,uT,iS K Y,sb];exact u4 _ (Z4 O)
theorem RH:∀{m:Nat}{l c:List PR},c∈GW m l->c.Sublist l
 | 0,l,c,h=>by
  rw[show GW 0 l=[[]] by cases l<;>rfl] at h
  cases bN.1 h
  exact List.nil_sublist _
 | m+1,[],c,h=>by cases h
 | m+1,y::ys,c,h=>by
  rcases kO.1 h with h | h
  .obtain⟨O,K,rfl⟩:=sj.1 h
   exact(RH K).cons_cons y
  .exact(RH h).cons y
theorem Ze{n:Nat}(h:n<=5):(Eu n).Nodup:=by
 match n,h with
 | 0,_ | 1,_ | 2,_ | 3,_ | 4,_ | 5,_=>decide
theorem Un{n:Nat}{w0:List Int}(am:n<=5)(hb:∀A,-72<=DF w0 A/\DF w0 A<=72):∀(k:Nat) (l:List PR) (w:List Int) (out r:List DT),l.length=k->(∀x∈l,VP n x)->w.length=5->(∀A,∃B,DF w A=DF w0 B)->EY n k l w out=some r->
  ∃s,r=out++s/\s.length=k/\(∀d∈s,GD n d)/\s.foldl Dg w=z5
 | 0,l,w,out,r,ap,Y,hw,Z,h=>by
  unfold EY at h
  split at h;rename_i e;cases h;exact⟨[],by simp,V,λd hd=>(by cases hd),e⟩;cases h
 | k+1,l,w,out,r,ap,Y,hw,Z,h=>by
  unfold EY at h;let⟨p,ag,h⟩:=bind_some h;split at h;cases h
  rename_i a1;unfold IM at ag;let⟨c1,c2,c3⟩:=sZ.1 ag;have c2:p<n:=rH.1 (by first | exact c2 | exact rH.2 c2)
  have a2:l.countP (BH p)=1:=by simpa using c1
  have ac:l.findIdx (BH p)<l.length:=by
   obtain⟨x,K,O⟩:=ui.1 (show 0<l.countP (BH p) by omega);exact tG ⟨x,K,O⟩
  rw[Jd ac] at h;have O:BH p l[l.findIdx (BH p)]=true:=ue;have K:=Y _ (jK ac);generalize l[l.findIdx (BH p)]=x at h O K;obtain⟨v1,v2,a3⟩:=K;have aq:x.1+x.2 - (p:Int)=((x.1+x.2 - (p:Int)).toNat:Nat)/\(x.1+x.2 - (p:Int)).toNat<n/\(x.1+x.2 - (p:Int)).toNat≠p:=by
   unfold BH at O;simp only[sW,tg] at O;omega
  obtain⟨av,a4,al⟩:=aq;have hm: -72<=gN w p/\gN w p<=72:=by
   let⟨B,U⟩:=Z λx=>x==p;rw[MS (by omega)] at U;rw[U];exact hb B
  have aw:GD n (dP p x (gN w p)):=by
   unfold dP GD;split;simp only;omega;simp only;omega
  obtain⟨s,ay,e2,az,a0⟩:=Un am hb k _ _ _ r (by rw[tF ac];omega) (λx K=>Y x (ti K)) (Qe hw) (λA=>by
   let⟨B,U⟩:=Z λj=>if j=p then A (x.1+x.2 - (p:Int)).toNat else A j
   exact⟨B,(RQ (p:=p) (o:=(x.1+x.2 - (p:Int)).toNat) (by omega) (by omega) al (λj=>Xs hw (by omega) (by omega) al av j) A).trans U⟩) h
  refine⟨dP p x (gN w p)::s,by rw[ay];simp,by simp[e2],λd hd=>?_,by rw[tq];exact a0⟩;rcases iC.1 hd with rfl | hd;exact aw;exact az d hd
theorem Uu(l:List DT):(ED l).Perm l:=by
 have ins:∀(d:DT) (l:List DT),(Gb d l).Perm (d::l):=by
  intro d l
  induction l with
  | nil=>exact ss _
  | cons z K O=>
   unfold Gb;split;exact ss _;exact(O.cons z).trans (List.Perm.swap d z K)
 refine MW (P:=λl=>(ED l).Perm l) (ss _) (λl d h=>?_) l;rw[MG];exact(ins d _).trans ((h.cons d).trans (vz d l).symm)
theorem UL{m:Nat}{s:List DT}(h:VO o)(hw:(BT o).length=5)(hm:m<o.1.length)(K:s∈Du o.1.length (BT o) (λ_=>true) m [] (Eu o.1.length)):RP o s/\Nr s/\s.length=m:=by
 have O:=h.n5;unfold Du at K;let⟨c,Z,K⟩:=vv.1 K;rw[sP] at K;unfold HH at K;obtain⟨r,ac,rfl⟩:=sr.1 K;have ag:=RH Z;have aq:=(MH (x:=(0,0)) Z).1;have al:∀x∈c,VP o.1.length x:=λx av=>Pm (tQ.1 (ag.subset av)).1;have aw:c.Nodup:=((Ze O).filter _).sublist ag;have am:=Uo c.length c (BT o) [] r V al ac;rw[wb,sP] at am;let⟨s,ap,e2,U,ay⟩:=Un O (Ty h) c.length c (BT o) [] r rfl al hw (λA=>⟨A,rfl⟩) ac;rw[sP] at ap;subst ap;have az:RP o r:=⟨U,by
  have a0:=am.nodup_iff.2 aw
  refine vC.2 ((vC.1 a0).imp_of_mem λ{a b} a1 hb a2 e=>a2 ?_)
  have:=Yp O (U a a1) (U b hb) e
  unfold OF
  rcases this with⟨k1,Y⟩ | ⟨k1,Y⟩;rw[k1,Y]
  .rw [k1,Y,Int.min_comm,Int.max_comm],ay,by omega⟩
 exact⟨az.perm (Uu r).symm h hw,Vo r,by rw[(Uu r).length_eq,e2,aq]⟩
def sg(x:Int):Int:=if x<0 then -1 else if x=0 then 0 else 1
theorem XO{x:Int}:0<sg x↔0<x:=by unfold sg;split<;>(try split)<;>omega
theorem NQ{x:Int}:sg x=0↔x=0:=by unfold sg;split<;>(try split)<;>omega
theorem Xy{x:Int}:sg (-x)= -sg x:=by unfold sg;split<;>split<;>(try split)<;>(try split)<;>omega
def Ig(d:DT):PR:=(d.1,d.2.1)
def TG(p:Int)(x:PR)(m:Int):PR:=if 0<m then(x.1+x.2 - p,p) else(p,x.1+x.2 - p)
def Lh(n:Nat):Nat->List PR->((Nat->Bool)->Int)->List PR->Option (List PR)
 | 0,_,T,out=>if(List.range 5).all (λj=>decide (T (λi=>i==j)=0))=true then some out else none
 | k+1,l,T,out=>(IM n l).bind λp=>
   if T (λj=>j==p)=0 then none else
    Lh n k (l.eraseIdx (l.findIdx (BH p))) (λA=>T λj=>if j=p then A ((l.getD (l.findIdx (BH p)) (0,0)).1+(l.getD (l.findIdx (BH p)) (0,0)).2 - (p:Int)).toNat else A j) (out++ [TG p (l.getD (l.findIdx (BH p)) (0,0)) (T (λj=>j==p))])
theorem VW{n:Nat}(am:n<=5):∀(k:Nat) (l:List PR) (w:List Int) (T:(Nat->Bool)->Int) (out:List DT),l.length=k->(∀x∈l,VP n x)->w.length=5->(∀A,T A=sg (DF w A))->(EY n k l w out).map (List.map Ig)=Lh n k l T (out.map Ig)
 | 0,l,w,T,out,_,_,hw,K=>by
  have key:(List.range 5).all (λj=>decide (T (λi=>i==j)=0))=true↔w=List.replicate 5 0:=by
   rw[lH];constructor;intro h;refine R8 hw V λj U=>?_;have:=tf (h j (rH.2 U));rw[K,NQ,MS U] at this;rw[this];unfold gN;rw[f7,tU];split<;>rfl;rintro rfl j U;refine sL ?_;rw[K,NQ,MS (rH.1 U)];unfold gN;rw[f7,tU];split<;>rfl
  unfold EY Lh;by_cases h:w=List.replicate 5 0;rw[d6 h,d6 (key.2 h)];rfl;rw[d0 h,d0 (λe=>h (key.1 e))];rfl
 | k+1,l,w,T,out,az,ac,hw,K=>by
  unfold EY Lh;cases ap:IM n l with
  | none=>rfl
  | some p=>
   simp only[Option.bind_some];have ag:=ap;unfold IM at ag;let⟨c1,c2,c3⟩:=sZ.1 ag;have a0:l.countP (BH p)=1:=by simpa using c1
   have c2:=rH.1 c2;have Y:l.findIdx (BH p)<l.length:=by
    obtain⟨x,O,al⟩:=ui.1 (show 0<l.countP (BH p) by omega);exact tG ⟨x,O,al⟩
   rw[Jd Y];have al:l[l.findIdx (BH p)].1=(p:Int)∨l[l.findIdx (BH p)].2=(p:Int):=by
    have key:∀x:PR,BH p x=true->x.1=(p:Int)∨x.2=(p:Int):=λx h=>by unfold BH at h;simpa using h
    exact key _ ue
   have O:=ac _ (jK Y);obtain⟨x1,x2,a1⟩:=O;have hle:(l.eraseIdx (l.findIdx (BH p))).length=k:=by rw[tF Y];omega
   have aq:∀x∈l.eraseIdx (l.findIdx (BH p)),VP n x:=λx O=>ac x (ti O);generalize l[l.findIdx (BH p)]=x at*;obtain⟨o,av⟩:∃o:Nat,x.1+x.2 - (p:Int)=(o:Int):=⟨(x.1+x.2 - (p:Int)).toNat,by omega⟩;have Z:T (λj=>j==p)=sg (gN w p):=by rw[K,MS (by omega)]
   have aw:TG p x (T (λj=>j==p))=Ig (dP p x (gN w p)):=by
    rw[Z];unfold TG dP Ig;by_cases h:0<gN w p;rw[d6 (XO.2 h),d6 h];rw[d0 (λe=>h (XO.1 e)),d0 h]
   by_cases h:gN w p=0;rw[d6 h,d6 (by rw[Z];exact NQ.2 h)];rfl
   .rw [d0 h,d0 (by rw[Z];exact λe=>h (NQ.1 e))];rw[VW am k _ _ (λA=>T λj=>if j=p then A (x.1+x.2 - (p:Int)).toNat else A j) _ hle aq (Qe hw) ?_,sB,uT,aw]
    intro A;have ay:(x.1+x.2 - (p:Int)).toNat=o:=by omega
    rw[K,ay,RQ (p:=p) (o:=o) (by omega) (by omega) (by omega) (Xs hw (by omega) (by omega) (by omega) av) A]
def YG(a b c d e f g:Int)(A:Nat->Bool):Int:=
 match A 0,A 1,A 2,A 3 with
 | false,false,false,false=>0
 | true,false,false,false=>a
 | false,true,false,false=>b
 | true,true,false,false=>e
 | false,false,true,false=>c
 | true,false,true,false=>f
 | false,true,true,false=> -g
 | true,true,true,false=> -d
 | false,false,false,true=>d
 | true,false,false,true=>g
 | false,true,false,true=> -f
 | true,true,false,true=> -c
 | false,false,true,true=> -e
 | true,false,true,true=> -b
 | false,true,true,true=> -a
 | true,true,true,true=>0
def HK(x y z:Int):Bool:=(x != y || z==x)&&(x != 0 || z==y)&&(y != 0 || z==x)
theorem jG{x y z:Int}(h:x+y=z):HK (sg x) (sg y) (sg z)=true:=by
 subst h;unfold HK sg;by_cases K:x<0<;>by_cases O:x=0<;>by_cases U:y<0<;>by_cases Y:y=0<;>by_cases Z:x+y<0<;>by_cases ac:x+y=0<;>first | (exfalso;omega) | (simp only[K,O,U,Y,Z,ac,sO,sI];rfl) | (simp[K,O,U,Y,Z,ac]) | skip
def TU(a b c d e f g:Int):Bool:=HK a b e&&HK a c f&&HK a d g&&HK c d (-e)&&HK b d (-f)&&HK b c (-g)&&HK e c (-d)&&HK e d (-c)&&HK f b (-d)&&HK f d (-b)&&HK g b (-c)&&HK g c (-b)
def S3:List Int:=[-1,0,1]
theorem Mc(x:Int):sg x∈S3:=by unfold sg S3;split<;>(try split)<;>simp
def Nj(n:Nat)(P:((Nat->Bool)->Int)->Bool):Bool:=
 (if n<=3 then [0] else S3).all λd=>(if n<=2 then [0] else S3).all λc=>S3.all λa=>S3.all λb=>S3.all λe=>S3.all λf=>S3.all λg=> !TU a b c d e f g || P (YG a b c d e f g)
theorem aA{n:Nat}{P:((Nat->Bool)->Int)->Bool}(h:Nj n P=true)(hw:w.length=5)(K:∀j,n<=j->gN w j=0)(ac:n<=4)(ag:gN w 0+gN w 1+gN w 2+gN w 3=0):∃T,P T=true/\∀A,T A=sg (DF w A):=by
 have U:=K 4 (by omega);have hd:sg (gN w 3)∈(if n<=3 then [0] else S3):=by
  split;rw[K 3 (by assumption)];simp[sg];exact Mc _
 have Y:sg (gN w 2)∈(if n<=2 then [0] else S3):=by
  split;rw[K 2 (by assumption)];simp[sg];exact Mc _
 unfold Nj at h;have O:=lH.1 (lH.1 (lH.1 (lH.1 (lH.1 (lH.1 (lH.1 h _ hd) _ Y) _ (Mc (gN w 0))) _ (Mc (gN w 1))) _ (Mc (gN w 0+gN w 1))) _ (Mc (gN w 0+gN w 2))) _ (Mc (gN w 0+gN w 3));have Z:TU (sg (gN w 0)) (sg (gN w 1)) (sg (gN w 2)) (sg (gN w 3)) (sg (gN w 0+gN w 1)) (sg (gN w 0+gN w 2)) (sg (gN w 0+gN w 3))=true:=by
  unfold TU;simp only[f5,← Xy];refine⟨⟨⟨⟨⟨⟨⟨⟨⟨⟨⟨?_,?_⟩,?_⟩,?_⟩,?_⟩,?_⟩,?_⟩,?_⟩,?_⟩,?_⟩,?_⟩,?_⟩<;>exact jG (by omega)
 rw[Z] at O;refine⟨_,by simpa using O,λA=>?_⟩;unfold YG DF;rw[U];simp only[← Xy];cases A 0<;>cases A 1<;>cases A 2<;>cases A 3<;>simp<;>first | rfl | (congr 1;omega) | (refine(NQ.2 ?_).symm;omega)
def Q3(n:Nat)(T:(Nat->Bool)->Int)(P:PR->Bool)(m:Nat):List (List PR):=(GW m ((Eu n).filter P)).filterMap λS=>Lh n S.length S T []
def FD(n:Nat)(T:(Nat->Bool)->Int)(P:PR->Bool):List (List PR):=(((List.range n).map λm=>Q3 n T P m).find? λl=> !l.isEmpty).getD []
theorem cD(l:List DT):((ED l).map Ig).Perm (l.map Ig):=by
 have ins:∀(d:DT) (l:List DT),(Gb d l).Perm (d::l):=by
  intro d l
  induction l with
  | nil=>exact ss _
  | cons z K O=>
   unfold Gb;split;exact ss _;exact(O.cons z).trans (List.Perm.swap d z K)
 refine MW (P:=λl=>((ED l).map Ig).Perm (l.map Ig)) (ss _) (λl d h=>?_) l;rw[MG,sB];exact((ins d _).map Ig).trans (((h.cons (Ig d))).trans (vz (Ig d) _).symm)
def YL(s:List DT)(t:List PR):Prop:=(s.map Ig).Perm t
variable{T:(Nat->Bool)->Int}
theorem fI{n:Nat}(O:n<=5)(hw:w.length=5)(U:∀A,T A=sg (DF w A)){c:List PR}(Y:∀x∈c,VP n x):(HH n w c=none/\Lh n c.length c T []=none)∨∃s t,HH n w c=some s/\Lh n c.length c T []=some t/\YL s t:=by
 have h:=VW O c.length c w T [] V Y hw U;unfold HH;cases K:EY n c.length c w [] with
 | none=>rw[K] at h;exact .inl ⟨rfl,h.symm⟩
 | some r=>rw[K] at h;exact .inr ⟨ED r,r.map Ig,rfl,h.symm,cD r⟩
inductive JI:List (List DT)->List (List PR)->Prop
 | nil:JI [] []
 | cons {s t K O}:YL s t->JI K O->JI (s::K) (t::O)
theorem JI.filterMap{n:Nat}{w:List Int}{T:(Nat->Bool)->Int}(U:n<=5)(hw:w.length=5)(Y:∀A,T A=sg (DF w A)):∀{C:List (List PR)},(∀c∈C,∀x∈c,VP n x)->JI (C.filterMap (HH n w)) (C.filterMap λS=>Lh n S.length S T [])
 | [],_=>.nil
 | c::C,h=>by
  have Z:=JI.filterMap U hw Y (C:=C) λd hd=>h d (f4 _ hd)
  rcases fI U hw Y (h c rX) with⟨K,O⟩ | ⟨s,t,K,O,ac⟩;simp only[vp,K,O];exact Z;simp only[vp,K,O];exact .cons ac Z
theorem JI.WA{S:List (List DT)}{R:List (List PR)}(h:JI S R):S.isEmpty=R.isEmpty:=by cases h<;>rfl
theorem Wx{n:Nat}{P:PR->Bool}{m:Nat}(K:n<=5)(hw:w.length=5)(O:∀A,T A=sg (DF w A)):JI (Du n w P m [] (Eu n)) (Q3 n T P m):=by
 unfold Du Q3;simp only[sP];exact JI.filterMap K hw O λc U x Y=>Pm (tQ.1 ((MH U).2 Y)).1
theorem jZ{n:Nat}{P:PR->Bool}(K:n<=5)(hw:w.length=5)(O:∀A,T A=sg (DF w A)):JI (FW n w P) (FD n T P):=by
 unfold FW FD;rw[uW,uW];have e:((λl:List (List DT)=> !l.isEmpty)∘λm=>Du n w P m [] (Eu n))=((λl:List (List PR)=> !l.isEmpty)∘λm=>Q3 n T P m):=by
  funext m;simp only[Function.comp,(Wx (P:=P) (m:=m) K hw O).WA]
 rw[e];cases (List.range n).find? _ with
 | none=>exact .nil
 | some m=>exact Wx K hw O
def Mq(w:List Int):Int:=gN w 0+gN w 1+gN w 2+gN w 3+gN w 4
theorem VV{i v:Int}(hw:w.length=5)(K:0<=i)(O:i<5):Mq (Fv w i v)=Mq w+v:=by
 unfold Mq;rw[GV hw K O,GV hw K O,GV hw K O,GV hw K O,GV hw K O];obtain rfl | rfl | rfl | rfl | rfl:i=0∨i=1∨i=2∨i=3∨i=4:=by omega
 all_goals simp;omega
theorem b7(h:VO o):Mq (BT o)=0:=by
 have Y:=h.n5;have:∀(ds:List DT) (w:List Int),w.length=5->Mq w=0->(∀d∈ds,VD o.1.length d)->Mq (ds.foldl G0 w)=0:=by
  intro ds
  induction ds with
  | nil=>exact λw _ hw _=>hw
  | cons d ds O=>
   intro w K hw hd;let⟨v1,v2,Z,v4,_⟩:=hd d rX;have l1:(Fv w d.2.1 d.2.2).length=5:=by unfold Fv;rw[rW];exact K
   refine O _ (by unfold G0 Fv;rw[rW,rW];exact K) ?_ λx U=>hd x (f4 _ U);unfold G0;rw[VV l1 (by omega) (by omega),VV K (by omega) (by omega),hw];omega
 exact this _ _ V V h.ds
theorem gy:∀l:List (List DT),l≠ []->Oj l∈l:=by
 have:∀l:List (List DT),l=[]∨((l.foldl HD ([],false)).1∈l/\(l.foldl HD ([],false)).2=true):=by
  refine MW (.inl V) λl x h=>.inr ?_;rw[th];show(HD _ x).1∈l++ [x]/\(HD _ x).2=true;rcases h with rfl | ⟨K,O⟩;exact⟨by simp[HD],V⟩;unfold HD;split;exact⟨by simp,V⟩;exact⟨sD _ K,O⟩
 intro l U;rcases this l with h | ⟨h,_⟩;exact absurd h U;exact h
theorem j9:(Nj 2 (λT=> !(FD 2 T λ_=>true).isEmpty)&&Nj 3 (λT=> !(FD 3 T λ_=>true).isEmpty)&&Nj 4 (λT=> !(FD 4 T λ_=>true).isEmpty))=true:=by decide+kernel
theorem iW(h:VO o)(K:o.1.length<=4):HN o≠ []:=by
 have aq:=h.n2;obtain⟨_,O⟩:=L9 (F:=101) (by omega) h;have Z:=W2 h;have ac:=b7 h;have key:=j9;simp only[f5] at key;have ag:o.1.length=2∨o.1.length=3∨o.1.length=4:=by omega
 have al:Nj o.1.length (λT=> !(FD o.1.length T λ_=>true).isEmpty)=true:=by
  rcases ag with e | e | e<;>rw[e];exact key.1.1;exact key.1.2;exact key.2
 have U:∀j,o.1.length<=j->gN (BT o) j=0:=λj am=>Z j am;obtain⟨T,Y,ap⟩:=aA al O.1 U K (by have:=U 4 K;unfold Mq at ac;omega);intro e;have e:FW o.1.length (BT o) (λ_=>true)=[]:=e;have:=(jZ (n:=o.1.length) (w:=BT o) (P:=λ_=>true) h.n5 O.1 ap).WA;rw[e] at this;rw[← this] at Y;cases Y
open Go Go.Conc Go.Proofs
def Oq(fu_:Nat)(p0:Bh)(p1:AH):Option ((List Int)×Int):=
 (f70 fu_ p0 ([])).bind λK=>
 if K.2≠0 then(
  some ([],K.2)
 ) else(
  (No fu_ K.1 p1).bind λY=>
  (Tu fu_ Y).bind λO=>
  if O≠0 then(
   some ([],O)
  ) else(
   (f77 fu_ K.1 p1).bind λU=>
   if(!U.2)=true then(
    some ([],11)
   ) else(
    some (U.1,0)
   )
  )
 )
variable{a1 ag am:As}{al ap fu_:Nat}{p0:Bh}{p1:AH}
theorem gX{E:LH}(a7:GE E)(a8:Ao (rL rI) E a1 c2 (p0.1))(a9:Ao AF E ag al (p0.2))(aq:Ao AF E am ap (p1)){r:(List Int)×Int}(av:Oq fu_ p0 p1=some r):AZ (Hi Tryz.prog) 7 [.agg #[.slice a1 (p0.1).length c2,.slice ag (p0.2).length al],.slice am (p1).length ap] E [] (λw E' B'=>∃(aw:As) (ay:Nat),w=.tuple #[.slice aw (r.1).length ay,iV r.2]/\B'=[]/\Ao rI E' aw ay (r.1)):=by
 refine Bq Tryz.func7 λQ c5 cs H bb ac=>?_;unfold Oq at av;refine C 2 V (DD bb λc6 c7 O be bi=>?_);refine C 5 V (B6 be EK CJ V V ?_);let⟨c8,bn,bo⟩:=bs av;refine BW (Lc (a8.M O) (a9.M O) Ao.nil bn) V V KR bi ?_;rintro _ c9 _ Y ⟨dd,dj,ea,eb,rfl,rfl,az,a0⟩ bv;refine C 3 V (B5 bv HT λec bw=>?_);refine JS.sx 3 bw DR λbx=>?_;refine Db 3 bx V λed K a2 a3=>C 8 V (AX bo (λbz b0=>?_) (λbz b1=>?_));refine C 6 V ?_;cases b0;exact AW Tryz.func7 V V (ac ((O.trans Y).trans K) V ⟨none,0,V,V,Ao.nil⟩ a3);refine C 4 V (B6 a2 FV DR V V ?_);let⟨ee,b2,b3⟩:=bs b1;refine C 1 V (BW (XY (az.M K) (a0.M K) (aq.M ((O.trans Y).trans K)) b2) V V (A4 Tryz.func23 V) a3 ?_);rintro ef eg _ U ⟨_,rfl,rfl,b4⟩ b5;let⟨ej,b6,ca⟩:=bs b3;refine Co (Wq (a7.M (((O.trans Y).trans K).trans U)) b4 b6) V V (A4 Tryz.func22 V) b5 λek Z a4=>C 7 V (AX ca (λcc ce=>?_) (λcc ci=>?_));refine C 6 V ?_;cases ce;exact AW Tryz.func7 V V (ac ((((O.trans Y).trans K).trans U).trans Z) V ⟨none,0,V,V,Ao.nil⟩ a4);refine C 3 V (B6 (a2.M (U.trans Z)) FV DR V V ?_);let⟨co,cp,ct⟩:=bs ci;refine C 1 V (BW (Ye (az.M ((K.trans U).trans Z)) (a0.M ((K.trans U).trans Z)) (aq.M ((((O.trans Y).trans K).trans U).trans Z)) cp) V V (A4 Tryz.func24 V) a4 ?_);rintro _ el _ a5 ⟨cw,cy,rfl,rfl,c0⟩ a6;refine C 10 V (An (v:=.bool (!co.2)) V (λρ h=>Yl.not (h _ _ V)) ?_);refine JL.done (Cp ct (λc1 c3=>?_) (λc1 c4=>?_));refine C 5 V ?_;cases c3;exact AW Tryz.func7 V V (ac (((((O.trans Y).trans K).trans U).trans Z).trans a5) V ⟨none,0,V,V,Ao.nil⟩ a6);refine C 7 V ?_;cases c4;exact AW Tryz.func7 V V (ac (((((O.trans Y).trans K).trans U).trans Z).trans a5) V ⟨cw,cy,V,V,c0⟩ a6)
variable {J:Judge Tryz.prog}{E:LH}
def Tm(fu_:Nat)(p0:List Int):Option ((List Int)):=
 (Ex ([]:List Int) p0).bind λK=>
 some K
theorem gA{p0:List Int}(Y:Ao rI E a1 c2 (p0)){r:(List Int)}(K:Tm fu_ p0=some r):AZ J 98 [.slice a1 (p0).length c2] E [] (λw E' B'=>∃(O:As) (U:Nat) (g0:Seg),w=.slice O (r).length U/\B'=g0/\OL 3 rI E' O U g0 (r)):=by
 refine Bq Tryz.func98 λQ a0 cs H Z ac=>?_;unfold Tm at K;refine C 6 V (PT (pp:=rI) V V V Tryz.underlying22 AK Z λa2 a3 ag al=>?_);let⟨a4,am,ap⟩:=bs K;refine C 1 V (JX (pp:=rI) 1 am V V V V V V V Tryz.underlying22 Tryz.underlying22 AK (Dc Tryz.type3) CR V (by decide) (by decide) ag Y al V λaq av aw ay az=>?_);refine C 2 V ?_;cases ap;exact AW Tryz.func98 V V (ac (Le.refl _) V ⟨aq,av,aw,V,(by first | rfl | simp | (simp[Value.cells])),ay⟩ az)
def Wm(fu_:Nat)(p0:Int)(O:Bs×Int)(U:Bs×Int)(K:Bs×Int):Option (Bm (Bs×Int) (Bs)):=
 if K.2<p0 then(
  (ix O.1 (U.2)).bind λY=>
  (Tm fu_ Y).bind λZ=>
  (room Z K.2).bind λac=>
  (room K.1 ac).bind λag=>
  (Au (K.2+1)).bind λal=>
  some (.more (ag,al))
 ) else(
  some (.done K.1)
 )
def Wr(fu_:Nat)(p0:Int)(O:Bs×Int)(K:Bs×Int):Option (Bm (Bs×Int) (Bs)):=
 if K.2<((O.1).length:Int) then(
  Option.bind (iter (Wm fu_ p0 O K) fu_ (K.1,0)) λU=>
  (Au (K.2+1)).bind λY=>
  some (.more (U,Y))
 ) else(
  some (.done K.1)
 )
def WX(fu_:Nat)(p0:Int)(p1:Int)(K:Bs×Int):Option (Bm (Bs×Int) (Bs)):=
 if K.2<p1 then(
  Option.bind (iter (Wr fu_ p0 K) fu_ ([],0)) λO=>
  (Au (K.2+1)).bind λU=>
  some (.more (O,U))
 ) else(
  some (.done K.1)
 )
def TQ(fu_:Nat)(p0:Int)(p1:Int):Option (Bs):=
 Option.bind (iter (WX fu_ p0 p1) fu_ (([[]]:Bs),0)) λK=>
 some K
variable{r:Bs}
theorem iL{p0:Int}(b1:TQ fu_ p0 i0=some r):AZ J 60 [iV p0,iV i0] E [] (λw E' B'=>∃(b2:As) (b3:Nat),w=.slice b2 (r).length b3/\B'=[]/\Ao (rL rI) E' b2 b3 (r)):=by
 refine Bq Tryz.func60 λQ hs cs H c0 c1=>?_;unfold TQ at b1;refine C 6 V (Gq (pp:=(rL rI)) [.slice none 0 0] [[]] V V V Tryz.underlying25 ET KV (by decide) V V V ⟨⟨_,_,V,Ao.nil⟩,trivial⟩ c0 λr1 g2 c2 c3=>?_);let⟨b4,c4,c5⟩:=bs b1;refine C 7 V (Bx (λL s=>∃(bb:LH) (ay:As) (az:Nat) (be:Seg),Jn E H bb [be] [(5,.slice ay (b4).length az)] L s (OL 22 (rL rI) bb ay az be (b4))) ?_ ?_);rintro _ _ ⟨bb,ay,az,be,rfl,rfl,c6,c7,c8⟩;refine C 5 V (Ck 0 c8 c7 V λht c9 dd dj=>?_);cases c5;exact AW Tryz.func60 V V (c1 (c6.trans c9) V ⟨ay,az,V,V,dd⟩ dj);intro ea;refine JL.block (Ch c4 (λL s K=>∃(O:LH) (U:As) (Y:Nat) (Z:Seg),Jn E H O [Z] [(0,iV p0),(1,iV i0),(5,.slice U (K.1).length Y),(6,iV K.2)] L s (OL 22 (rL rI) O U Y Z (K.1))) ⟨E,(some ⟨r1,0,none⟩),1,g2,V,V,(Le.refl _),c3,c2⟩ ?_);rintro _ _ K ⟨O,U,Y,Z,rfl,rfl,b5,b6,ca⟩ eb ⟨hu,bi⟩ ec;have cc:=bi;unfold WX at cc;refine C 7 V (AX cc (λed ee=>?_) (λed ef=>?_));let⟨bn,eg,ej⟩:=bs ee;refine C 12 V (Bx (λL s=>∃(a0:LH) (a1:As) (a2:Nat) (a3:Seg),Jn O H a0 [a3] [(0,iV p0),(1,iV i0),(6,iV K.2),(7,.slice a1 (bn).length a2)] L s (OL 22 (rL rI) a0 a1 a2 a3 (bn))) ?_ ?_);rintro _ _ ⟨a0,a1,a2,a3,rfl,rfl,ek,el,em⟩;let⟨eo,ep,er⟩:=bs ej;refine C 7 V (Bt ep V V V ?_);refine C 2 V ?_;cases er;exact Az (ec _ _ (bn,eo) ⟨a0,a1,a2,a3,V,V,(b5.trans ek),el,em⟩ bi) V;intro eu;refine JL.block (Ch eg (λL s ag=>∃(ac:LH) (al:As) (am:Nat) (ap:Seg),Jn O H ac [Z,ap] [(0,iV p0),(1,iV i0),(5,.slice U (K.1).length Y),(6,iV K.2),(7,.slice al (ag.1).length am),(8,iV ag.2)] L s (OL 22 (rL rI) ac al am ap (ag.1))) ⟨O,none,0,[],V,V,(Le.refl _),b6,OL.nil⟩ ?_);rintro _ _ ag ⟨ac,al,am,ap,rfl,rfl,bo,ce,ci⟩ ew ⟨hv,bv⟩ ex;have co:=bv;unfold Wr at co;refine C 5 V (JL.ln Tryz.underlying25 V V V ?_);refine C 2 V (AX co (λey eA=>?_) (λey eC=>?_));let⟨bw,eN,e0⟩:=bs eA;refine C 7 V (Bx (λL s=>∃(a4:LH) (a5:As) (a6:Nat) (a7:Seg),Jn ac H a4 [Z,a7] [(0,iV p0),(1,iV i0),(5,.slice U (K.1).length Y),(6,iV K.2),(7,.slice a5 (bw).length a6),(8,iV ag.2)] L s (OL 22 (rL rI) a4 a5 a6 a7 (bw))) ?_ ?_);rintro _ _ ⟨a4,a5,a6,a7,rfl,rfl,e1,e3,e4⟩;let⟨e5,e6,e7⟩:=bs e0;refine C 3 V (Bt e6 V V V ?_);refine C 2 V ?_;cases e7;exact Az (ex _ _ (bw,e5) ⟨a4,a5,a6,a7,V,V,(bo.trans e1),e3,e4⟩ bv) V;intro e8;refine JL.block (Ch eN (λL s aq=>∃(a8:LH) (av:As) (aw:Nat) (a9:Seg),Jn ac H a8 [Z,a9] [(0,iV p0),(1,iV i0),(5,.slice U (K.1).length Y),(6,iV K.2),(7,.slice av (aq.1).length aw),(8,iV ag.2),(9,iV aq.2)] L s (OL 22 (rL rI) a8 av aw a9 (aq.1))) ⟨ac,al,am,ap,V,V,(Le.refl _),ce,ci⟩ ?_);rintro _ _ aq ⟨a8,av,aw,a9,rfl,rfl,bx,bz,cp⟩ ff ⟨hw,b0⟩ fk;have ct:=b0;unfold Wm at ct;refine C 7 V (AX ct (λfl fm=>?_) (λfl fo=>?_));let⟨fs,fv,fw⟩:=bs fm;refine C 7 V (Ji 0 (ca.M (bo.trans bx)) fv V V V V V V Tryz.underlying25 ET ?_);rintro hx hy f141 _ fN ⟨gc,ge,rfl,gg⟩ gh hz hA hB hC;refine An (v:=.slice gc (fs).length ge) V (λρ h=>Yl.load He (h _ _ V) (B8 (j:=0) bz fN (gh 0 _ V))) ?_;let⟨hD,gt,gE⟩:=bs fw;refine BW (gA gg gt) V V (A4 Tryz.func98 V) bz ?_;rintro _ hE hF cw ⟨gO,g0,_,rfl,rfl,g1⟩ g3;let⟨g4,g5,g6⟩:=bs gE;refine C 1 V (JS.app (pp:=rI) (v:=iV aq.2) (a:=gO) (c:=g0) 2 g5 V V V V (λ_=>V) V (λ_=>V) V V V Tryz.underlying22 Tryz.underlying22 Tryz.underlying22 AK (Dc Tryz.type3) CR V (by decide) (by decide) (by decide) (by decide) g1 V g3 V λhG g7 g8 hH g9 ha=>?_);refine Ck 2 g9 ha V λhb cy hc hd=>?_;let⟨he,hf,hg⟩:=bs g6;refine JS.app (pp:=(rL rI)) (v:=.slice g7 (g4).length g8) (a:=av) (c:=aw) 1 hf V V V V (λ_=>V) V (λ_=>V) V V V Tryz.underlying25 Tryz.underlying25 Tryz.underlying25 ET (Dc Tryz.type22) KV V (by decide) (by decide) (by decide) (by decide) (cp.M (cw.trans cy)) ⟨_,_,V,hc⟩ hd V λhI hj hk hl hm hn=>?_;let⟨ho,hp,hq⟩:=bs hg;refine C 5 V (Bt hp V V V ?_);refine C 2 V ?_;cases hq;exact Az (fk _ _ (he,ho) ⟨hb,hj,hk,hl,V,V,((bx.trans cw).trans cy),hn,hm⟩ b0) V;refine JL.exit V ?_;cases fo;obtain rfl:=ff _ b0;exact Az (e8 _ _ ⟨a8,av,aw,a9,V,V,bx,bz,cp⟩) V;refine JL.exit V (JS.drop 0 ce V λhr=>?_);cases eC;obtain rfl:=ew _ bv;exact Az (eu _ _ ⟨ac,al,am,ap,V,V,bo,hr,ci⟩) V;refine JL.exit V ?_;cases ef;obtain rfl:=eb _ bi;exact Az (ea _ _ ⟨O,U,Y,Z,V,V,b5,b6,ca⟩) V
def WE(fu_:Nat)(p0:Int)(x1:Bs)(O:Bs×Int)(K:Bool×Int):Option (Bm (Bool×Int) (Bool)):=
 if K.2<p0 then(
  Option.bind (
   if K.1=true then(
    (ix x1 (O.2)).bind λU=>
    (f34 fu_ U K.2).bind λY=>
    some (decide (0<=Y))
   ) else(
    some false
   )
  ) λZ=>
  (Au (K.2+1)).bind λac=>
  some (.more (Z,ac))
 ) else(
  some (.done K.1)
 )
def WR(fu_:Nat)(p0:Int)(x1:Bs)(K:Bs×Int):Option (Bm (Bs×Int) (Bs)):=
 if K.2<((x1).length:Int) then(
  Option.bind (iter (WE fu_ p0 x1 K) fu_ (true,0)) λO=>
  Option.bind (
   if O=true then(
    (ix x1 (K.2)).bind λU=>
    (room K.1 U).bind λY=>
    some Y
   ) else(
    some K.1
   )
  ) λZ=>
  (Au (K.2+1)).bind λac=>
  some (.more (Z,ac))
 ) else(
  some (.done K.1)
 )
def Ni(fu_:Nat)(p0:Int):Option (Bs):=
 (TQ fu_ p0 p0).bind λx1=>
 Option.bind (iter (WR fu_ p0 x1) fu_ ([],0)) λK=>
 some K
theorem iU{p0:Int}(be:Ni fu_ p0=some r):AZ J 25 [iV p0] E [] (λw E' B'=>∃(bi:As) (bn:Nat),w=.slice bi (r).length bn/\B'=[]/\Ao (rL rI) E' bi bn (r)):=by
 refine Bq Tryz.func25 λQ g4 cs H b4 b5=>?_;unfold Ni at be;let⟨x1,b6,ca⟩:=bs be;refine C 12 V (BW (iL b6) V V (A4 Tryz.func60 V) b4 ?_);rintro _ a1 _ cc ⟨Z,ac,rfl,rfl,bo⟩ ce;let⟨bv,ci,co⟩:=bs ca;refine C 7 V (Bx (λL s=>∃(a2:LH) (al:As) (am:Nat) (a3:Seg),Jn a1 H a2 [a3] [(3,.slice al (bv).length am)] L s (OL 22 (rL rI) a2 al am a3 (bv))) ?_ ?_);rintro _ _ ⟨a2,al,am,a3,rfl,rfl,cp,ct,cw⟩;refine C 5 V (Ck 0 cw ct V λg5 cy c0 c1=>?_);cases co;exact AW Tryz.func25 V V (b5 ((cc.trans cp).trans cy) V ⟨al,am,V,V,c0⟩ c1);intro c2;refine JL.block (Ch ci (λL s K=>∃(ap:LH) (O:As) (U:Nat) (Y:Seg),Jn a1 H ap [Y] [(0,iV p0),(3,.slice O (K.1).length U),(4,.slice Z (x1).length ac),(5,iV K.2)] L s (OL 22 (rL rI) ap O U Y (K.1))) ⟨a1,none,0,[],V,V,(Le.refl _),ce,OL.nil⟩ ?_);rintro _ _ K ⟨ap,O,U,Y,rfl,rfl,aq,bw,a4⟩ c3 ⟨g6,a5⟩ c4;have bx:=a5;unfold WR at bx;refine C 5 V (JL.ln Tryz.underlying25 V V V ?_);refine C 2 V (AX bx (λc5 c6=>?_) (λc5 c7=>?_));let⟨c8,c9,dd⟩:=bs c6;refine C 12 V (Fg [Y] [(0,iV p0),(3,.slice O (K.1).length U),(4,.slice Z (x1).length ac),(5,iV K.2),(6,.bool c8)] (λa6 av bz=>?_) (λdj=>?_));let⟨a7,ea,eb⟩:=bs dd;refine C 4 V (Bx (λL s=>∃(aw:LH) (ay:As) (az:Nat) (a0:Seg),Jn a6 H aw [a0] [(0,iV p0),(3,.slice ay (a7).length az),(4,.slice Z (x1).length ac),(5,iV K.2)] L s (OL 22 (rL rI) aw ay az a0 (a7))) ?_ ?_);rintro _ _ ⟨aw,ay,az,a0,rfl,rfl,ec,ed,ee⟩;let⟨ef,eg,ej⟩:=bs eb;refine C 3 V (Bt eg V V V ?_);refine C 2 V ?_;cases ej;exact Az (c4 _ _ (a7,ef) ⟨aw,ay,az,a0,V,V,((aq.trans av).trans ec),ed,ee⟩ a5) V;intro b0;refine Cp ea (λek el=>?_) (λek em=>?_);let⟨eo,ep,er⟩:=bs el;refine C 4 V (JS.ix (bo.M (aq.trans av)) ep Tryz.underlying25 ET ?_);rintro g7 g8 _ ⟨eu,ew,rfl,ex⟩ ey;refine CH 0 ey He V V V ?_;let⟨g9,eA,eC⟩:=bs er;refine JS.app (pp:=(rL rI)) (v:=.slice eu (eo).length ew) (a:=O) (c:=U) 0 eA V V V V (λ_=>V) V (λ_=>V) V V V Tryz.underlying25 Tryz.underlying25 Tryz.underlying25 ET (Dc Tryz.type22) KV V (by decide) (by decide) (by decide) (by decide) (a4.M av) ⟨_,_,V,ex⟩ bz V λha eN e0 e1 e3 e4=>C 2 V ?_;cases eC;exact Az (b0 _ _ ⟨a6,eN,e0,e1,V,V,(Le.refl _),e4,e3⟩) V;refine JL.skip ?_;cases em;exact Az (b0 _ _ ⟨a6,O,U,Y,V,V,(Le.refl _),bz,(a4.M av)⟩) V;refine JL.block (Ej c9 (λag=>[Y]) (λag=>[(0,iV p0),(3,.slice O (K.1).length U),(4,.slice Z (x1).length ac),(5,iV K.2),(6,.bool ag.1),(7,iV ag.2)]) (Le.refl _) bw ?_);rintro ag hb a8 a9 e5 ⟨hc,bb⟩ e6;have b1:=bb;unfold WE at b1;refine C 7 V (AX b1 (λe7 e8=>?_) (λe7 ff=>?_));let⟨b2,fk,fl⟩:=bs e8;refine C 6 V (FL 10 1 [Y] [(0,iV p0),(3,.slice O (K.1).length U),(4,.slice Z (x1).length ac),(5,iV K.2),(7,iV ag.2),(31,.bool b2)] (λhd fm fo=>?_) (λb3=>?_));let⟨fs,fv,fw⟩:=bs fl;refine C 5 V (Bt fv V V V ?_);refine C 2 V ?_;cases fw;exact e6 (b2,fs) (a8.trans fm) fo V bb;refine EM 23 fk (λfN gc=>?_) (λfN ge=>?_);let⟨he,gg,gh⟩:=bs gc;refine C 2 V (JS.ix (bo.M (aq.trans a8)) gg Tryz.underlying25 ET ?_);rintro hf hg _ ⟨hj,hk,rfl,gt⟩ gE;refine CH 0 gE He V V V ?_;let⟨hl,gO,g0⟩:=bs gh;refine C 1 V (Co (lB gt gO) V V (A4 Tryz.func61 V) a9 λhm g1 g3=>?_);refine C 2 V ?_;cases g0;exact b3 g1 g3 V;refine C 8 V ?_;cases ge;exact b3 (Le.refl _) a9 V;refine JL.exit V ?_;cases ff;obtain rfl:=e5 _ bb;exact dj a8 a9 V;refine JL.exit V ?_;cases c7;obtain rfl:=c3 _ a5;exact Az (c2 _ _ ⟨ap,O,U,Y,V,V,aq,bw,a4⟩) V
def PQ(fu_:Nat)(p0:Bh)(O:(AT)×Int)(K:(AT)×Int):Option (Bm ((AT)×Int) ((AT))):=
 (ix p0.1 (O.2)).bind λU=>
 if K.2<((U).length:Int) then(
  (ix p0.1 (O.2)).bind λY=>
  (ix Y (K.2)).bind λZ=>
  (room K.1 (Z,O.2)).bind λac=>
  (Au (K.2+1)).bind λag=>
  some (.more (ac,ag))
 ) else(
  some (.done K.1)
 )
def P5(fu_:Nat)(p0:Bh)(K:(AT)×Int):Option (Bm ((AT)×Int) ((AT))):=
 if K.2<((p0.1).length:Int) then(
  Option.bind (iter (PQ fu_ p0 K) fu_ (K.1,0)) λO=>
  (Au (K.2+1)).bind λU=>
  some (.more (O,U))
 ) else(
  some (.done K.1)
 )
def Om(fu_:Nat)(p0:Bh):Option ((AT)):=
 Option.bind (iter (P5 fu_ p0) fu_ ([],0)) λK=>
 some K
theorem jO{bn:As}{bo:Nat}(bv:Ao (rL rI) E a1 c2 (p0.1))(fo:Ao AF E bn bo (p0.2)){r:(AT)}(bw:Om fu_ p0=some r):AZ J 27 [.agg #[.slice a1 (p0.1).length c2,.slice bn (p0.2).length bo]] E [] (λw E' B'=>∃(bx:As) (bz:Nat),w=.slice bx (r).length bz/\B'=[]/\Ao EP E' bx bz (r)):=by
 refine Bq Tryz.func27 λQ fs cs H cc ce=>?_;unfold Om at bw;refine C 2 V (DD cc λa4 a5 a6 a7 ci=>?_);let⟨b0,co,cp⟩:=bs bw;refine C 11 V (Bx (λL s=>∃(a8:LH) (aq:As) (av:Nat) (a9:Seg),Jn a5 H a8 [a9] [(3,.slice aq (b0).length av)] L s (OL 127 EP a8 aq av a9 (b0))) ?_ ?_);rintro _ _ ⟨a8,aq,av,a9,rfl,rfl,ct,cw,cy⟩;refine C 5 V (Ck 0 cy cw V λfv c0 c1 c3=>?_);cases cp;exact AW Tryz.func27 V V (ce ((a6.trans ct).trans c0) V ⟨aq,av,V,V,c1⟩ c3);intro c4;refine JL.block (Ch co (λL s K=>∃(O:LH) (Z:As) (ac:Nat) (ag:Seg),Jn a5 H O [ag] [(1,.pointer (some ⟨a4,0,none⟩)),(3,.slice Z (K.1).length ac),(4,iV K.2)] L s (OL 127 EP O Z ac ag (K.1))) ⟨a5,none,0,[],V,V,(Le.refl _),ci,OL.nil⟩ ?_);rintro _ _ K ⟨O,Z,ac,ag,rfl,rfl,U,b1,b2⟩ c5 ⟨fw,bb⟩ c6;have b3:=bb;unfold P5 at b3;refine C 4 V (Cc 0 (a7.M U) Tryz.underlying28 FI FX ?_);refine JL.ln Tryz.underlying25 V V V (C 2 V ?_);refine AX b3 (λc7 c8=>?_) (λc7 c9=>?_);let⟨be,dd,dj⟩:=bs c8;refine C 7 V (Bx (λL s=>∃(aw:LH) (ay:As) (az:Nat) (a0:Seg),Jn O H aw [a0] [(1,.pointer (some ⟨a4,0,none⟩)),(3,.slice ay (be).length az),(4,iV K.2)] L s (OL 127 EP aw ay az a0 (be))) ?_ ?_);rintro _ _ ⟨aw,ay,az,a0,rfl,rfl,ea,eb,ec⟩;let⟨ed,ee,ef⟩:=bs dj;refine C 3 V (Bt ee V V V ?_);refine C 2 V ?_;cases ef;exact Az (c6 _ _ (be,ed) ⟨aw,ay,az,a0,V,V,(U.trans ea),eb,ec⟩ bb) V;intro eg;refine JL.block (Ch dd (λL s a2=>∃(al:LH) (am:As) (ap:Nat) (a3:Seg),Jn O H al [a3] [(1,.pointer (some ⟨a4,0,none⟩)),(3,.slice am (a2.1).length ap),(4,iV K.2),(5,iV a2.2)] L s (OL 127 EP al am ap a3 (a2.1))) ⟨O,Z,ac,ag,V,V,(Le.refl _),b1,b2⟩ ?_);rintro _ _ a2 ⟨al,am,ap,a3,rfl,rfl,Y,b4,b5⟩ ej ⟨fN,bi⟩ ek;have b6:=bi;unfold PQ at b6;refine C 4 V (Cc 0 (a7.M (U.trans Y)) Tryz.underlying28 FI FX ?_);let⟨gc,el,em⟩:=bs b6;refine C 1 V (JS.ix (bv.M ((a6.trans U).trans Y)) el Tryz.underlying25 ET ?_);rintro ge gg _ ⟨gh,gt,rfl,gE⟩ eo;refine CH 0 eo He V V V (JL.ln Tryz.underlying22 V V V ?_);refine C 2 V (AX em (λep er=>?_) (λep eu=>?_));refine C 5 V (Cc 0 (a7.M (U.trans Y)) Tryz.underlying28 FI FX ?_);let⟨gO,ew,ex⟩:=bs er;refine C 1 V (JS.ix (bv.M ((a6.trans U).trans Y)) ew Tryz.underlying25 ET ?_);rintro g0 g1 _ ⟨g3,g4,rfl,ey⟩ eA;refine CH 0 eA He V V V ?_;let⟨ca,eC,eN⟩:=bs ex;refine C 1 V (JS.ix ey eC Tryz.underlying22 AK ?_);rintro g5 g6 _ rfl e0;refine CH 0 e0 Bb V V V (C 1 V ?_);refine An (v:=.agg #[iV ca,iV K.2]) V (λρ h=>C4 [(0,1),(1,1)] h Rl Tryz.underlying127 ⟨V,A0 Tryz.type3,V,A0 Tryz.type3,trivial⟩ V V) ?_;let⟨e1,e3,e4⟩:=bs eN;refine JS.app (pp:=EP) (v:=.agg #[iV ca,iV K.2]) (a:=am) (c:=ap) 0 e3 V V V V (λ_=>V) V (λ_=>V) V V V Tryz.underlying67 Tryz.underlying67 Tryz.underlying67 LC (Dc Tryz.type127) Rl V (by decide) (by decide) (by decide) (by decide) b5 ⟨_,_,V,V,V⟩ b4 V λg7 e5 e6 e7 e8 ff=>?_;let⟨fk,fl,fm⟩:=bs e4;refine C 5 V (Bt fl V V V ?_);refine C 2 V ?_;cases fm;exact Az (ek _ _ (e1,fk) ⟨al,e5,e6,e7,V,V,Y,ff,e8⟩ bi) V;refine JL.exit V ?_;cases eu;obtain rfl:=ej _ bi;exact Az (eg _ _ ⟨al,am,ap,a3,V,V,Y,b4,b5⟩) V;refine JL.exit V ?_;cases c9;obtain rfl:=c5 _ bb;exact Az (c4 _ _ ⟨O,Z,ac,ag,V,V,U,b1,b2⟩) V
def PK(fu_:Nat)(p0:AT)(p1:AH)(p2:List Int)(p4:Int)(rec:(AT)->AH->(List Int)->Int->Int->Option (Bool))(O:Int×Int×Int)(K:Int):Option (Bm (Int) ((Bool)⊕(Unit))):=
 if K<((p0).length:Int) then(
  Option.bind (
   (ix p0 (K)).bind λY=>
   Option.bind (
    if Y.2≠O.1 then(
     some true
    ) else(
     (ix p0 (K)).bind λZ=>
     some (decide (p4<Z.1))
    )
   ) λac=>
   if ac=true then(
    some (Sum.inr ())
   ) else(
    (Ex ([]:AT) p0).bind λU=>
    (ix U (K)).bind λag=>
    (Au (K+1)).bind λal=>
    (ix p0 (K)).bind λam=>
    (Au (p4 - am.1)).bind λap=>
    (rec (U.set (Int.toNat K) (ag.1,O.2.1)) p1 p2 al ap).bind λaq=>
    if aq=true then(
     some (Sum.inl true)
    ) else(
     some (Sum.inr ())
    )
   )
  ) λav=>Sum.elim (λr=>some (.done (Sum.inl r))) (λay=>
  (Au (K+1)).bind λaw=>
  some (.more aw)
  ) av
 ) else(
  some (.done (Sum.inr ()))
 )
def Qh(rec:(AT)->AH->(List Int)->Int->Int->Option (Bool))(fu_:Nat)(p0:AT)(p1:AH)(p2:List Int)(p3:Int)(p4:Int):Option (Bool):=
 if((p2).length:Int)=0 then(
  some true
 ) else(
  (ix p2 (0)).bind λK=>
  (ix p1 (K)).bind λO=>
  if p4=0 then(
   if((p2).length:Int)=1 then(
    some true
   ) else(
    (Ho p2 1 ((p2).length:Int)).bind λU=>
    (ix p2 (1)).bind λY=>
    (ix p1 (Y)).bind λZ=>
    (rec p0 p1 U 0 Z.2.2).bind λac=>
    some ac
   )
  ) else(
   Option.bind (iter (PK fu_ p0 p1 p2 p4 rec O) fu_ p3) λag=>
   Sum.elim (λr=>some r) (λal=>
   some false
   ) ag
  )
 )
abbrev QS(J:Judge Tryz.prog)(rec:(AT)->AH->(List Int)->Int->Int->Option (Bool)):Prop:=∀{E:LH}{a1:As}{c2:Nat}{K:As}{O:Nat}{U:As}{Y:Nat}{p0:AT}{p1:AH}{p2:List Int}{p3:Int}{p4:Int}(Z:Ao EP E a1 c2 (p0)) (ac:Ao AF E K O (p1)) (ag:Ao rI E U Y (p2)) {r:Bool}(al:rec p0 p1 p2 p3 p4=some r),AZ J 26 [.slice a1 (p0).length c2,.slice K (p1).length O,.slice U (p2).length Y,iV p3,iV p4] E [] (λw E' B'=>w=.bool r/\B'=[])
theorem cA{J:Judge Tryz.prog}{rec:(AT)->AH->(List Int)->Int->Int->Option (Bool)}(bi:QS J rec):QS J (Qh rec fu_):=by
 intro E a1 c2 aq av aw ay p0 p1 p2 p3 p4 ag az a0 r bn;refine Bq Tryz.func26 λQ hF cs H bo al=>?_;unfold Qh at bn;refine C 8 V (JL.ln Tryz.underlying22 V V V ?_);refine C 2 V (AX bn (λcy c0=>?_) (λcy c1=>?_));refine C 4 V ?_;cases c0;exact AW Tryz.func26 V V (al (Le.refl _) V ⟨V,(by first | rfl | simp)⟩ bo);let⟨hG,c3,c4⟩:=bs c1;refine C 5 V (JS.ix a0 c3 Tryz.underlying22 AK ?_);rintro hH hI _ rfl c5;refine CH 0 c5 Bb V V V ?_;let⟨Z,c6,c7⟩:=bs c4;refine JS.ix az c6 Tryz.underlying26 Bv ?_;rintro hK hL _ ⟨_,_,rfl,rfl,⟨_,_,rfl,rfl,rfl⟩⟩ c8;refine B6 c8 Ei Bv V V (B5 bo BU λam c9=>?_);refine JS.sx 1 c9 Bv λdd=>?_;refine Db 1 dd V λdj O bv a5=>C 7 V (AX c7 (λea eb=>?_) (λea ec=>?_));refine C 4 V (JL.ln Tryz.underlying22 V V V ?_);refine C 2 V (AX eb (λed ee=>?_) (λed ef=>?_));refine C 4 V ?_;cases ee;exact AW Tryz.func26 V V (al O V ⟨V,(by first | rfl | simp)⟩ a5);refine C 2 V (Fu 11 λK=>?_);refine A5 K V [0,1,2] V ?_;let⟨eg,ej,ek⟩:=bs ef;let⟨el,em,eo,ep⟩:=Ao.cut (a0.M O) ej;refine JG.val (v:=.slice el (eg).length em) 3 V K (by decide+kernel) V V V (λρ h s' hM=>ep Tryz.underlying22 AK (h _ _ V) V (h _ _ V)) (A5 K V [4,5] V ?_);let⟨hN,er,eu⟩:=bs ek;refine Ew 6 (a0.M O) er K Tryz.underlying22 AK ?_;rintro hO hP _ rfl ew;refine DC 7 K 0 ew Bb V V V V ?_;let⟨hQ,ex,ey⟩:=bs eu;refine Ew 8 (az.M O) ex K Tryz.underlying26 Bv ?_;rintro hR hS _ ⟨_,_,rfl,rfl,⟨_,_,rfl,rfl,rfl⟩⟩ eA;refine JG.fd 9 K Tryz.underlying52 AK V V V V (DC 10 K 2 eA Bb V V V V ?_);refine De [11,12] ?_;let⟨hT,eC,eN⟩:=bs ey;refine Co (bi (ag.M O) (az.M O) eo eC) V V Rq a5 λhU e0 e1=>C 2 V ?_;cases eN;exact AW Tryz.func26 V V (al (O.trans e0) V ⟨V,(by first | rfl | simp)⟩ e1);let⟨bw,e3,bx⟩:=bs ec;refine C 7 V (Bx (λL s=>∃(bz:Unit) (b0:LH),bw=Sum.inr bz/\Jm dj H b0 [] [] L s) ?_ ?_);rintro _ _ ⟨bz,b0,rfl,rfl,rfl,e4,e5⟩;have e6:=elim_inr bx;refine C 4 V ?_;cases e6;exact AW Tryz.func26 V V (al (O.trans e4) V ⟨V,(by first | rfl | simp)⟩ e5);intro e7;refine JL.block (Ej e3 (λU=>[]) (λU=>[(0,.slice a1 (p0).length c2),(1,.slice aq (p1).length av),(2,.slice aw (p2).length ay),(4,iV p4),(11,.pointer (some ⟨am,0,none⟩)),(12,iV U)]) (Le.refl _) a5 ?_);rintro U a2 Y a6 b1 ⟨hV,a3⟩ e8;have b2:=a3;unfold PK at b2;refine C 5 V (JL.ln Tryz.underlying67 V V V ?_);refine C 2 V (AX b2 (λff fk=>?_) (λff fl=>?_));let⟨fm,fo,b3⟩:=bs fk;refine C 2 V (Bx (λL s=>∃(b4:Unit) (b5:LH),fm=Sum.inr b4/\Jm a2 H b5 [] [(0,.slice a1 (p0).length c2),(1,.slice aq (p1).length av),(2,.slice aw (p2).length ay),(4,iV p4),(11,.pointer (some ⟨am,0,none⟩)),(12,iV U)] L s) ?_ ?_);rintro _ _ ⟨b4,b5,rfl,rfl,rfl,fs,fv⟩;have fw:=elim_inr b3;let⟨fN,gc,ge⟩:=bs fw;refine C 2 V (Bt gc V V V ?_);refine C 2 V ?_;cases ge;exact e8 fN (Y.trans fs) fv V a3;intro b6;refine C 3 V (Fu 17 λK=>?_);refine A5 K V [0,1] V ?_;let⟨gg,gh,gt⟩:=bs fo;refine Ew 2 (ag.M (O.trans Y)) gh K Tryz.underlying67 LC ?_;rintro hW hX _ ⟨_,_,rfl,rfl,rfl⟩ gE;refine JG.fd 3 K Tryz.underlying127 AK V V V V (DC 4 K 1 gE Bb V V V V ?_);refine JG.fd 5 K Tryz.underlying52 AK V V V V (DC 6 K 0 (bv.M Y) Bb V V V V ?_);refine A5 K V [7,8] V ?_;let⟨ca,cc,gO⟩:=bs gt;refine F5 0 (tR_ 17 0) (λL s=>L=[(0,.slice a1 (p0).length c2),(1,.slice aq (p1).length av),(2,.slice aw (p2).length ay),(4,iV p4),(11,.pointer (some ⟨am,0,none⟩)),(12,iV U),(63,.bool ca)]/\s=Ak a2 H []) ?_ ?_;rintro _ _ ⟨rfl,rfl⟩;refine A3.fin (by decide+kernel) (Cp gO (λg0 g1=>?_) (λg0 g3=>?_));exact JL.exit V (Az (b6 _ _ ⟨(),a2,(f6 g1).symm,V,V,(Le.refl _),a6⟩) V);refine C 3 V (PT (pp:=EP) V V V Tryz.underlying67 LC a6 λhY h0 g4 g5=>?_);let⟨ap,g6,g7⟩:=bs g3;refine C 1 V (JX (pp:=EP) 0 g6 V V V V V V V Tryz.underlying67 Tryz.underlying67 LC (Dc Tryz.type127) Rl V (by decide) (by decide) g4 (ag.M (O.trans Y)) g5 V λa7 a8 h1 g8 g9=>?_);refine C 6 V (Cc 1 (bv.M Y) Tryz.underlying52 AK Bb ?_);let⟨ac,ha,hb⟩:=bs g7;refine Ji 0 g8 ha V V V V V V Tryz.underlying67 LC ?_;rintro ce a9 f133 _ hc ⟨_,_,rfl,rfl,rfl⟩ hd ci he h2 h3;refine JL.fd Tryz.underlying127 AK V V V (JS.store (v:=iV Z.2.1) (off:=a9+1) 0 V V V g9 V V AK (by simp[Value.cells,C5]) hc (by have:=ci;simp only[Rp.n,rK,rN,rB,rP,rL] at this;show _+1<=_;omega) λco=>?_);rw[ZP (m:=1) (ws:=[iV ac.1,iV ac.2]) (vs:=[iV ac.1,iV Z.2.1]) (by have:=ci;simp only[Rp.n,rK,rN,rB,rP,rL] at this;show _+2<=_;omega) hd rfl (rT rfl)] at co ⊢;have hf:=he ((ac.1,Z.2.1)) [iV ac.1,iV Z.2.1] ⟨_,_,V,V,V⟩;have bb:(ap.set (Int.toNat U) (ac.1,Z.2.1)).length=(ap).length:=rW;refine EV (L':=[(0,.slice a1 (p0).length c2),(1,.slice aq (p1).length av),(2,.slice aw (p2).length ay),(4,iV p4),(11,.pointer (some ⟨am,0,none⟩)),(12,iV U),(63,.bool ca),(65,.slice a1 (p0).length c2),(66,.slice a7 ((ap.set (Int.toNat U) (ac.1,Z.2.1))).length a8),(13,.slice a7 ((ap.set (Int.toNat U) (ac.1,Z.2.1))).length a8),(67,.slice a7 ((ap.set (Int.toNat U) (ac.1,Z.2.1))).length a8),(68,iV U),(69,.pointer (some ⟨am,1,none⟩)),(70,iV Z.2.1),(71,.pointer (some ⟨ce,a9,none⟩)),(72,.pointer (some ⟨ce,a9+1,none⟩))]) ⟨V,V,V,V,V,V,V,V,by rw[bb];rfl,by rw[bb];rfl,by rw[bb];rfl,V,V,V,V,V,trivial⟩ ?_;let⟨h4,hg,hj⟩:=bs hb;refine C 7 V (Bt hg V V V ?_);let⟨h5,hk,hl⟩:=bs hj;refine C 3 V (JS.ix (ag.M (O.trans Y)) hk Tryz.underlying67 LC ?_);rintro h6 h7 _ ⟨_,_,rfl,rfl,rfl⟩ hm;refine Cc 0 hm Tryz.underlying127 AK Bb ?_;let⟨h8,hn,ho⟩:=bs hl;refine BY hn V V V (Ck 0 hf co V λh9 a4 hp hq=>?_);let⟨ia,hr,hs⟩:=bs ho;refine Co (bi hp (az.M ((O.trans Y).trans a4)) (a0.M ((O.trans Y).trans a4)) hr) V V Rq hq λht cp ct=>JL.done (Cp hs (λhu hv=>?_) (λhu hw=>?_));refine C 4 V ?_;cases hv;have hx:=elim_inl b3;cases hx;obtain rfl:=b1 _ a3;have hy:=elim_inl bx;cases hy;exact AW Tryz.func26 V V (al (((O.trans Y).trans a4).trans cp) V ⟨V,(by first | rfl | simp)⟩ ct);exact C 2 V (Az (b6 _ _ ⟨(),ht,(f6 hw).symm,V,V,(a4.trans cp),ct⟩) V);intro cw;refine GC (q:=gg.2≠Z.1) (i:=55) V (λbe=>?_) (λbe=>?_);have hz:=ip cc be;refine A5 K V [9,10,11,12,13,14,15,16] V ?_;cases hz;refine Dy ?_ (cw _ _ ⟨V,V⟩);exact⟨V,V,V,V,V,V,V,trivial⟩;have hA:=im cc be;refine A5 K V [9,10] V ?_;let⟨ih,hB,hC⟩:=bs hA;refine Ew 11 (ag.M (O.trans Y)) hB K Tryz.underlying67 LC ?_;rintro ii io _ ⟨_,_,rfl,rfl,rfl⟩ hD;refine JG.fd 12 K Tryz.underlying127 AK V V V V ?_;refine DC 13 K 0 hD Bb V V V V ?_;refine A5 K V [14,15,16] V ?_;cases hC;refine Dy ?_ (cw _ _ ⟨V,V⟩);exact⟨V,V,V,V,V,V,V,trivial⟩;refine JL.exit V ?_;cases fl;have hE:bw=(Sum.inr ()):=(b1 _ a3).symm;exact Az (e7 _ _ ⟨(),a2,hE,V,V,Y,a6⟩) V
def N9:Nat->Nat->(AT)->AH->(List Int)->Int->Int->Option (Bool)
 | 0,_=>λ_ _ _ _ _=>none
 | n+1,fu_=>λp0 p1 p2 p3 p4=>Qh (N9 n fu_) fu_ p0 p1 p2 p3 p4
theorem dK{J:Judge Tryz.prog}{n:Nat}:QS J (N9 n fu_):=by
 induction n with
 | zero=>intro _ _ _ _ _ _ _ _ _ _ _ _ _ _ _ _ K;cases K
 | succ n O=>exact cA O
def Yw(fu_:Nat)(p0:AT)(p1:AH)(p2:List Int)(p3:Int)(p4:Int):Option (Bool):=N9 fu_ fu_ p0 p1 p2 p3 p4
theorem iF:QS J (Yw fu_):=dK (n:=fu_) (fu_:=fu_)
def Qc(fu_:Nat)(p0:Bh)(p1:AH)(O:Bs)(K:Int):Option (Bm (Int) (((List Int)×Bool)⊕(Unit))):=
 if K<((O).length:Int) then(
  (ix O (K)).bind λU=>
  (ix O (K)).bind λY=>
  (ix Y (0)).bind λZ=>
  (ix p1 (Z)).bind λac=>
  (Om fu_ p0).bind λag=>
  (Yw fu_ ag p1 U 0 ac.2.2).bind λal=>
  if al=true then(
   (ix O (K)).bind λam=>
   some (.done (Sum.inl (am,true)))
  ) else(
   (Au (K+1)).bind λap=>
   some (.more ap)
  )
 ) else(
  some (.done (Sum.inr ()))
 )
def Mj(fu_:Nat)(p0:Bh)(p1:AH):Option ((List Int)×Bool):=
 if((p1).length:Int)=0 then(
  some ([],true)
 ) else(
  (Ni fu_ ((p1).length:Int)).bind λK=>
  Option.bind (iter (Qc fu_ p0 p1 K) fu_ 0) λO=>
  Sum.elim (λr=>some r) (λU=>
  some ([],false)
  ) O
 )
theorem SW(bn:Ao (rL rI) E a1 c2 (p0.1))(bo:Ao AF E ag al (p0.2))(az:Ao AF E am ap (p1)){r:(List Int)×Bool}(a0:Mj fu_ p0 p1=some r):AZ J 8 [.agg #[.slice a1 (p0.1).length c2,.slice ag (p0.2).length al],.slice am (p1).length ap] E [] (λw E' B'=>∃(a2:As) (a3:Nat),w=.tuple #[.slice a2 (r.1).length a3,.bool r.2]/\B'=[]/\Ao rI E' a2 a3 (r.1)):=by
 refine Bq Tryz.func8 λQ e6 cs H bv aq=>?_;unfold Mj at a0;refine C 2 V (DD bv λbw e7 U bx a4=>?_);refine C 7 V (JL.ln Tryz.underlying26 V V V ?_);refine C 2 V (AX a0 (λbz b0=>?_) (λbz b1=>?_));refine C 5 V ?_;cases b0;exact AW Tryz.func8 V V (aq U V ⟨none,0,V,V,Ao.nil⟩ a4);refine C 4 V (JL.ln Tryz.underlying26 V V V ?_);let⟨b2,b3,b4⟩:=bs b1;refine BW (iU b3) V V (A4 Tryz.func25 V) a4 ?_;rintro _ b5 _ Y ⟨b6,ca,rfl,rfl,av⟩ cc;let⟨a5,ce,a6⟩:=bs b4;refine C 7 V (Bx (λL s=>∃(a7:Unit) (a8:LH),a5=Sum.inr a7/\Jm b5 H a8 [] [] L s) ?_ ?_);rintro _ _ ⟨a7,a8,rfl,rfl,rfl,ci,co⟩;have cp:=elim_inr a6;refine C 5 V ?_;cases cp;exact AW Tryz.func8 V V (aq ((U.trans Y).trans ci) V ⟨none,0,V,V,Ao.nil⟩ co);intro ct;refine JL.block (Ej ce (λaw=>[]) (λaw=>[(1,.slice am (p1).length ap),(2,.pointer (some ⟨bw,0,none⟩)),(6,.slice b6 (b2).length ca),(7,iV aw)]) (Le.refl _) cc ?_);rintro aw cw O a9 bb ⟨e8,ac⟩ cy;have be:=ac;unfold Qc at be;refine C 5 V (JL.ln Tryz.underlying25 V V V ?_);refine C 2 V (AX be (λc0 c1=>?_) (λc0 c3=>?_));refine C 4 V (Fu 17 λK=>?_);refine Kv 0 K (bx.M (Y.trans O)) EK CJ V V V (A5 K V [2,3,4] V ?_);let⟨ff,c4,c5⟩:=bs c1;refine Ew 5 (av.M O) c4 K Tryz.underlying25 ET ?_;rintro fk fl _ ⟨fm,fo,rfl,c6⟩ c7;refine DC 6 K 0 c7 He V V V V (A5 K V [7,8,9] V ?_);let⟨fs,c8,c9⟩:=bs c5;refine Ew 10 (av.M O) c8 K Tryz.underlying25 ET ?_;rintro fv fw _ ⟨fN,gc,rfl,dd⟩ dj;refine DC 11 K 0 dj He V V V V ?_;let⟨ge,ea,eb⟩:=bs c9;refine Ew 12 dd ea K Tryz.underlying22 AK ?_;rintro gg gh _ rfl ec;refine DC 13 K 0 ec Bb V V V V ?_;let⟨gt,ed,ee⟩:=bs eb;refine Ew 14 (az.M ((U.trans Y).trans O)) ed K Tryz.underlying26 Bv ?_;rintro gE gO _ ⟨_,_,rfl,rfl,⟨_,_,rfl,rfl,rfl⟩⟩ ef;refine JG.fd 15 K Tryz.underlying52 AK V V V V (DC 16 K 2 ef Bb V V V V ?_);let⟨g0,eg,ej⟩:=bs ee;refine JG.call (i:=1) (vs:=[.agg #[.slice a1 (p0.1).length c2,.slice ag (p0.2).length al]]) (jO (bn.M ((U.trans Y).trans O)) (bo.M ((U.trans Y).trans O)) eg) (by decide+kernel) V V V (A4 Tryz.func27 V) V a9 ?_;rintro _ g1 _ Z ⟨g3,g4,rfl,rfl,ek⟩ el;refine De [17] ?_;let⟨g5,em,eo⟩:=bs ej;refine Co (iF ek (az.M (((U.trans Y).trans O).trans Z)) (c6.M Z) em) V V Rq el λg6 ay bi=>JL.done (Cp eo (λep er=>?_) (λep eu=>?_));let⟨g7,ew,ex⟩:=bs er;refine C 4 V (JS.ix (av.M ((O.trans Z).trans ay)) ew Tryz.underlying25 ET ?_);rintro g8 g9 _ ⟨ey,eA,rfl,eC⟩ eN;refine CH 0 eN He V V V (C 3 V ?_);cases ex;obtain rfl:=bb _ ac;have e0:=elim_inl a6;cases e0;exact AW Tryz.func8 V V (aq ((((U.trans Y).trans O).trans Z).trans ay) V ⟨ey,eA,V,V,eC⟩ bi);let⟨e1,e3,e4⟩:=bs eu;refine C 4 V (Bt e3 V V V ?_);refine C 2 V ?_;cases e4;exact cy e1 ((O.trans Z).trans ay) bi V ac;refine JL.exit V ?_;cases c3;have e5:a5=(Sum.inr ()):=(bb _ ac).symm;exact Az (ct _ _ ⟨(),cw,e5,V,V,O,a9⟩) V
end Pal
namespace Pal
def G2(L:List (Int×Int)):CF:=λa b=>((L.count ((b:Int),(a:Int)):Nat):Int)
def J6(P:List DT):CF->List Int->Prop
 | _,[]=>True
 | C,i::π=>∃d K,ix P i=some d/\EG C d K/\J6 P K π
variable{c2:Nat}
theorem FR.YJ{P:List DT}{C:CF}{π:List Int}(h:FR P c2 C π):J6 P C π:=by
 induction h with
 | nil e=>trivial
 | cons hd _ K _ O=>exact⟨_,_,H8 rfl hd,K,O⟩
def Nk(m:Nat):Nat->Nat->List (List Int)
 | 0,_=>[]
 | k+1,dn=>(if dn=2^m - 1 then [[]] else [])++(List.range m).flatMap λi=>if dn.testBit i=true then [] else(Nk m k (dn|||2^i)).map ((i:Int)::·)
theorem FR.mem{P:List DT}{C:CF}{π:List Int}(h:FR P c2 C π):∀k,c2<2^P.length->2^P.length - c2<=k->π∈Nk P.length k c2:=by
 induction h with
 | nil e=>
  intro k K O;obtain⟨k,rfl⟩:∃j,k=j+1:=⟨k - 1,by omega⟩;unfold Nk;rw[d6 e];exact sD _ (bN.2 V)
 | @cons c2 i C Z d π hd hb ac _ U=>
  intro k K O;obtain⟨k,rfl⟩:∃j,k=j+1:=⟨k - 1,by omega⟩;have hi:=(d7.1 hd).1;have ag:=TE hb;have Y:=ub K (tR (a:=2) (by omega) hi);unfold Nk;refine sc _ (vL.2 ⟨i,rH.2 hi,?_⟩);rw[d0 (by rw[hb];simp)];exact sj.2 ⟨_,U k Y (by omega),V⟩
def Nq(m:Nat):Nat->List Int->Bool
 | dn,[]=>dn==2^m - 1
 | dn,i::π=>decide (0<=i)&&decide (i.toNat<m)&& !dn.testBit i.toNat&&Nq m (dn|||2^i.toNat) π
theorem J6.cmp{P:List DT}:∀{π:List Int}{dn:Nat}{C:CF},Nq P.length dn π=true->J6 P C π->FR P dn C π
 | [],dn,C,h,_=>.nil (by simpa [Nq] using h)
 | i::π,dn,C,h,U=>by
  simp only[Nq,f5,tg,ua] at h
  obtain⟨⟨⟨ac,ag⟩,K⟩,O⟩:=h
  obtain⟨d,al,k1,Y,Z⟩:=U
  obtain⟨j,rfl,hd⟩:=F7 k1
  rw[sJ] at K O
  exact .cons hd K Y (J6.cmp O Z)
variable{v:Nat->Nat}
theorem fz(h:wS v=0)(K:OC v 1):v=λ_=>0:=by
 funext b;by_cases hb:1<=b/\b<=9
 .unfold wS at h;have:b=1∨b=2∨b=3∨b=4∨b=5∨b=6∨b=7∨b=8∨b=9:=by omega
  rcases this with rfl | rfl | rfl | rfl | rfl | rfl | rfl | rfl | rfl<;>omega
 .exact td λq=>hb (K b q)
variable{b:Nat}
theorem lj(K:1<=b)(O:b<=9)(U:0<v b):b<=wS v:=by
 have:=Se K O U;omega
theorem Yo(C:CF)(x y c:Nat)(v:Nat->Nat):Ha (ES C x y c) x y v=Ha C x y (Ip v c):=by
 funext a b;unfold Ha ES Ip;by_cases e:b=c;by_cases K:a=x<;>by_cases O:a=y<;>simp[e,K,O]<;>omega;by_cases K:a=x<;>by_cases O:a=y<;>simp[e,K,O]
variable{c:Nat}
theorem lI(h:0<v c):Ip (IW v c) c=v:=by
 funext b;unfold Ip IW;by_cases e:b=c;subst e;simp;omega;simp[e]
variable{x:Nat}
theorem Vx{L:List (Int×Int)}{i y:Nat}(hi:L[i]?=some ((c:Int),(x:Int))):G2 (L.set i ((c:Int),(y:Int)))=ES (G2 L) x y c:=by
 let⟨O,he⟩:=d7.1 hi;funext a b;unfold G2 ES
 dsimp only;have U:c=b->x=a->0<L.count ((b:Int),(a:Int)):=λK e2=>List.count_pos_iff.2 (by subst K;subst e2;rw[← he];exact jK O);rw[List.count_set O,he];simp only[tr,d9,Int.natCast_inj];by_cases K:c=b<;>by_cases e2:x=a<;>by_cases Y:y=a<;>simp only[K,e2,Y,eq_comm,wh,v5,wd,false_and,and_false,sO,sI]<;>(try have:=U K e2)<;>omega
def EX(P:List DT)(L:List (Int×Int))(fr left:Nat)(d:DT)(π:List Int):Prop:=
 ∃v:Nat->Nat,OC v 1/\(∀b:Nat,v b<=(L.drop fr).count ((b:Int),d.1))/\wS v=left/\J6 P (Ha (G2 L) d.1.toNat d.2.1.toNat v) π
variable {P:List DT}{L:List (Int×Int)}{left:Nat}{π:List Int}
section
variable {i n:Nat}{d:DT}
theorem NL(hi:i<L.length)(q:Int×Int):(L.drop i).count q=(L.drop (i+1)).count q+if L[i]=q then 1 else 0:=by
 rw[tt hi,vf];simp only[tr]
theorem EX.up(hi:i<L.length)(h:EX P L (i+1) left d π):EX P L i left d π:=by
 obtain⟨v,K,O,U,Y⟩:=h;exact⟨v,K,λb=>by have:=O b;rw[NL hi];omega,U,Y⟩
theorem EX.skip(hi:i<L.length)(h:EX P L i left d π)(K:L[i].2≠d.1∨(left:Int)<L[i].1):EX P L (i+1) left d π:=by
 obtain⟨v,O,U,Y,Z⟩:=h;refine⟨v,O,λb=>?_,Y,Z⟩;have:=U b;rw[NL hi] at this;by_cases e:L[i]=((b:Int),d.1);rw[e] at K;simp only[ne_eq,not_true_eq_false,false_or] at K;by_cases ac:v b=0;omega;have:=O b ac;have:=lj this.1 this.2 (show 0<v b by omega);omega;rw[d0 e] at this;omega
theorem EX.none(h:EX P L L.length left d π):left=0:=by
 obtain⟨v,U,K,O,Y⟩:=h;have:v=λ_=>0:=funext λb=>by have:=K b;simpa using this
 rw[← O,this];rfl
theorem EX.take(hi:i<L.length)(hd:VT n d)(K:L[i]=((c:Int),d.1))(O:1<=c)(U:c<=9)(aq:c<=left)(h:EX P (L.set i ((c:Int),d.2.1)) (i+1) (left - c) d π):EX P L i left d π:=by
 obtain⟨v,Y,Z,ac,ag⟩:=h;have al:=hd.x0;have am:=hd.y0;have ap:G2 (L.set i ((c:Int),d.2.1))=ES (G2 L) d.1.toNat d.2.1.toNat c:=by
  have:=Vx (L:=L) (i:=i) (c:=c) (x:=d.1.toNat) (y:=d.2.1.toNat) (by rw[cT hi,K,uj al])
  rwa[uj am] at this
 refine⟨Ip v c,λb hb=>?_,λb=>?_,by rw[Wg O U,ac];omega,by rw[← Yo,← ap];exact ag⟩;unfold Ip at hb;by_cases e:b=c;omega;rw[d0 e] at hb;exact Y b hb;have:=Z b;rw[List.drop_set_of_lt (by omega)] at this;rw[NL hi,K];unfold Ip;by_cases e:b=c;subst e;rw[d6 rfl,d6 rfl];omega;rw[d0 e,d0 (by simp;omega)];omega
theorem EX.kh(hi:i<L.length)(hd:VT n d)(K:L[i]=((c:Int),d.1))(ac:1<=c)(ag:c<=9)(al:¬EX P (L.set i ((c:Int),d.2.1)) (i+1) (left - c) d π)(h:EX P L i left d π):EX P L (i+1) left d π:=by
 obtain⟨v,O,U,am,Y⟩:=h;have ap:=hd.x0;have aq:=hd.y0;have av:G2 (L.set i ((c:Int),d.2.1))=ES (G2 L) d.1.toNat d.2.1.toNat c:=by
  have:=Vx (L:=L) (i:=i) (c:=c) (x:=d.1.toNat) (y:=d.2.1.toNat) (by rw[cT hi,K,uj ap])
  rwa[uj aq] at this
 by_cases aw:v c=0;refine⟨v,O,λb=>?_,am,Y⟩;have:=U b;rw[NL hi,K] at this;by_cases e:b=c;subst e;omega;rw[d0 (by simp;omega)] at this;omega
 .have Z:0<v c:=by omega
  have hm:=Se ac ag Z;refine absurd ⟨IW v c,λb hb=>?_,λb=>?_,by omega,by rw[av,Yo,lI Z];exact Y⟩ al;unfold IW at hb;by_cases e:b=c;omega;rw[d0 e] at hb;exact O b hb;have:=U b;rw[NL hi,K] at this;rw[List.drop_set_of_lt (by omega)];unfold IW;by_cases e:b=c;subst e;rw[d6 rfl] at this ⊢;omega;rw[d0 (by simp;omega)] at this;rw[d0 e];omega
theorem EX.zero:EX P L i 0 d π↔J6 P (G2 L) π:=by
 have K:Ha (G2 L) d.1.toNat d.2.1.toNat (λ_=>0)=G2 L:=by funext a b;simp[Ha]
 constructor;rintro⟨v,U,Z,Y,O⟩;rw[fz Y U,K] at O;exact O;intro h;exact⟨λ_=>0,λb hb=>absurd V hb,λb=>sC _,V,by rw[K];exact h⟩
theorem EX.first{i0:Int}(hd:VT n d)(hi:ix P i0=some d):EX P L 0 d.2.2.toNat d π↔J6 P (G2 L) (i0::π):=by
 have Y:=hd.x0;have al:=hd.p0;have U:∀b:Nat,G2 L d.1.toNat b=((L.count ((b:Int),d.1):Nat):Int):=λb=>by unfold G2;rw[uj Y]
 constructor;rintro⟨v,K,O,Z,ac⟩;exact⟨d,_,hi,⟨v,K,λb=>by rw[U];have:=O b;rw[uV] at this;omega,by omega,V⟩,ac⟩;rintro⟨d',am,k1,⟨v,K,O,Z,rfl⟩,ag⟩;obtain rfl:d=d':=f6 (hi.symm.trans k1);exact⟨v,K,λb=>by have:=O b;rw[U] at this;rw[uV];omega,by omega,ag⟩
end
theorem Ti{α:Type}{xs:List α}{i:Int}{x:α}(h:ix xs i=some x):x∈xs:=by
 let⟨m,_,h⟩:=F7 h;exact r7 h
variable{F:Nat}
theorem gu{n:Nat}{P:List DT}(am:∀d∈P,VT n d)(a4:100<F):∀(N:Nat) (π:List Int) (i0:Int) (d:DT) (L:List (Int×Int)) (fr left:Nat),π.length*100+left<N->π.length<=3->left<=72->L.length<=15->(∀q∈L,1<=q.1/\q.1<=9)->fr<=L.length->ix P i0=some d->(∀i∈π,∃d,ix P i=some d)->
  Ap (N9 N F L P (i0::π) (fr:Int) (left:Int)) (λr=>r=true↔EX P L fr left d π):=by
 intro N
 induction N with
 | zero=>intro π i0 d L fr left h;omega
 | succ N ap=>
  intro π i0 d L fr left az aq a5 av Y a6 hd Z;have aw:=am d (Ti hd);unfold N9 Qh;refine BO (by simp only[r4];omega) (AY (b:=i0) (by simp[ix]) ?_);refine AY hd (Bw (λa0=>?_) (λa0=>?_))
  .obtain rfl:left=0:=by omega
   refine Bw (λac=>?_) (λac=>?_);obtain rfl:π=[]:=tk.1 (by simp only[r4] at ac;omega);exact Am (uY V (EX.zero.2 trivial));obtain⟨i1,π,rfl⟩:=vA (show π≠ [] from λe=>ac (by rw[e];rfl));let⟨d1,U⟩:=Z i1 rX;have ag:=am d1 (Ti U);have a7:=ag.p0;have a8:=ag.p1;simp only[r4] at az aq;refine AY (b:=i1::π) (by unfold Ho;rw[d6 (by simp only[r4];omega),sJ,se];rfl) (AY (b:=i1) (by simp[ix]) ?_);refine AY U ?_;have key:=ap π i1 d1 L 0 d1.2.2.toNat (by omega) (by omega) (by omega) av Y (sC _) U λi hi=>Z i (f4 _ hi);rw[show((d1.2.2.toNat:Nat):Int)=d1.2.2 by omega] at key;refine AE key ?_;intro r a1;exact Am (a1.trans ((EX.first ag U).trans EX.zero.symm))
  .refine AE (S:=λq=>(q=Sum.inl true/\EX P L fr left d π)∨(q=Sum.inr ()/\¬EX P L fr left d π)) ?_ ?_
   .refine CZ (L.length - fr) (λk s=>s=((fr+k:Nat):Int)/\(EX P L fr left d π↔EX P L (fr+k) left d π)) ⟨V,.rfl⟩ (by omega) ?_ ?_
    .rintro k _ a9 ⟨rfl,O⟩;have hi:fr+k<L.length:=by omega
     let⟨bb,be⟩:=Y _ (jK hi);unfold PK;refine BR (by omega) (AE (S:=λq=>(q=Sum.inl true/\EX P L fr left d π)∨(q=Sum.inr ()/\(EX P L fr left d π↔EX P L (fr+k+1) left d π))) ?_ ?_)
     .refine Ba (m:=fr+k) V hi (AE (S:=λq=>q=true↔(L[fr+k].2≠d.1∨(left:Int)<L[fr+k].1)) ?_ ?_);refine Bw (λh=>Am (uY V (.inl h))) (λh=>?_);refine Ba (m:=fr+k) V hi (Am ?_);rw[decide_eq_true_iff];exact⟨.inr,λq=>q.resolve_left h⟩
      intro q K;refine Bw (λh=>Am (.inr ⟨V,O.trans ⟨λe=>e.skip hi (K.1 h),λe=>e.up hi⟩⟩)) (λh=>?_);have he:¬(L[fr+k].2≠d.1∨(left:Int)<L[fr+k].1):=λe=>h (K.2 e);obtain⟨c,al⟩:∃c:Nat,L[fr+k].1=c:=⟨L[fr+k].1.toNat,by omega⟩;have a2:L[fr+k].2=d.1:=td λq=>he (.inl q);have a3:c<=left:=by
       have:=λq=>he (.inr q);omega
      have ay:L[fr+k]=((c:Int),d.1):=by rw[← al,← a2]
      refine AY (b:=L) (by unfold Ex;rw[d6 (by simp only[u6];omega)];rfl) (Ba (m:=fr+k) V hi ?_);refine Ap.E ((fr+k+1:Nat):Int) (by simp) (Ba (m:=fr+k) V hi ?_);refine Ap.E ((left - c:Nat):Int) (by rw[al];omega) ?_;rw[al,sJ];refine AE (ap π i0 d (L.set (fr+k) ((c:Int),d.2.1)) (fr+k+1) (left - c) (by omega) aq (by omega) (by rw[rW];exact av) (λq K=>?_) (by rw[rW];omega) hd Z) ?_;rcases tK K with K | rfl;exact Y q K;exact⟨by simp only;omega,by simp only;omega⟩
      rintro b hb;cases b with
      | true=>exact BR rfl (Am (.inl ⟨rfl,O.2 (EX.take hi aw ay (by omega) (by omega) a3 (hb.1 rfl))⟩))
      | false=>exact BO (by simp) (Am (.inr ⟨rfl,O.trans ⟨EX.kh hi aw ay (by omega) (by omega) λe=>(by have:=hb.2 e;cases this),λe=>e.up hi⟩⟩))
     .rintro q (⟨rfl,h⟩ | ⟨rfl,h⟩);exact Am (.inl ⟨V,h⟩);rw[Sum.elim_inr];exact Ap.E ((fr+(k+1):Nat):Int) (by simp;omega) (Am ⟨V,h⟩)
    .rintro _ ⟨rfl,O⟩;unfold PK;refine BO (by omega) (Am ⟨_,V,.inr ⟨V,λe=>?_⟩⟩);have:=O.1 e;rw[show fr+(L.length - fr)=L.length by omega] at this;have:=this.none;omega
   .rintro q (⟨rfl,h⟩ | ⟨rfl,h⟩);exact Am (uY V h);exact Am (uf (by simp) h)
abbrev LL:=List (List DT)
structure SL (L l:LL):Prop where
 p:L.Perm l
 c:∀s∈L,s.length<=40/\∀d∈s,BD d
 n:L.length<=1024
variable{l:LL}
theorem SL.len{L:LL}(h:SL L l):l.length=L.length:=h.p.length_eq.symm
theorem SL.ok{L:LL}(h:SL L l){i:Nat}(hi:i<l.length):l[i].length<=40/\∀d∈l[i],BD d:=h.c _ (h.p.mem_iff.2 (jK hi))
variable{j:Nat}
theorem SL.sw{L:LL}(h:SL L l){i:Nat}(hi:i<l.length)(K:j<l.length):SL L ((l.set i l[j]).set j l[i]):=⟨h.p.trans (List.set_set_perm hi K).symm,h.c,h.n⟩
theorem SL.cmp{L:LL}(Y:5000<F)(h:SL L l){i:Nat}(hi:i<l.length)(K:j<l.length):Ap (f74 F l[i] l[j]) (λ_=>True):=by
 let⟨a1,O⟩:=h.ok hi;let⟨_,U⟩:=h.ok K;unfold f74;exact AE (Wy (by omega) a1 O U) (λc _=>Am trivial)
theorem nn(i:Nat):Int.toNat (i:Int)=i:=sJ i
variable{a:Nat}
theorem aO{L:LL}(U:5000<F)(h:SL L l)(K:j<L.length)(O:a<=j):Ap (Pal.iter (PY F (a:Int)) F ((j:Int),l)) (SL L):=by
 have Z:=h.n;refine FJ (λm s=>∃j:Nat,s.1=(j:Int)/\j=m/\j<L.length/\a<=j/\SL L s.2) ?_ (m:=j) ⟨j,V,V,K,O,h⟩ (by omega);rintro _ ⟨_,l⟩ ⟨j,rfl,rfl,K,O,h⟩;simp only at h;have ac:=h.len;unfold PY;refine AE (S:=λc=>c=true->a<j) ?_ ?_;refine Bw (λk=>?_) (λk=>Am (by simp));simp only at k ⊢;refine Ba (m:=j) V (by omega) (Ap.E ((j - 1:Nat):Int) (by omega) ?_);exact Ba (m:=j - 1) V (by omega) (AE (h.cmp U (by omega) (by omega)) (λc _=>Am (λ_=>by omega)));intro c Y;refine Bw (λk=>?_) (λk=>Am h);have:=Y k;refine Ap.E ((j - 1:Nat):Int) (by simp only;omega) (Ap.E ((j - 1:Nat):Int) (by simp only;omega) ?_);refine Ba (m:=j - 1) V (by simp only;omega) (Ba (m:=j) V (by simp only;omega) ?_);refine Ba (m:=j - 1) V (by rw[rW];simp only;omega) (Ap.E ((j - 1:Nat):Int) (by simp only;omega) ?_);refine Am ⟨j - 1,by omega,j - 1,V,V,by omega,by omega,?_⟩;simp only[nn];exact h.sw (by omega) (by omega)
theorem Wa{L:LL}(O:5000<F)(h:SL L l)(hb:b<=L.length)(U:a<=b):Ap (f137 F l (a:Int) (b:Int)) (SL L):=by
 have Y:=h.n;unfold f137;refine Ap.E ((a+1:Nat):Int) (by simp) ?_;refine AE (S:=SL L) ?_ (λr K=>Am K);refine FJ (λm s=>∃i:Nat,s.1=(i:Int)/\m=b+1 - i/\a<i/\SL L s.2) ?_ (m:=b - a) ⟨a+1,V,by omega,by omega,h⟩ (by omega);rintro _ ⟨_,l⟩ ⟨i,rfl,rfl,hi,h⟩;simp only at h;unfold Sm;refine Bw (λk=>?_) (λk=>Am h);simp only at k ⊢;refine AE (aO O h (j:=i) (by omega) (by omega)) ?_;intro r K;refine Ap.E ((i+1:Nat):Int) (by simp) ?_;exact Am ⟨b+1 - (i+1),by omega,i+1,V,V,by omega,K⟩
theorem Wt{lo hi fi:Nat}{L:LL}(O:5000<F)(h:SL L l)(hh:fi+hi<=L.length)(ac:lo<=1024):Ap (f176 F l (lo:Int) (hi:Int) (fi:Int)) (SL L):=by
 have ag:=h.n;unfold f176;refine AE (S:=λr=>∃l',(r=Sum.inl l'∨r=Sum.inr l')/\SL L l') ?_ (λr ⟨l',Y,U⟩=>by rcases Y with rfl | rfl<;>exact Am U);by_cases al:hi<=lo;refine FJ (λm s=>s=((lo:Int),l)) ?_ (m:=0) V (by omega);rintro _ _ rfl;unfold Py;refine L4 _ V (by simp only;omega) (by simp only;omega) (L4 _ V (by simp only;omega) (by simp only;omega) ?_);exact BR (by simp only;omega) (Am ⟨l,.inr V,h⟩)
 refine FJ (λm s=>∃i:Nat,s.1=(i:Int)/\m=hi - i/\i<hi/\SL L s.2) ?_ (m:=hi - lo) ⟨lo,V,V,by omega,h⟩ (by omega);rintro _ ⟨_,l⟩ ⟨i,rfl,rfl,am,h⟩;simp only at h;have U:=h.len;unfold Py;refine Ap.E ((2*i:Nat):Int) (by simp) (Ap.E ((2*i+1:Nat):Int) (by simp) ?_);refine Bw (λk=>Am ⟨l,.inr V,h⟩) (λk=>?_);refine Ap.E ((2*i+1+1:Nat):Int) (by simp) (AE (S:=λc=>c=true->2*i+2<hi) ?_ ?_);refine Bw (λK=>?_) (λK=>Am (by simp));refine Ap.E ((fi+(2*i+1):Nat):Int) (by simp) (Ba (m:=fi+(2*i+1)) V (by simp only;omega) ?_);refine Ap.E ((fi+(2*i+1):Nat):Int) (by simp) (Ap.E ((fi+(2*i+1)+1:Nat):Int) (by simp) ?_);exact Ba (m:=fi+(2*i+1)+1) V (by simp only;omega) (AE (h.cmp O (by omega) (by omega)) (λc _=>Am (λ_=>by omega)))
 intro c Z;refine AE (S:=λz=>∃q:Nat,z=(q:Int)/\i<q/\q<hi) ?_ ?_;refine Bw (λK=>?_) (λK=>Am ⟨2*i+1,V,by omega,by omega⟩);have:=Z K;exact Ap.E ((2*i+1+1:Nat):Int) (by simp) (Am ⟨2*i+1+1,V,by omega,by omega⟩)
 rintro _ ⟨q,rfl,ap,aq⟩;refine Ap.E ((fi+i:Nat):Int) (by simp) (Ba (m:=fi+i) V (by simp only;omega) ?_);refine Ap.E ((fi+q:Nat):Int) (by simp) (Ba (m:=fi+q) V (by simp only;omega) ?_);refine AE (h.cmp O (by omega) (by omega)) ?_;intro z _;refine Bw (λ_=>Am ⟨l,.inl V,h⟩) (λ_=>?_);refine Ap.E ((fi+i:Nat):Int) (by simp) (Ap.E ((fi+q:Nat):Int) (by simp) ?_);refine Ap.E ((fi+q:Nat):Int) (by simp) (Ba (m:=fi+q) V (by simp only;omega) ?_);refine Ap.E ((fi+i:Nat):Int) (by simp) (Ba (m:=fi+i) V (by simp only;omega) ?_);refine Ba (m:=fi+i) V (by simp only;omega) (Ba (m:=fi+q) V (by rw[rW];simp only;omega) ?_);refine Am ⟨hi - q,by omega,q,V,V,by omega,?_⟩;simp only[nn];exact h.sw (by omega) (by omega)
theorem quo{k:Nat}(K:0<k)(O:x<1000000):Jy (x:Int) (k:Int)=some ((x/k:Nat):Int):=by
 unfold Jy;rw[d0 (by omega),show(x:Int).tdiv (k:Int)=((x/k:Nat):Int) from rfl];have:=Nat.div_le_self x k;generalize x/k=y at this ⊢;exact d6 ⟨by omega,by omega⟩
theorem fe{L:LL}(O:5000<F)(h:SL L l)(hb:b<=L.length)(Y:a<b):Ap (f138 F l (a:Int) (b:Int)) (SL L):=by
 have Z:=h.n;unfold f138;refine Ap.E ((b - a:Nat):Int) (by omega) ?_;refine Ap.E ((b - a - 1:Nat):Int) (by omega) ?_;refine AY (quo (k:=2) (by omega) (by omega)) ?_;refine AE (S:=SL L) ?_ ?_;refine FJ (λm s=>∃i:Nat,s.1=(i:Int) - 1/\i=m/\i<=b - a/\SL L s.2) ?_ (m:=(b - a - 1)/2+1) ⟨(b - a - 1)/2+1,by simp only;omega,V,by omega,h⟩ (by omega);rintro _ ⟨_,l⟩ ⟨i,rfl,rfl,hi,h⟩;simp only at h;unfold SO;refine Bw (λk=>?_) (λk=>Am h);simp only at k ⊢;rw[show(i:Int) - 1=((i - 1:Nat):Int) by omega];refine AE (Wt O h (lo:=i - 1) (hi:=b - a) (fi:=a) (by omega) (by omega)) ?_;intro r K;exact Ap.E (((i - 1:Nat):Int) - 1) V (Am ⟨i - 1,by omega,i - 1,V,V,by omega,K⟩);intro l h;refine Ap.E ((b - a - 1:Nat):Int) (by omega) (AE (S:=SL L) ?_ (λr K=>Am K));refine FJ (λm s=>∃i:Nat,s.1=(i:Int) - 1/\i=m/\i<=b - a/\SL L s.2) ?_ (m:=b - a) ⟨b - a,by simp only;omega,V,by omega,h⟩ (by omega);rintro _ ⟨_,l⟩ ⟨i,rfl,rfl,hi,h⟩;simp only at h;have ac:=h.len;unfold SI;refine Bw (λk=>?_) (λk=>Am h);simp only at k ⊢;rw[show(i:Int) - 1=((i - 1:Nat):Int) by omega];refine Ap.E ((a+(i - 1):Nat):Int) (by omega) (Ap.E ((a+(i - 1):Nat):Int) (by omega) ?_);refine Ba (m:=a+(i - 1)) V (by omega) (Ba (m:=a) V (by omega) ?_);refine Ba (m:=a+(i - 1)) V (by rw[rW];omega) ?_;simp only[nn];have U:=h.sw (i:=a) (j:=a+(i - 1)) (by omega) (by omega);refine AE (Wt O U (lo:=0) (hi:=i - 1) (fi:=a) (by omega) (by omega)) ?_;intro r K;exact Ap.E (((i - 1:Nat):Int) - 1) V (Am ⟨i - 1,by omega,i - 1,V,V,by omega,K⟩)
theorem fy{L:LL}(O:5000<F)(h:SL L l)(hb:b<=L.length)(U:a<b):Ap (f141 F l (a:Int) (b:Int)) (SL L):=by
 have Y:=h.n;unfold f141;refine Ap.E ((b - 1:Nat):Int) (by omega) ?_;refine AE (S:=SL L) ?_ (λr K=>Am K);refine FJ (λm s=>∃i j:Nat,s.1=(i:Int)/\s.2.1=(j:Int)/\j=m/\j<L.length/\SL L s.2.2) ?_ (m:=b - 1) ⟨a,b - 1,V,V,V,by omega,h⟩ (by omega);rintro _ ⟨_,_,l⟩ ⟨i,j,rfl,rfl,rfl,Z,h⟩;simp only at h;have ac:=h.len;unfold SK;refine Bw (λk=>?_) (λk=>Am h);simp only at k ⊢;refine Ba (m:=j) V (by omega) ?_;refine Ba (m:=i) V (by omega) ?_;refine Ap.E ((i+1:Nat):Int) (by simp) ?_;refine Ap.E ((j - 1:Nat):Int) (by omega) ?_;refine Am ⟨j - 1,by omega,i+1,j - 1,V,V,V,by omega,?_⟩;simp only[nn];exact h.sw (by omega) (by omega)
theorem Sw{i k:Nat}{L:LL}(K:5000<F)(h:SL L l)(hi:i<L.length)(O:j<L.length)(U:k<=100):
  Ap (Mh F l (i:Int) (j:Int) (k:Int)) (λr=>∃u v w:Nat,r=((u:Int),(v:Int),(w:Int))/\((u=i/\v=j)∨(u=j/\v=i))/\w<=k+1):=by
 have Y:=h.len;have Z:=h.n;unfold Mh;refine Ba (m:=j) V (by omega) ?_;refine Ba (m:=i) V (by omega) ?_;refine AE (h.cmp K (by omega) (by omega)) ?_;intro z _;refine Bw (λ_=>?_) (λ_=>Am ⟨i,j,k,V,.inl ⟨V,V⟩,by omega⟩);refine Ap.E ((k+1:Nat):Int) (by simp) ?_;exact Am ⟨j,i,k+1,V,.inr ⟨V,V⟩,by omega⟩
theorem Wz{i q k:Nat}{L:LL}(K:5000<F)(h:SL L l)(hi:i<L.length)(O:j<L.length)(U:q<L.length)(ag:k<=90):
  Ap (f180 F l (i:Int) (j:Int) (q:Int) (k:Int)) (λr=>∃u w:Nat,r=((u:Int),(w:Int))/\(u=i∨u=j∨u=q)/\w<=k+3):=by
 unfold f180;refine AE (Sw K h hi O (by omega)) ?_;rintro _ ⟨Y,v1,w1,rfl,al,k1⟩;refine AE (Sw K h (i:=v1) (j:=q) (by omega) U (k:=w1) (by omega)) ?_;rintro _ ⟨Z,v2,w2,rfl,e2,am⟩;refine AE (Sw K h (i:=Y) (j:=Z) (by omega) (by omega) (k:=w2) (by omega)) ?_;rintro _ ⟨ap,ac,w3,rfl,aq,av⟩;exact Am ⟨ac,w3,V,by omega,by omega⟩
theorem Sp{i k:Nat}{L:LL}(K:5000<F)(h:SL L l)(U:1<=i)(hi:i+1<L.length)(O:k<=90):
  Ap (f179 F l (i:Int) (k:Int)) (λr=>∃u w:Nat,r=((u:Int),(w:Int))/\(u=i - 1∨u=i∨u=i+1)/\w<=k+3):=by
 have Y:=h.n;unfold f179;refine Ap.E ((i - 1:Nat):Int) (by omega) ?_;refine Ap.E ((i+1:Nat):Int) (by simp) ?_;refine AE (Wz K h (i:=i - 1) (j:=i) (q:=i+1) (by omega) (by omega) (by omega) O) ?_;rintro _ ⟨u,w,rfl,e,k1⟩;exact Am ⟨u,w,V,e,k1⟩
theorem gw{L:LL}(K:5000<F)(h:SL L l)(hb:b<=L.length)(ag:a+12<b):
  Ap (f140 F l (a:Int) (b:Int)) (λr=>∃u:Nat,r.1=(u:Int)/\a<=u/\u<b):=by
 have al:=h.n;unfold f140;refine Ap.E ((b - a:Nat):Int) (by omega) ?_;refine AY (quo (k:=4) (by omega) (by omega)) ?_;refine Ap.E (((b - a)/4:Nat):Int) (by omega) ?_;refine Ap.E ((a+(b - a)/4:Nat):Int) (by omega) ?_;refine AY (quo (k:=4) (by omega) (by omega)) ?_;refine Ap.E (((b - a)/4*2:Nat):Int) (by omega) ?_;refine Ap.E ((a+(b - a)/4*2:Nat):Int) (by omega) ?_;refine AY (quo (k:=4) (by omega) (by omega)) ?_;refine Ap.E (((b - a)/4*3:Nat):Int) (by omega) ?_;refine Ap.E ((a+(b - a)/4*3:Nat):Int) (by omega) ?_;refine AE (S:=λr=>∃u:Nat,r.1=(u:Int)/\a<=u/\u<b) ?_ ?_;refine BR (by omega) (AE (S:=λr=>∃x y z w:Nat,r=((x:Int),(y:Int),(z:Int),(w:Int))/\(a<=x/\x<b)/\(a<=y/\y<b)/\(a<=z/\z<b)/\w<=20) ?_ ?_);refine Bw (λk=>?_) (λk=>Am ⟨_,_,_,0,V,⟨by omega,by omega⟩,⟨by omega,by omega⟩,⟨by omega,by omega⟩,by omega⟩);refine AE (Sp K h (i:=a+(b - a)/4) (k:=0) (by omega) (by omega) (by omega)) ?_;rintro _ ⟨Y,w1,rfl,am,k1⟩;refine AE (Sp K h (i:=a+(b - a)/4*2) (k:=w1) (by omega) (by omega) (by omega)) ?_;rintro _ ⟨Z,w2,rfl,e2,ap⟩;refine AE (Sp K h (i:=a+(b - a)/4*3) (k:=w2) (by omega) (by omega) (by omega)) ?_;rintro _ ⟨ac,w3,rfl,aq,av⟩;exact Am ⟨Y,Z,ac,w3,V,⟨by omega,by omega⟩,⟨by omega,by omega⟩,⟨by omega,by omega⟩,by omega⟩;rintro _ ⟨x,y,z,w,rfl,aw,ay,az,hw⟩;refine AE (Wz K h (i:=x) (j:=y) (q:=z) (k:=w) (by omega) (by omega) (by omega) (by omega)) ?_;rintro _ ⟨u,w',rfl,e,_⟩;exact Am ⟨u,V,by omega,by omega⟩;rintro⟨_,w⟩ ⟨u,rfl,O,U⟩;refine Bw (λ_=>Am ⟨u,V,O,U⟩) (λ_=>?_);exact Bw (λ_=>Am ⟨u,V,O,U⟩) (λ_=>Am ⟨u,V,O,U⟩)
theorem eW:((List.range 1025).all λn=>match f177 0 ((n:Nat):Int) with | some m=>decide (n<m/\(m<=2*n∨n=0)/\m<=4096) | none=>false)=true:=by decide+kernel
theorem iz(F:Nat)(x:Int):f177 F x=f177 0 x:=rfl
theorem fL{n:Nat}(K:n<=1024)(O:0<n):∃m:Nat,f177 F (n:Int)=some m/\n<m/\m<=2*n/\m<=4096:=by
 have h:=lH.1 eW n (rH.2 (by omega));rw[iz];split at h;rename_i m e;have:=tf h;exact⟨m,e,this.1,by omega,this.2.2⟩;cases h
theorem iQ(h:a<2^62):Ke a=(a:Int):=UK h
theorem fU{L:LL}(Y:5000<F)(h:SL L l)(hb:b<=L.length)(Z:a+12<b):Ap (f139 F l (a:Int) (b:Int)) (SL L):=by
 have ac:=h.n;unfold f139;refine Ap.E ((b - a:Nat):Int) (by omega) ?_;refine AE (S:=SL L) ?_ (λr K=>Am K);refine BR (by omega) ?_;obtain⟨M,O,ag,al,am⟩:=fL (F:=F) (n:=b - a) (by omega) (by omega);refine AY O ?_;refine AY (quo (k:=4) (by omega) (by omega)) ?_;refine Ap.E (((b - a)/4*2:Nat):Int) (by omega) ?_;refine Ap.E ((a+(b - a)/4*2:Nat):Int) (by omega) ?_;refine Ap.E ((a+(b - a)/4*2 - 1:Nat):Int) (by omega) ?_;refine AE (S:=λr=>SL L r.1) ?_ (λr K=>Am K);refine FJ (λm s=>∃i:Nat,s.2.1=(i:Int)/\m=L.length - i/\SL L s.2.2) ?_ (m:=L.length - (a+(b - a)/4*2 - 1)) ⟨_,V,V,h⟩ (by omega);rintro _ ⟨w,_,l⟩ ⟨i,rfl,rfl,h⟩;simp only at h;have ap:=h.len;unfold Sr;refine AY (quo (k:=4) (by omega) (by omega)) ?_;refine Ap.E (((b - a)/4*2:Nat):Int) (by omega) ?_;refine Ap.E ((a+(b - a)/4*2:Nat):Int) (by omega) ?_;refine Ap.E ((a+(b - a)/4*2+1:Nat):Int) (by omega) ?_;refine Bw (λk=>?_) (λk=>Am h);simp only at k;have hi:i<b:=by omega
 obtain⟨v,w',ev⟩:∃v w',f178 F w=some (v,w'):=⟨_,_,V⟩;refine AY ev ?_
 dsimp only;generalize K:(v&&& (M+18446744073709551615)%2^64)%2^64=r;have aq:r<M:=by
  rw[← K];refine tJ (Nat.mod_le _ _) ?_;have e:(M+18446744073709551615)%2^64=M - 1:=by omega
  rw[e];exact tJ Nat.and_le_right (by omega)
 rw[iQ (by omega)];refine AE (S:=λz=>∃q:Nat,z=(q:Int)/\q<b - a) ?_ ?_;refine Bw (λU=>?_) (λU=>Am ⟨r,V,by omega⟩);exact Ap.E ((r - (b - a):Nat):Int) (by omega) (Am ⟨r - (b - a),V,by omega⟩)
 rintro _ ⟨q,rfl,av⟩;refine Ap.E ((a+q:Nat):Int) (by simp) (Ap.E ((a+q:Nat):Int) (by simp) ?_);refine Ba (m:=a+q) V (by omega) (Ba (m:=i) V (by omega) ?_);refine Ba (m:=a+q) V (by rw[rW];omega) (Ap.E ((i+1:Nat):Int) (by simp) ?_);refine Am ⟨L.length - (i+1),by omega,i+1,V,V,?_⟩;simp only[nn];exact h.sw (by omega) (by omega)
theorem bT{L l:LL}{x:Int×Int×LL}(K:5000<F)(h:SL L x.2.2)(hb:b<=L.length)(ac:0<a)(O:a<=b):Ap (Pal.iter (PS F (b:Int) x) F (a:Int)) (λr=>∃i:Nat,r=(i:Int)/\a<=i/\i<=b):=by
 have ag:=h.n;have al:=h.len;refine FJ (λm s=>∃i:Nat,s=(i:Int)/\m=b - i/\a<=i/\i<=b) ?_ (m:=b - a) ⟨a,V,V,by omega,O⟩ (by omega);rintro _ _ ⟨i,rfl,rfl,U,Y⟩;unfold PS;refine AE (S:=λc=>c=true->i<b) ?_ ?_;refine Bw (λk=>?_) (λk=>Am (by simp));refine Ba (m:=i) V (by omega) (Ap.E ((i - 1:Nat):Int) (by omega) ?_);exact Ba (m:=i - 1) V (by omega) (AE (h.cmp K (by omega) (by omega)) (λc _=>Am (λ_=>by omega)))
 intro c Z;refine Bw (λk=>?_) (λk=>Am ⟨i,V,U,Y⟩);have:=Z k;exact Ap.E ((i+1:Nat):Int) (by simp) (Am ⟨b - (i+1),by omega,i+1,V,V,by omega,by omega⟩)
theorem bL{i:Nat}{L:LL}(K:5000<F)(h:SL L l)(hi:i<L.length):Ap (Pal.iter (PM F) F ((i:Int),l)) (SL L):=by
 have O:=h.n;refine FJ (λm s=>∃j:Nat,s.1=(j:Int)/\j=m/\j<L.length/\SL L s.2) ?_ (m:=i) ⟨i,V,V,hi,h⟩ (by omega);rintro _ ⟨_,l⟩ ⟨j,rfl,rfl,U,h⟩;simp only at h;have Y:=h.len;unfold PM;refine Bw (λk=>?_) (λk=>Am h);simp only at k ⊢;refine Ba (m:=j) V (by omega) ?_;refine Ap.E ((j - 1:Nat):Int) (by omega) ?_;refine Ba (m:=j - 1) V (by omega) ?_;refine AE (h.cmp K (by omega) (by omega)) ?_;intro z _;refine Bw (λ_=>Am h) (λ_=>?_);refine Ap.E ((j - 1:Nat):Int) (by omega) ?_;refine Ap.E ((j - 1:Nat):Int) (by omega) ?_;refine Ba (m:=j - 1) V (by omega) ?_;refine Ba (m:=j - 1) V (by rw[rW];omega) ?_;refine Ap.E ((j - 1:Nat):Int) (by omega) ?_;refine Am ⟨j - 1,by omega,j - 1,V,V,by omega,?_⟩;simp only[nn];exact h.sw (by omega) (by omega)
theorem ah{i:Nat}{L:LL}(K:5000<F)(h:SL L l)(hb:b<=L.length)(O:0<i):Ap (Pal.iter (P4 F (b:Int)) F ((i:Int),l)) (SL L):=by
 have U:=h.n;refine FJ (λm s=>∃j:Nat,s.1=(j:Int)/\m=b - j/\0<j/\SL L s.2) ?_ (m:=b - i) ⟨i,V,V,O,h⟩ (by omega);rintro _ ⟨_,l⟩ ⟨j,rfl,rfl,Y,h⟩;simp only at h;have Z:=h.len;unfold P4;refine Bw (λk=>?_) (λk=>Am h);simp only at k ⊢;refine Ba (m:=j) V (by omega) ?_;refine Ap.E ((j - 1:Nat):Int) (by omega) ?_;refine Ba (m:=j - 1) V (by omega) ?_;refine AE (h.cmp K (by omega) (by omega)) ?_;intro z _;refine Bw (λ_=>Am h) (λ_=>?_);refine Ap.E ((j - 1:Nat):Int) (by omega) ?_;refine Ap.E ((j - 1:Nat):Int) (by omega) ?_;refine Ba (m:=j - 1) V (by omega) ?_;refine Ba (m:=j - 1) V (by rw[rW];omega) ?_;refine Ap.E ((j+1:Nat):Int) (by simp) ?_;refine Am ⟨b - (j+1),by omega,j+1,V,V,by omega,?_⟩;simp only[nn];exact h.sw (by omega) (by omega)
theorem eJ{L:LL}(K:5000<F)(h:SL L l)(hb:b<=L.length)(ap:a<b):Ap (f142 F l (a:Int) (b:Int)) (λr=>SL L r.2):=by
 have aq:=h.n;unfold f142;refine Ap.E ((a+1:Nat):Int) (by simp) ?_;refine AE (S:=λr=>∃l',SL L l'/\((∃t,r=Sum.inl (t,l'))∨r=Sum.inr l')) ?_ ?_
 .refine FJ (λm s=>∃i c:Nat,s.1=(i:Int)/\s.2.1=(c:Int)/\m=5 - c/\a<i/\i<=b/\SL L s.2.2) ?_ (m:=5) ⟨a+1,0,V,V,V,by omega,by omega,h⟩ (by omega);rintro _ ⟨_,_,l⟩ ⟨i,c,rfl,rfl,rfl,av,ac,h⟩;simp only at h;have aw:=h.len;unfold SB;refine Bw (λk=>?_) (λk=>Am ⟨l,h,.inr V⟩);simp only at k ⊢;refine AE (bT (l:=l) K (x:=((i:Int),(c:Int),l)) h hb (by omega) ac) ?_;rintro _ ⟨q,rfl,ay,ag⟩;refine Bw (λ_=>Am ⟨l,h,.inl ⟨_,V⟩⟩) (λaz=>?_);refine Ap.E ((b - a:Nat):Int) (by omega) (Bw (λ_=>Am ⟨l,h,.inl ⟨_,V⟩⟩) (λ_=>?_));refine Ap.E ((q - 1:Nat):Int) (by omega) (Ap.E ((q - 1:Nat):Int) (by omega) ?_);refine Ba (m:=q - 1) V (by omega) (Ba (m:=q) V (by omega) ?_);refine Ba (m:=q - 1) V (by rw[rW];omega) (Ap.E ((q - a:Nat):Int) (by omega) ?_);simp only[nn];have U:=h.sw (i:=q) (j:=q - 1) (by omega) (by omega);refine AE (S:=SL L) ?_ ?_;refine Bw (λal=>?_) (λ_=>Am U);exact Ap.E ((q - 1:Nat):Int) (by omega) (AE (bL K U (by omega)) (λr O=>Am O))
  intro a0 Y;refine Ap.E ((b - q:Nat):Int) (by omega) (AE (S:=SL L) ?_ ?_);refine Bw (λal=>?_) (λ_=>Am Y);exact Ap.E ((q+1:Nat):Int) (by simp) (AE (ah K Y hb (by omega)) (λr O=>Am O))
  intro a1 am;exact Ap.E ((c+1:Nat):Int) (by simp) (Am ⟨5 - (c+1),by omega,q,c+1,V,V,V,by omega,ag,am⟩)
 .rintro _ ⟨l',Z,⟨t,rfl⟩ | rfl⟩;exact Am Z;exact Am Z
variable{body:Int->Option (Bm Int Int)}
theorem TY{i:Nat}(Y:5000<F)(Z:j<=1023)(ac:i<=1030)(U:∀q:Nat,i<=q->q<=j->Ap (body (q:Int)) (λr=>r=.more ((q+1:Nat):Int)∨r=.done (q:Int)))(he:∀q:Nat,j<q->body (q:Int)=some (.done (q:Int))):Ap (Pal.iter body F (i:Int)) (λr=>∃q:Nat,r=(q:Int)/\i<=q/\(q<=j+1∨q=i)):=by
 refine FJ (λm s=>∃q:Nat,s=(q:Int)/\m=1030 - q/\i<=q/\(q<=j+1∨q=i)) ?_ (m:=1030 - i) ⟨i,V,V,rJ _,.inr V⟩ (by omega);rintro _ _ ⟨q,rfl,rfl,K,O⟩;rcases jH j q with k | k;rw[he q k];exact Am ⟨q,V,K,O⟩
 refine(U q K k).M ?_;rintro _ (rfl | rfl);exact⟨1030 - (q+1),by omega,q+1,V,V,by omega,.inl (by omega)⟩;exact⟨q,V,K,O⟩
theorem TW{i:Nat}(Y:5000<F)(Z:j<=1023)(hi:1<=i)(U:∀q:Nat,i<=q->q<=j->Ap (body (q:Int)) (λr=>r=.more ((q - 1:Nat):Int)∨r=.done (q:Int)))(he:∀q:Nat,q<i->body (q:Int)=some (.done (q:Int))):Ap (Pal.iter body F (j:Int)) (λr=>∃q:Nat,r=(q:Int)/\q<=j/\(i<=q+1∨q=j)):=by
 refine FJ (λm s=>∃q:Nat,s=(q:Int)/\q=m/\q<=j/\(i<=q+1∨q=j)) ?_ (m:=j) ⟨j,V,V,rJ _,.inr V⟩ (by omega);rintro _ _ ⟨q,rfl,rfl,K,O⟩;rcases jH q i with k | k;rw[he q k];exact Am ⟨q,V,K,O⟩
 refine(U q k K).M ?_;rintro _ (rfl | rfl);exact⟨q - 1,by omega,q - 1,V,V,by omega,.inl (by omega)⟩;exact⟨q,V,K,O⟩
variable{y:Int}
theorem bO{i:Nat}{L:LL}{z:Int}(K:5000<F)(h:SL L l)(U:a<L.length)(Y:j<L.length)(hi:i<=1030):Ap (Pal.iter (NT F (a:Int) (y,(j:Int),l)) F (i:Int)) (λr=>∃q:Nat,r=(q:Int)/\i<=q/\(q<=j+1∨q=i)):=by
 have Z:=h.n;have ac:=h.len;refine TY K (by omega) hi (λq O ag=>?_) λq O=>?_;unfold NT;refine AE (S:=λ_=>True) ?_ ?_;refine BR (by simp only;omega) (Ba (m:=q) V (by simp only;omega) ?_);exact Ba (m:=a) V (by simp only;omega) (AE (h.cmp K (by omega) (by omega)) (λc _=>Am trivial));intro c _;refine Bw (λ_=>?_) (λ_=>Am (.inr V));exact Ap.E ((q+1:Nat):Int) (by simp) (Am (.inl V));unfold NT;rw[d0 (by simp only;omega)];rfl
variable{z:Int}
theorem aL{i:Nat}{L:LL}(K:5000<F)(h:SL L l)(U:a<L.length)(Y:j<L.length)(hi:1<=i):Ap (Pal.iter (N2 F (a:Int) (y,z,l) (i:Int)) F (j:Int)) (λr=>∃q:Nat,r=(q:Int)/\q<=j/\(i<=q+1∨q=j)):=by
 have Z:=h.n;have ac:=h.len;refine TW K (by omega) hi (λq O ag=>?_) λq O=>?_;unfold N2;refine AE (S:=λ_=>True) ?_ ?_;refine BR (by omega) (Ba (m:=q) V (by simp only;omega) ?_);exact Ba (m:=a) V (by simp only;omega) (AE (h.cmp K (by omega) (by omega)) (λc _=>Am trivial));intro c _;refine Bw (λ_=>?_) (λ_=>Am (.inr V));exact Ap.E ((q - 1:Nat):Int) (by omega) (Am (.inl V));unfold N2;rw[d0 (by omega)];rfl
theorem br{i:Nat}{L:LL}{z:Int}(K:5000<F)(h:SL L l)(U:a<L.length)(Y:j<L.length)(hi:i<=1030):Ap (Pal.iter (NZ F (a:Int) (y,(j:Int),l)) F (i:Int)) (λr=>∃q:Nat,r=(q:Int)/\i<=q/\(q<=j+1∨q=i)):=by
 have Z:=h.n;have ac:=h.len;refine TY K (by omega) hi (λq O ag=>?_) λq O=>?_;unfold NZ;refine AE (S:=λ_=>True) ?_ ?_;refine BR (by simp only;omega) (Ba (m:=a) V (by simp only;omega) ?_);exact Ba (m:=q) V (by simp only;omega) (AE (h.cmp K (by omega) (by omega)) (λc _=>Am trivial));intro c _;refine Bw (λ_=>?_) (λ_=>Am (.inr V));exact Ap.E ((q+1:Nat):Int) (by simp) (Am (.inl V));unfold NZ;rw[d0 (by simp only;omega)];rfl
theorem aD{i:Nat}{L:LL}(K:5000<F)(h:SL L l)(U:a<L.length)(Y:j<L.length)(hi:1<=i):Ap (Pal.iter (NW F (a:Int) (y,z,l) (i:Int)) F (j:Int)) (λr=>∃q:Nat,r=(q:Int)/\q<=j/\(i<=q+1∨q=j)):=by
 have Z:=h.n;have ac:=h.len;refine TW K (by omega) hi (λq O ag=>?_) λq O=>?_;unfold NW;refine AE (S:=λ_=>True) ?_ ?_;refine BR (by omega) (Ba (m:=a) V (by simp only;omega) ?_);exact Ba (m:=q) V (by simp only;omega) (AE (h.cmp K (by omega) (by omega)) (λc _=>Am trivial));intro c _;refine Bw (λ_=>?_) (λ_=>Am (.inr V));exact Ap.E ((q - 1:Nat):Int) (by omega) (Am (.inl V));unfold NW;rw[d0 (by omega)];rfl
theorem aJ{i:Nat}{L:LL}(K:5000<F)(h:SL L l)(hb:b<=L.length)(Z:a<b)(hi:a<i)(O:i<=b)(U:a<=j)(Y:j<b):Ap (Pal.iter (PL F (a:Int)) F ((i:Int),(j:Int),l)) (λr=>∃q:Nat,r.1=(q:Int)/\a<=q/\q<b/\SL L r.2):=by
 have ac:=h.n;refine FJ (λm s=>∃i j:Nat,s.1=(i:Int)/\s.2.1=(j:Int)/\m=b - i/\a<i/\i<=b/\a<=j/\j<b/\SL L s.2.2) ?_ (m:=b - i) ⟨i,j,V,V,V,hi,O,U,Y,h⟩ (by omega);rintro _ ⟨_,_,l⟩ ⟨i,j,rfl,rfl,rfl,hi,O,U,Y,h⟩;simp only at h;have ag:=h.len;unfold PL;refine AE (bO (z:=0) K h (by omega) (by omega) (by omega)) ?_;rintro _ ⟨p,rfl,p1,p2⟩;refine AE (aL K h (by omega) (by omega) (by omega)) ?_;rintro _ ⟨q,rfl,al,am⟩;refine Bw (λk=>Am ⟨q,V,by omega,by omega,h⟩) (λk=>?_);refine Ba (m:=q) V (by simp only;omega) ?_;refine Ba (m:=p) V (by simp only;omega) ?_;refine Ap.E ((p+1:Nat):Int) (by simp) ?_;refine Ap.E ((q - 1:Nat):Int) (by omega) ?_;refine Am ⟨b - (p+1),by omega,p+1,q - 1,V,V,V,by omega,by omega,by omega,by omega,?_⟩;simp only[nn];exact h.sw (by omega) (by omega)
theorem bG{i:Nat}{L:LL}(K:5000<F)(h:SL L l)(hb:b<=L.length)(Z:a<b)(hi:a<i)(O:i<=b)(U:a<=j)(Y:j<b):Ap (Pal.iter (Pu F (a:Int)) F ((i:Int),(j:Int),l)) (λr=>∃q:Nat,r.1=(q:Int)/\a<q/\q<=b/\SL L r.2):=by
 have ac:=h.n;refine FJ (λm s=>∃i j:Nat,s.1=(i:Int)/\s.2.1=(j:Int)/\m=b - i/\a<i/\i<=b/\a<=j/\j<b/\SL L s.2.2) ?_ (m:=b - i) ⟨i,j,V,V,V,hi,O,U,Y,h⟩ (by omega);rintro _ ⟨_,_,l⟩ ⟨i,j,rfl,rfl,rfl,hi,O,U,Y,h⟩;simp only at h;have ag:=h.len;unfold Pu;refine AE (br (z:=0) K h (by omega) (by omega) (by omega)) ?_;rintro _ ⟨p,rfl,p1,p2⟩;refine AE (aD K h (by omega) (by omega) (by omega)) ?_;rintro _ ⟨q,rfl,al,am⟩;refine Bw (λk=>Am ⟨p,V,by omega,by omega,h⟩) (λk=>?_);refine Ba (m:=q) V (by simp only;omega) ?_;refine Ba (m:=p) V (by simp only;omega) ?_;refine Ap.E ((p+1:Nat):Int) (by simp) ?_;refine Ap.E ((q - 1:Nat):Int) (by omega) ?_;refine Am ⟨b - (p+1),by omega,p+1,q - 1,V,V,V,by omega,by omega,by omega,by omega,?_⟩;simp only[nn];exact h.sw (by omega) (by omega)
theorem dV{v:Nat}{L:LL}(K:5000<F)(h:SL L l)(hb:b<=L.length)(U:a+12<b)(Y:a<=v)(Z:v<b):Ap (f143 F l (a:Int) (b:Int) (v:Int)) (λr=>∃q:Nat,r.1=(q:Int)/\a<q/\q<=b/\SL L r.2):=by
 have ac:=h.n;have ag:=h.len;unfold f143;refine Ba (m:=v) V (by omega) ?_;refine Ba (m:=a) V (by omega) ?_;refine Ap.E ((a+1:Nat):Int) (by simp) ?_;refine Ap.E ((b - 1:Nat):Int) (by omega) ?_;simp only[nn];exact AE (bG K (h.sw (by omega) (by omega)) hb (by omega) (by omega) (by omega) (by omega) (by omega)) (λr O=>Am O)
theorem fP{v:Nat}{L:LL}(K:5000<F)(h:SL L l)(hb:b<=L.length)(ag:a+12<b)(al:a<=v)(am:v<b):Ap (f144 F l (a:Int) (b:Int) (v:Int)) (λr=>∃q:Nat,r.1=(q:Int)/\a<=q/\q<b/\SL L r.2.2):=by
 have ap:=h.n;have ac:=h.len;unfold f144;refine Ba (m:=v) V (by omega) ?_;refine Ba (m:=a) V (by omega) ?_;refine Ap.E ((a+1:Nat):Int) (by simp) ?_;refine Ap.E ((b - 1:Nat):Int) (by omega) ?_;simp only[nn];have U:=h.sw (i:=a) (j:=v) (by omega) (by omega);generalize aq:l[v]=x at*;generalize av:l[a]=y at*;have aw:((l.set a x).set v y).length=L.length:=by rw[rW,rW];exact ac
 generalize Z:(l.set a x).set v y=l' at*;refine AE (S:=λr=>∃q:Nat,r=(q:Int)/\a+1<=q/\(q<=(b - 1)+1∨q=a+1)) ?_ ?_;refine TY K (by omega) (by omega) (λq Y O=>?_) λq Y=>?_;unfold P3;simp only[nn,Z];refine AE (S:=λ_=>True) ?_ ?_;refine BR (by omega) (Ba (m:=q) V (by omega) ?_);exact Ba (m:=a) V (by omega) (AE (U.cmp K (by omega) (by omega)) (λc _=>Am trivial));intro c _;refine Bw (λ_=>?_) (λ_=>Am (.inr V));exact Ap.E ((q+1:Nat):Int) (by simp) (Am (.inl V));unfold P3;rw[d0 (by omega)];rfl
 rintro _ ⟨p,rfl,p1,p2⟩;refine AE (S:=λr=>∃q:Nat,r=(q:Int)/\q<=b - 1/\(p<=q+1∨q=b - 1)) ?_ ?_;refine TW K (by omega) (by omega) (λq Y O=>?_) λq Y=>?_;unfold P6;simp only[nn,Z];refine AE (S:=λ_=>True) ?_ ?_;refine BR (by omega) (Ba (m:=q) V (by omega) ?_);exact Ba (m:=a) V (by omega) (AE (U.cmp K (by omega) (by omega)) (λc _=>Am trivial));intro c _;refine Bw (λ_=>?_) (λ_=>Am (.inr V));exact Ap.E ((q - 1:Nat):Int) (by omega) (Am (.inl V));unfold P6;rw[d0 (by omega)];rfl
 rintro _ ⟨q,rfl,ay,az⟩;refine Bw (λk=>?_) (λk=>?_);refine Ba (m:=a) V (by omega) (Ba (m:=q) V (by omega) ?_);refine Am ⟨q,V,by omega,by omega,?_⟩;simp only[nn];exact U.sw (by omega) (by omega);refine Ba (m:=q) V (by omega) (Ba (m:=p) V (by omega) ?_);refine Ap.E ((p+1:Nat):Int) (by simp) (Ap.E ((q - 1:Nat):Int) (by omega) ?_);simp only[nn];refine AE (aJ K (U.sw (i:=p) (j:=q) (by omega) (by omega)) hb (by omega) (by omega) (by omega) (by omega) (by omega)) ?_;rintro⟨_,a0⟩ ⟨r,rfl,r1,r2,O⟩;simp only at O;have a1:=O.len;refine Ba (m:=a) V (by simp only;omega) (Ba (m:=r) V (by simp only;omega) ?_);refine Am ⟨r,V,r1,r2,?_⟩;simp only[nn];exact O.sw (by omega) (by omega)
theorem cJ{N:Nat}{rec:LL->Int->Int->Int->Option LL}{L:LL}(U:5000<F)(az:∀(l:LL) (a b:Nat) (k:Int),SL L l->a<=b->b<=L.length->2*(b - a)<N->0<=k->k<=100->Ap (rec l (a:Int) (b:Int) k) (SL L)){k:Int}(h:SL L l)(aw:a<=b)(hb:b<=L.length)(a0:b - a<N)(al:0<=k)(am:k<=100):Ap (Mb rec F l (a:Int) (b:Int) k) (SL L):=by
 have a8:=h.n;unfold Mb;refine AE (S:=λr=>∃l',SL L l'/\r=Sum.inl l') ?_ ?_
 .refine FJ (λm s=>∃a b:Nat,s.1=(a:Int)/\s.2.1=(b:Int)/\m=b - a/\a<=b/\b<=L.length/\b - a<N/\0<=s.2.2.1/\s.2.2.1<=100/\SL L s.2.2.2.2.2) ?_ (m:=b - a) ⟨a,b,V,V,V,aw,hb,a0,al,am,h⟩ (by omega);rintro _ ⟨_,_,k,t1,t2,l⟩ ⟨a,b,rfl,rfl,rfl,aw,hb,a0,al,am,h⟩;simp only at h al am;have a9:=h.len;unfold Pd;simp only;refine AE (S:=λr=>(∃l',SL L l'/\r=Sum.inl l')∨∃(O b':Nat) (k':Int) (a1 a2:Bool) (l':LL),r=Sum.inr ((O:Int),(b':Int),k',a1,a2,l')/\b' - O<b - a/\O<=b'/\b'<=L.length/\0<=k'/\k'<=100/\SL L l') ?_ ?_
  .refine Ap.E ((b - a:Nat):Int) (by omega) (Bw (λc=>?_) (λc=>?_));exact AE (Wa U h hb aw) (λr K=>Am (.inl ⟨r,K,V⟩))
   refine Bw (λc2=>?_) (λc2=>?_);exact AE (fe U h hb (by omega)) (λr K=>Am (.inl ⟨r,K,V⟩))
   refine AE (S:=λr=>0<=r.1/\r.1<=100/\SL L r.2) ?_ ?_;refine Bw (λ_=>?_) (λ_=>Am ⟨al,am,h⟩);refine AE (fU U h hb (by omega)) ?_;intro r K;exact Ap.E (k - 1) V (Am ⟨by simp only;omega,by simp only;omega,K⟩)
   rintro⟨ap,l2⟩ ⟨Y,g2,aq⟩;simp only at Y g2 aq ⊢;refine AE (gw U aq hb (by omega)) ?_;rintro⟨_,hint⟩ ⟨v,rfl,v1,v2⟩;simp only;refine AE (S:=λr=>∃v:Nat,r.1=(v:Int)/\a<=v/\v<b/\SL L r.2.2) ?_ ?_;refine Bw (λ_=>?_) (λ_=>Am ⟨v,V,v1,v2,aq⟩);refine AE (fy U aq hb (by omega)) ?_;intro r K;refine Ap.E ((b - 1:Nat):Int) (by omega) (Ap.E ((v - a:Nat):Int) (by omega) ?_);exact Ap.E ((b - 1 - (v - a):Nat):Int) (by omega) (Am ⟨_,V,by omega,by omega,K⟩)
   rintro⟨_,bb,be⟩ ⟨v,rfl,v1,v2,ay⟩;simp only at ay ⊢;refine AE (S:=λ_=>True) (Bw (λ_=>Am trivial) (λ_=>Am trivial)) ?_;intro z1 _;refine AE (S:=λ_=>True) (Bw (λ_=>Am trivial) (λ_=>Am trivial)) ?_;intro bi _;refine AE (S:=λr=>∃l',SL L l'/\(r=Sum.inl l'∨r=Sum.inr l')) ?_ ?_;refine Bw (λ_=>?_) (λ_=>Am ⟨_,ay,.inr V⟩);refine AE (eJ U ay hb (by omega)) ?_;intro r K;exact Bw (λ_=>Am ⟨_,K,.inl V⟩) (λ_=>Am ⟨_,K,.inr V⟩)
   rintro _ ⟨a4,Z,rfl | rfl⟩;exact Am (.inl ⟨a4,Z,V⟩)
   have bn:=Z.len;simp only[Sum.elim_inr];refine AE (S:=λ_=>True) ?_ ?_;refine Bw (λc3=>?_) (λ_=>Am trivial);refine Ap.E ((a - 1:Nat):Int) (by omega) (Ba (m:=a - 1) V (by omega) ?_);exact Ba (m:=v) V (by omega) (AE (Z.cmp U (by omega) (by omega)) (λc _=>Am trivial))
   intro bo _;refine Bw (λ_=>?_) (λ_=>?_);refine AE (dV U Z hb (by omega) v1 v2) ?_;rintro⟨_,av⟩ ⟨q,rfl,a3,a5,ac⟩;exact Am (.inr ⟨q,b,ap,t1,t2,av,V,by omega,by omega,hb,Y,g2,ac⟩)
   .refine AE (fP U Z hb (by omega) v1 v2) ?_;rintro⟨_,t3,av⟩ ⟨q,rfl,a3,a5,ac⟩;simp only at ac ⊢;refine Ap.E ((q - a:Nat):Int) (by omega) (Ap.E ((b - q:Nat):Int) (by omega) ?_);refine AY (quo (k:=8) (by omega) (by omega)) (AE (S:=λr=>∃(O b':Nat),r.1=(O:Int)/\r.2.1=(b':Int)/\b' - O<b - a/\O<=b'/\b'<=L.length/\SL L r.2.2.2) ?_ ?_);refine Bw (λc4=>?_) (λc4=>?_);refine AE (az av a q ap ac a3 (by omega) (by omega) Y g2) ?_;intro r K;exact Ap.E ((q+1:Nat):Int) (by simp) (Am ⟨q+1,b,V,V,by omega,by omega,hb,K⟩);refine Ap.E ((q+1:Nat):Int) (by simp) (AE (az av (q+1) b ap ac (by omega) hb (by omega) Y g2) ?_);intro r K;exact Am ⟨a,q,V,V,by omega,by omega,by omega,K⟩
    rintro⟨_,_,t4,a6⟩ ⟨O,b',rfl,rfl,d1,d2,d3,a7⟩;exact Am (.inr ⟨O,b',ap,t4,t3,a6,V,d1,d2,d3,Y,g2,a7⟩)
  .rintro _ (⟨l',ag,rfl⟩ | ⟨O,b',k',a1,a2,l',rfl,d1,d2,d3,d4,d5,ag⟩);exact Am ⟨l',ag,V⟩;exact Am ⟨b' - O,d1,O,b',V,V,V,d2,d3,by omega,d4,d5,ag⟩
 .rintro _ ⟨l',ag,rfl⟩;exact Am ag
theorem Vh{F:Nat}{L:LL}(K:5000<F):∀(N:Nat) (l:LL) (a b:Nat) (k:Int),SL L l->a<=b->b<=L.length->b - a<2*2^N->0<=k->k<=100->Ap (L8 (N+1) F l (a:Int) (b:Int) k) (SL L)
 | 0,l,a,b,k,h,O,hb,Y,Z,ac=>by
  unfold L8 Mb
  have aw:=h.n
  refine AE (S:=λr=>∃l',SL L l'/\r=Sum.inl l') ?_ ?_
  .refine FJ (λm s=>s=((a:Int),(b:Int),k,true,true,l)) ?_ (m:=0) V (by omega)
   rintro _ _ rfl;unfold Pd;refine AE (S:=λr=>∃l',SL L l'/\r=Sum.inl l') ?_ ?_;refine Ap.E ((b - a:Nat):Int) (by simp only;omega) (BR (by omega) ?_);exact AE (Wa K h hb O) (λr ag=>Am ⟨r,ag,V⟩);rintro _ ⟨l',U,rfl⟩;exact Am ⟨l',U,V⟩
  .rintro _ ⟨l',U,rfl⟩;exact Am U
 | N+1,l,a,b,k,h,O,hb,Y,Z,ac=>by
  unfold L8;exact cJ (N:=2*2^(N+1)) K (λl a b k al g2 am ap aq av=>Vh K N l a b k al g2 am (by rw[vc] at ap;omega) aq av) h O hb Y Z ac
theorem ga:((List.range 1025).all λn=>match f115 0 (CC ((n:Nat):Int)) with | some m=>decide (0<=m/\m<=100) | none=>false)=true:=by decide+kernel
theorem kJ(F:Nat)(x:Nat):f115 F x=f115 0 x:=rfl
theorem dg(K:5000<F)(Z:l.length<=1023)(O:∀s∈l,s.length<=40/\∀d∈s,BD d):Ap (f76 F l) (λr=>l.Perm r):=by
 unfold f76;have h:=lH.1 ga l.length (rH.2 (by omega));split at h;rename_i m e;have:=tf h;refine AY ((kJ F _).trans e) (AE (S:=SL l) ?_ (λr U=>Am U.p));have Y:=Vh (F:=F) (L:=l) K 9 l 0 l.length m ⟨ss _,O,by omega⟩ (by omega) (rJ _) (by omega) this.1 this.2;exact Y;cases h
open Go Go.Conc Go.Proofs
def Q4(fu_:Nat)(p0:List Int):Option (Bool):=
 (f20 fu_ p0).bind λal=>
 (f31 fu_ al 4 5).bind λK=>
 (Ol fu_ K.2 K.1).bind λac=>
 (Oq fu_ K.1 ac.1).bind λU=>
 (Mj fu_ K.1 ac.1).bind λY=>
 Option.bind (
  if((Y.2) != (decide (U.2=0)))=true then(
   some true
  ) else(
   if(!Y.2)=true then(
    some (decide (U.2≠11))
   ) else(
    some false
   )
  )
 ) λam=>
 Option.bind (
  if am=true then(
   some true
  ) else(
   (f29 fu_ U.1 Y.1).bind λap=>
   some (!ap)
  )
 ) λaq=>
 if aq=true then(
  some false
 ) else(
  (f27 fu_ K.1).bind λO=>
  (f22 fu_ K.1).bind λZ=>
  Option.bind (
   if Z.2≠0 then(
    some true
   ) else(
    if O.2.2≠0 then(
     some (decide (O.2.2≠11))
    ) else(
     some false
    )
   )
  ) λav=>
  if av=true then(
   some false
  ) else(
   if O.2.2=11 then(
    (Mj fu_ K.1 Z.1).bind λaw=>
    Option.bind (
     if(!aw.2)=true then(
      (Au (((O.1).length:Int)+((O.2.1).length:Int))).bind λay=>
      some (decide (ay=0))
     ) else(
      some false
     )
    ) λaz=>
    Option.bind (
     if az=true then(
      (f18 fu_).bind λa0=>
      some a0
     ) else(
      some false
     )
    ) λa1=>
    some a1
   ) else(
    Option.bind (
     if((O.1).length:Int)≠((Z.1).length:Int) then(
      some true
     ) else(
      (Ov fu_ K.1 O.1).bind λa2=>
      some (decide (a2≠0))
     )
    ) λa3=>
    if a3=true then(
     some false
    ) else(
     (Mj fu_ K.1 O.1).bind λag=>
     Option.bind (
      if ag.2=true then(
       (f29 fu_ O.2.1 ag.1).bind λa4=>
       some a4
      ) else(
       some false
      )
     ) λa5=>
     Option.bind (
      if a5=true then(
       (f18 fu_).bind λa6=>
       some a6
      ) else(
       some false
      )
     ) λa7=>
     some a7
    )
   )
  )
 )
theorem dy{E H:LH}{a1:As}{p0:List Int}(a9:GE E)(c1:Ao rI E a1 c2 (p0)){fu_:Nat}{r:Bool}(bb:Q4 fu_ p0=some r):(Hi Tryz.prog).ok (NR Tryz.prog (λv _=>v=.bool r)) (G (Frame.enter Tryz.prog 3 ([.slice a1 (p0).length c2]:Lv_).toArray .normal) []) (mk E H []):=by
 refine ba Tryz.func3 V V (rT V) ?_;have c3:Av E H [[]]:=trivial;unfold Q4 at bb;let⟨jt,c4,c5⟩:=bs bb;refine C 7 V (BW (kT c1 c4) V V (A4 Tryz.func4 V) c3 ?_);rintro _ jy _ be ⟨j0,j1,kb,rfl,rfl,c6⟩ c7;let⟨kc,c8,c9⟩:=bs c5;refine C 5 V (Cg 1 (lh c6 c8) V V (A4 Tryz.func5 V) c7 V ?_);rintro _ ke _ bi ⟨kf,ki,km,kn,ko,kp,rfl,rfl,ap,aq,dd⟩ dj;refine B5 dj KT λaz ea=>?_;refine JS.sx 2 ea CJ λeb=>?_;refine Db 2 eb V λks U av ec=>C 4 V (B6 av EK CJ V V ?_);let⟨kv,ed,ee⟩:=bs c9;refine Cg 1 (gV (dd.M U) (ap.M U) (aq.M U) ed) V V (A4 Tryz.func6 V) ec V ?_;rintro _ k0 _ K ⟨k1,k2,k3,k4,rfl,rfl,bn,k5⟩ ef;refine C 4 V (B6 (av.M K) EK CJ V V ?_);let⟨bo,eg,ej⟩:=bs ee;refine C 1 V (BW (gX (a9.M (((be.trans bi).trans U).trans K)) (ap.M (U.trans K)) (aq.M (U.trans K)) bn eg) V V (A4 Tryz.func7 V) ef ?_);rintro _ k6 _ O ⟨ek,el,rfl,rfl,em⟩ eo;refine C 8 V (B6 (av.M (K.trans O)) EK CJ V V ?_);let⟨a3,ep,er⟩:=bs ej;refine C 1 V (BW (SW (ap.M ((U.trans K).trans O)) (aq.M ((U.trans K).trans O)) (bn.M O) ep) V V Rs eo ?_);rintro _ k7 _ Z ⟨eu,ew,rfl,rfl,ex⟩ a4;refine C 12 V (An (v:=.bool (((a3.2) != (decide (bo.2=0))))) V (λρ h=>gj Tryz.underlying4 (h _ _ V) (h _ _ V)) ?_);let⟨ey,eA,eC⟩:=bs er;refine C 1 V (FL 12 6 [] [(4,.pointer (some ⟨az,0,none⟩)),(6,.slice ek (bo.1).length el),(8,.slice eu (a3.1).length ew),(47,.bool ey)] (λbv Y bw=>?_) (λa5=>?_));let⟨eN,e0,e1⟩:=bs eC;refine C 1 V (HY [] (λL s=>∃(bx:LH),Jm bv H bx [] [(4,.pointer (some ⟨az,0,none⟩)),(53,.bool eN)] L s) ?_ ?_);rintro _ _ ⟨bx,rfl,rfl,ac,e3⟩;refine JL.done (Cp e1 (λe4 e5=>?_) (λe4 e6=>?_));refine C 4 V ?_;cases e5;exact HX V (JO.end (v:=.bool false) V (by decide+kernel) Tryz.func3 V V V);refine C 3 V (B6 (av.M ((((K.trans O).trans Z).trans Y).trans ac)) EK CJ V V ?_);let⟨aw,e7,e8⟩:=bs e6;refine BW (X7 (ap.M (((((U.trans K).trans O).trans Z).trans Y).trans ac)) (aq.M (((((U.trans K).trans O).trans Z).trans Y).trans ac)) e7) V V (A4 Tryz.func10 V) e3 ?_;rintro _ k9 _ al ⟨bz,b0,b1,b2,rfl,rfl,b3,ff⟩ fk;refine C 10 V (B6 (av.M (((((K.trans O).trans Z).trans Y).trans ac).trans al)) EK CJ V V ?_);let⟨fl,fm,fo⟩:=bs e8;refine BW (Yd (ap.M ((((((U.trans K).trans O).trans Z).trans Y).trans ac).trans al)) (aq.M ((((((U.trans K).trans O).trans Z).trans Y).trans ac).trans al)) fm) V V (A4 Tryz.func11 V) fk ?_;rintro _ a0 _ am ⟨fs,fv,rfl,rfl,fw⟩ a6;let⟨fN,gc,ge⟩:=bs fo;refine C 12 V (HY [] (λL s=>∃(a2:LH),Jm a0 H a2 [] [(4,.pointer (some ⟨az,0,none⟩)),(10,.slice bz (aw.1).length b0),(11,.slice b1 (aw.2.1).length b2),(12,iV aw.2.2),(13,.slice fs (fl.1).length fv),(74,.bool fN)] L s) ?_ ?_);rintro _ _ ⟨a2,rfl,rfl,ag,a7⟩;refine JL.done (Cp ge (λgg gh=>?_) (λgg gt=>?_));refine C 4 V ?_;cases gh;exact HX V (JO.end (v:=.bool false) V (by decide+kernel) Tryz.func3 V V V);refine C 7 V (AX gt (λgE gO=>?_) (λgE g0=>?_));refine C 2 V (B6 (av.M (((((((K.trans O).trans Z).trans Y).trans ac).trans al).trans am).trans ag)) EK CJ V V ?_);let⟨g1,g3,g4⟩:=bs gO;refine C 1 V (BW (SW (ap.M ((((((((U.trans K).trans O).trans Z).trans Y).trans ac).trans al).trans am).trans ag)) (aq.M ((((((((U.trans K).trans O).trans Z).trans Y).trans ac).trans al).trans am).trans ag)) (fw.M ag) g3) V V Rs a7 ?_);rintro _ la _ ld ⟨li,lm,rfl,rfl,ls⟩ b4;refine C 9 V (An (v:=.bool (!g1.2)) V (λρ h=>Yl.not (h _ _ V)) ?_);let⟨g5,g6,g7⟩:=bs g4;refine C 1 V (FL 10 4 [] [(92,.bool g5)] (λlw l3 b5=>?_) (λb6=>?_));let⟨ca,g8,g9⟩:=bs g7;refine C 1 V (FL 13 1 [] [(95,.bool ca)] (λl4 l5 l6=>?_) (λcc=>?_));refine C 2 V ?_;cases g9;exact HX V (JO.end (v:=.bool r) V (by decide+kernel) Tryz.func3 V V V);refine EM 93 g8 (λha hb=>?_) (λha hc=>?_);let⟨ma,hd,he⟩:=bs hb;refine Co (X0 hd) V V (A4 Tryz.func12 V) b5 λmb hf hg=>C 1 V ?_;cases he;exact cc hf hg V;refine C 2 V ?_;cases hc;exact cc (Le.refl _) b5 V;refine EM 85 g6 (λhj hk=>?_) (λhj hl=>?_);refine C 1 V (JL.ln Tryz.underlying26 V V V ?_);refine C 1 V (JL.ln Tryz.underlying22 V V V ?_);let⟨mm,hm,hn⟩:=bs hk;refine Bt hm V V V (C 2 V ?_);cases hn;exact b6 (Le.refl _) b4 V;refine C 7 V ?_;cases hl;exact b6 (Le.refl _) b4 V;refine C 5 V (JL.ln Tryz.underlying26 V V V ?_);refine C 1 V (JL.ln Tryz.underlying26 V V V ?_);let⟨ho,hp,hq⟩:=bs g0;refine C 2 V (HY [] (λL s=>∃(ce:LH),Jm a2 H ce [] [(4,.pointer (some ⟨az,0,none⟩)),(10,.slice bz (aw.1).length b0),(11,.slice b1 (aw.2.1).length b2),(106,.bool ho)] L s) ?_ ?_);rintro _ _ ⟨ce,rfl,rfl,ay,hr⟩;refine JL.done (Cp hq (λhs ht=>?_) (λhs hu=>?_));refine C 4 V ?_;cases ht;exact HX V (JO.end (v:=.bool false) V (by decide+kernel) Tryz.func3 V V V);refine C 3 V (B6 (av.M ((((((((K.trans O).trans Z).trans Y).trans ac).trans al).trans am).trans ag).trans ay)) EK CJ V V ?_);let⟨mp,hv,hw⟩:=bs hu;refine C 1 V (BW (SW (ap.M (((((((((U.trans K).trans O).trans Z).trans Y).trans ac).trans al).trans am).trans ag).trans ay)) (aq.M (((((((((U.trans K).trans O).trans Z).trans Y).trans ac).trans al).trans am).trans ag).trans ay)) (b3.M ((am.trans ag).trans ay)) hv) V V Rs hr ?_);rintro _ ms _ hx ⟨mv,mH,rfl,rfl,hy⟩ ci;let⟨hz,hA,hB⟩:=bs hw;refine C 10 V (FL 6 4 [] [(118,.bool hz)] (λmI mJ co=>?_) (λcp=>?_));let⟨ct,hC,hD⟩:=bs hB;refine C 1 V (FL 9 1 [] [(121,.bool ct)] (λmK mL mM=>?_) (λcw=>?_));refine C 2 V ?_;cases hD;exact HX V (JO.end (v:=.bool r) V (by decide+kernel) Tryz.func3 V V V);refine EM 119 hC (λhE hF=>?_) (λhE hG=>?_);let⟨mO,hH,hI⟩:=bs hF;refine Co (X0 hH) V V (A4 Tryz.func12 V) co λmP hK hL=>C 1 V ?_;cases hI;exact cw hK hL V;refine C 2 V ?_;cases hG;exact cw (Le.refl _) co V;refine EM 114 hA (λhM hN=>?_) (λhM hO=>?_);let⟨mQ,hP,hQ⟩:=bs hN;refine C 2 V (Co (Nc (ff.M (((am.trans ag).trans ay).trans hx)) hy hP) V V MF ci λmR hR hS=>?_);refine C 1 V ?_;cases hQ;exact cp hR hS V;refine C 4 V ?_;cases hO;exact cp (Le.refl _) ci V;intro cy;refine Jq 101 hp (λhT hU=>?_) (λhT hV=>?_);refine C 5 V ?_;cases hU;exact Az (cy _ _ ⟨a2,V,V,(Le.refl _),a7⟩) V;refine B6 (av.M (((((((K.trans O).trans Z).trans Y).trans ac).trans al).trans am).trans ag)) EK CJ V V ?_;let⟨mS,hW,hX⟩:=bs hV;refine C 1 V (Co (ky (a9.M ((((((((((be.trans bi).trans U).trans K).trans O).trans Z).trans Y).trans ac).trans al).trans am).trans ag)) (ap.M ((((((((U.trans K).trans O).trans Z).trans Y).trans ac).trans al).trans am).trans ag)) (aq.M ((((((((U.trans K).trans O).trans Z).trans Y).trans ac).trans al).trans am).trans ag)) (b3.M (am.trans ag)) hW) V V (A4 Tryz.func13 V) a7 λhY h0 h1=>?_);refine C 2 V ?_;cases hX;exact Az (cy _ _ ⟨hY,V,V,h0,h1⟩) V;intro a8;refine Jq 67 gc (λh2 h3=>?_) (λh2 h4=>?_);refine C 7 V ?_;cases h3;exact Az (a8 _ _ ⟨a0,V,V,(Le.refl _),a6⟩) V;refine C 3 V (Jq 70 h4 (λh5 h6=>?_) (λh5 h7=>?_));refine C 4 V ?_;cases h6;exact Az (a8 _ _ ⟨a0,V,V,(Le.refl _),a6⟩) V;refine C 4 V ?_;cases h7;exact Az (a8 _ _ ⟨a0,V,V,(Le.refl _),a6⟩) V;intro c0;refine EM 48 e0 (λh8 h9=>?_) (λh8 ia=>?_);refine C 5 V ?_;cases h9;exact Az (c0 _ _ ⟨bv,V,V,(Le.refl _),bw⟩) V;let⟨ih,ii,io⟩:=bs ia;refine C 2 V (Co (Nc (em.M (Z.trans Y)) (ex.M Y) ii) V V MF bw λi0 i1 i3=>?_);refine An (v:=.bool (!ih)) V (λρ h=>Yl.not (h _ _ V)) (C 1 V ?_);cases io;exact Az (c0 _ _ ⟨i0,V,V,i1,i3⟩) V;refine EM 40 eA (λi4 i5=>?_) (λi4 i6=>?_);refine C 7 V (JS.drop 1 a4 V λi7=>?_);cases i5;exact a5 (Le.refl _) i7 V;refine C 1 V (An (v:=.bool (!a3.2)) V (λρ h=>Yl.not (h _ _ V)) ?_);refine C 1 V (EM 43 i6 (λi8 i9=>?_) (λi8 jg=>?_));refine C 4 V (JS.drop 1 a4 V λjj=>?_);cases i9;exact a5 (Le.refl _) jj V;refine C 4 V (JS.drop 1 a4 V λjp=>?_);cases jg;exact a5 (Le.refl _) jp V
end Pal
namespace Pal
def F9:Nat->List (List Int)->List (Int×Int)
 | _,[]=>[]
 | i,x::ps=>x.map (λc=>(c,(i:Int)))++F9 (i+1) ps
theorem Uq(x:List Int):∀(ps:List (List Int)) (i:Nat),F9 i (ps++ [x])=F9 i ps++x.map λc=>(c,((i+ps.length:Nat):Int))
 | [],i=>by simp[F9]
 | y::ps,i=>by
  show y.map _++F9 (i+1) (ps++ [x])=_
  rw[Uq x ps (i+1),show i+1+ps.length=i+(y::ps).length by simp;omega,← sb];rfl
theorem RZ{k:Nat}:∀{ps:List (List Int)}(i:Nat),(∀x∈ps,x.length<=k)->(F9 i ps).length<=ps.length*k
 | [],_,_=>sC _
 | x::ps,i,h=>by
  have:=RZ (ps:=ps) (i+1) λy K=>h y (f4 _ K)
  have O:=h x rX
  show(x.map _++F9 (i+1) ps).length<=_
  rw[rS,ts,r4,sT];omega
theorem UO{q:Int×Int}:∀{ps:List (List Int)}{i:Nat},q∈F9 i ps->∃x∈ps,q.1∈x
 | [],_,h=>by cases h
 | x::ps,i,h=>by
  rcases kO.1 h with h | h
  .obtain⟨c,K,rfl⟩:=sj.1 h
   exact⟨x,rX,K⟩
  .let⟨y,O,U⟩:=UO h;exact⟨y,f4 _ O,U⟩
theorem WV(i a b:Nat):∀x:List Int,(x.map λc=>(c,(i:Int))).count ((b:Int),(a:Int))=if i=a then x.count (b:Int) else 0
 | []=>by simp
 | c::x=>by
  rw[sN,vf,WV i a b x,vf]
  by_cases K:i=a<;>by_cases O:c=(b:Int)<;>(try simp[K,O])<;>(try omega)
theorem UW(a b:Nat):∀(ps:List (List Int)) (i:Nat),(F9 i ps).count ((b:Int),(a:Int))=if i<=a then(ps.getD (a - i) []).count (b:Int) else 0
 | [],i=>by simp[F9]
 | x::ps,i=>by
  show(x.map _++F9 (i+1) ps).count _=_
  rw[List.count_append,WV,UW a b ps (i+1)]
  by_cases e:i=a
  .subst e
   rw[d6 rfl,d0 (by omega),d6 (rJ _),uM,List.getD_cons_zero];omega
  .rw [d0 e];by_cases e2:i<=a;rw[d6 (by omega),d6 e2];obtain⟨k,K⟩:∃k,a - i=k+1:=⟨a - i - 1,by omega⟩;rw[K,List.getD_cons_succ,show a - (i+1)=k by omega];omega;rw[d0 (by omega),d0 e2]
theorem Z7(ps:List (List Int)):G2 (F9 0 ps)=FN ps:=by
 funext a b;unfold G2 FN;rw[UW,d6 (sC _),tO]
variable{F:Nat}{o:OW}
theorem fR(Z:100<F)(h:VO o):Om F o=some (F9 0 o.1):=by
 have ac:=h.n5;refine Dx ?_;unfold Om;refine AE (S:=λr=>r=F9 0 o.1) ?_ (λr O=>Am O);refine CZ o.1.length (λi s=>s=(F9 0 (o.1.take i),(i:Int))) (by simp[F9]) (by omega) ?_ ?_;rintro i _ hi rfl;let⟨c1,c2⟩:=h.cs _ (jK hi);have U:=RZ (ps:=o.1.take i) (k:=3) 0 λx Y=>(h.cs x (vb Y)).1;rw[tn] at U;unfold P5;refine BR (by simp only;omega) (AE (S:=λr=>r=F9 0 (o.1.take (i+1))) ?_ ?_);refine CZ o.1[i].length (λk s=>s=(F9 0 (o.1.take i)++(o.1[i].take k).map λc=>(c,(i:Int)),(k:Int))) (by simp) (by omega) ?_ ?_;rintro k _ K rfl;unfold PQ;refine Ba (m:=i) V hi (BR (by simp only;omega) ?_);refine Ba (m:=i) V hi (Ba (m:=k) V K ?_);refine HW (by rw[rS,ts,tn];omega) (Ap.E ((k+1:Nat):Int) (by simp) ?_);refine Am ?_;rw[sE,cT K,tj,sB,sb];rfl;rintro _ rfl;unfold PQ;refine Ba (m:=i) V hi (BO (by simp) (Am ⟨_,V,?_⟩));rw[sE,cT hi,tj,Uq,se,tn,tx,tN (by omega)];rintro r rfl;exact Ap.E ((i+1:Nat):Int) (by simp) (Am V);rintro _ rfl;unfold P5;exact BO (by simp) (Am ⟨_,V,by rw[se]⟩)
def Fw:Nat->List (List Int)
 | 1=>[[0]]
 | 2=>[[0,1],[1,0]]
 | 3=>[[0,1,2],[0,2,1],[1,0,2],[1,2,0],[2,0,1],[2,1,0]]
 | _=>[]
theorem mc(F:Nat):Ni (F+100) ((1:Nat):Int)=some (Fw 1):=by kernel_rfl
theorem mf(F:Nat):Ni (F+100) ((2:Nat):Int)=some (Fw 2):=by kernel_rfl
theorem mi(F:Nat):Ni (F+100) ((3:Nat):Int)=some (Fw 3):=by kernel_rfl
variable{m:Nat}{π:List Int}
theorem Sz(K:1<=m)(O:m<=3)(h:π∈Nk m 8 0):π∈Fw m:=by
 have key:((List.range 4).all λm=>m==0 || (Nk m 8 0).all λπ=>(Fw m).contains π)=true:=by decide+kernel
 have:=lH.1 key m (rH.2 (by omega));rw[vl.2 (show m≠0 by omega),uZ] at this;exact vY.1 (lH.1 this π h)
theorem Sq(K:m<=3)(h:π∈Fw m):Nq m 0 π=true/\π.length=m/\∀i∈π,0<=i/\i<m:=by
 have key:((List.range 4).all λm=>(Fw m).all λπ=>Nq m 0 π&&(π.length==m)&&π.all λi=>decide (0<=i/\i<(m:Int)))=true:=by decide+kernel
 have:=lH.1 (lH.1 key m (rH.2 (by omega))) π h;simp only[f5,tr] at this;exact⟨this.1.1,this.1.2,λi hi=>tf (lH.1 this.2 i hi)⟩
theorem fg{i j:Nat}(K:m<=3)(O:j<(Fw m).length)(U:i<=j):KD ((Fw m).getD j []) ((Fw m).getD i [])=false:=by
 have key:((List.range 4).all λm=>(List.range 6).all λj=>(List.range 6).all λi=>decide (j<i) || !KD ((Fw m).getD j []) ((Fw m).getD i []))=true:=by decide+kernel
 have Y:(Fw m).length<=6:=by
  have:((List.range 4).all λm=>decide ((Fw m).length<=6))=true:=by decide
  exact tf (lH.1 this m (rH.2 (by omega)))
 have:=lH.1 (lH.1 (lH.1 key m (rH.2 (by omega))) j (rH.2 (by omega))) i (rH.2 (by omega));rw[sz (by omega),uZ] at this;simpa using this
def Ij(o:OW)(P:List DT)(r:List Int×Bool):Prop:=(r.2=true/\Io P (S0 o) 0 r.1)∨(r=([],false)/\¬Ends P 0 (FN o.1))
variable{P:List DT}
theorem SD(a5:5^16<F)(h:VO o)(ac:P.length<=3)(ap:∀d∈P,VT o.1.length d):Ap (Mj F o P) (Ij o P):=by
 have a6:(5:Nat)^16=152587890625:=by decide
 have a7:=h.n5;unfold Mj;refine Bw (λaz=>Am (.inl ⟨V,?_⟩)) (λaz=>?_);obtain rfl:P=[]:=tk.1 (by omega);exact⟨⟨_,V,.nil V⟩,λC ag _ _=>by cases ag<;>rfl⟩
 have hm:1<=P.length:=by omega
 refine AY (b:=Fw P.length) ?_ ?_
 .obtain⟨k,rfl⟩:∃k,F=k+100:=⟨F - 100,by omega⟩;have:P.length=1∨P.length=2∨P.length=3:=by omega
  rcases this with e | e | e<;>rw[e];exact mc k;exact mf k;exact mi k
 have a8:(Fw P.length).length<=6:=by
  have:((List.range 4).all λm=>decide ((Fw m).length<=6))=true:=by decide
  exact tf (lH.1 this _ (rH.2 (by omega)))
 have aq:∀{C:CF}{π:List Int},FR P 0 C π->π∈Fw P.length:=λK=>Sz hm ac (K.mem 8 (uq _) (by
  have:2^P.length<=2^3:=sn (by omega) ac
  omega))
 refine AE (S:=λq=>(∃π,q=Sum.inl (π,true)/\Io P (S0 o) 0 π)∨(q=Sum.inr ()/\¬Ends P 0 (FN o.1))) ?_ ?_
 .refine CZ (Fw P.length).length (λi s=>s=(i:Int)/\∀π∈(Fw P.length).take i,¬J6 P (FN o.1) π) ⟨V,λπ h=>by cases h⟩ (by omega) ?_ ?_
  .rintro i _ hi ⟨rfl,U⟩;have a0:=jK hi;let⟨v1,v2,av⟩:=Sq ac a0;have aw:(Fw P.length).getD i []=(Fw P.length)[i]:=by rw[f7,cT hi];rfl
   generalize al:(Fw P.length)[i]=π at v1 v2 av aw;unfold Qc;refine BR (by omega) (Ba (m:=i) V hi ?_);refine Ba (m:=i) V hi ?_;rw[al];obtain⟨i0,π,rfl⟩:=vA (show π≠ [] from λe=>by rw[e] at v2;simp only[u6] at v2;omega);have ay:∀j∈i0::π,∃d,ix P j=some d:=λj O=>by
    let⟨w1,w2⟩:=av j O;exact⟨_,H8 (m:=j.toNat) (by omega) (cT (by omega))⟩
   let⟨d,hd⟩:=ay i0 rX;have am:=ap d (Ti hd);have a9:=am.p0;have bb:=am.p1;simp only[r4] at v2;refine AY (b:=i0) (by simp[ix]) (AY hd ?_);refine AY (fR (by omega) h) ?_;have key:=gu (F:=F) ap (by omega) F π i0 d (F9 0 o.1) 0 d.2.2.toNat (by omega) (by omega) (by omega) (by have:=RZ (ps:=o.1) (k:=3) 0 λx a1=>(h.cs x a1).1;omega)
    (λq a2=>by let⟨x,Y,a3⟩:=UO a2;exact(h.cs x Y).2 _ a3) (sC _) hd λj O=>ay j (f4 _ O)
   rw[show((d.2.2.toNat:Nat):Int)=d.2.2 by omega] at key;refine AE key ?_;intro r Z;have Z:=Z.trans (EX.first am hd)
   rw[Z7] at Z;refine Bw (λc=>?_) (λc=>?_);refine Ba (m:=i) V hi ?_;rw[al];refine Am (.inl ⟨_,V,⟨_,V,J6.cmp v1 (Z.1 c)⟩,λC ag hC K=>?_⟩);cases hC;let⟨j,O,e⟩:=u9.1 (aq K);have a4:i<=j:=vH λq=>U ag (by rw[← e];exact List.mem_take_iff_getElem.2 ⟨j,by omega,rfl⟩) K.YJ;have:=fg ac O a4;rw[aw,f7,cT O,Option.getD_some,e] at this;exact this;refine Ap.E ((i+1:Nat):Int) (by simp) (Am ⟨V,Jg hi U ?_⟩);rw[al];exact λe=>c (Z.2 e)
  .rintro _ ⟨rfl,U⟩;unfold Qc;rw[se] at U;exact BO (by omega) (Am ⟨_,V,.inr ⟨V,λ⟨π,K⟩=>U π (aq K) K.YJ⟩⟩)
 .rintro q (⟨π,rfl,Y⟩ | ⟨rfl,Y⟩);exact Am (.inl ⟨V,Y⟩);exact Am (.inr ⟨V,Y⟩)
theorem Io.ends(h:Io P (S0 o) 0 π):Ends P 0 (FN o.1):=by
 obtain⟨⟨C,hC,K⟩,_⟩:=h;cases hC;exact⟨_,K⟩
theorem Io.uniq(O:P.length<=3){ρ:List Int}(h:Io P (S0 o) 0 π)(k:Io P (S0 o) 0 ρ):π=ρ:=by
 obtain⟨⟨C,hC,K⟩,hm⟩:=h;obtain⟨⟨D,Y,hd⟩,Z⟩:=k;have U:∀{C:CF}{π:List Int},FR P 0 C π->π.length=P.length:=λ{C π} K=>by
  rcases sF P.length with e | e
  .cases K with
   | nil _=>rw[e];rfl
   | cons a _ _ _=>have:=(d7.1 a).1;omega
  .refine(Sq O (Sz e O (K.mem 8 (uq _) ?_))).2.1;have:2^P.length<=2^3:=sn (by omega) O;omega
 exact U1 ((U K).trans (U hd).symm) (Z _ _ hC K) (hm _ _ Y hd)
theorem Ij.uniq(K:P.length<=3){r q:List Int×Bool}(h:Ij o P r)(k:Ij o P q):r=q:=by
 obtain⟨r1,r2⟩:=r;obtain⟨Y,Z⟩:=q;rcases h with⟨rfl,h⟩ | ⟨h,O⟩<;>rcases k with⟨rfl,k⟩ | ⟨k,U⟩;exact r5 (λz=>(z,true)) (Io.uniq K h k);exact absurd h.ends U;exact absurd k.ends O;rw[h,k]
theorem GD.vt{n:Nat}{d:DT}(g:GD n d):VT n d:=⟨g.1,g.2.1,g.2.2.1,g.2.2.2.1,g.2.2.2.2.1,g.2.2.2.2.2.1,g.2.2.2.2.2.2⟩
theorem WM(O:5^16<F)(h:VO o)(K:RP o P):Ap (f77 F o P) (Ij o P):=by
 have U:=h.n5;have Y:=K.len;exact kN ⟨h,by omega,λd hd=>(K.gd d hd).vt,O⟩
theorem dG(O:5^16<F)(h:VO o)(K:RP o P):Ap (Oq F o P) (λr=>(r.2=0/\Ij o P (r.1,true))∨(r.2=11/\Ij o P (r.1,false))):=by
 have Y:(5:Nat)^16=152587890625:=by decide
 have Z:=h.n5;have ac:=K.len;unfold Oq;refine AY (QN (by omega) h) ?_;refine BO (by simp) ?_;refine AY (WS (by omega) h K.gd (by omega)) ?_;rw[d6 K.nd,d6 K.z];refine AY (b:=0) V ?_;refine BO (by simp) ?_;refine AE (WM O h K) ?_;rintro⟨l,is⟩ hi;cases is with
 | false=>
  refine BR V (Am (.inr ⟨V,?_⟩));rcases hi with⟨e,_⟩ | ⟨e,U⟩;cases e;exact .inr ⟨V,U⟩
 | true=>exact BO (by simp) (Am (.inl ⟨rfl,hi⟩))
theorem eX(O:100<F)(h:VO o)(K:RP o P):Ov F o P=some 0:=by
 have U:=h.n5;have Y:=K.len;refine Dx ?_;unfold Ov;refine AY (QN O h) ?_;refine BO (by simp) ?_;refine AY (WS O h K.gd (by omega)) ?_;rw[d6 K.nd,d6 K.z];exact AY (b:=0) V (Am V)
theorem di:((List.range 6).all λn=>(List.range 6).all λm=>decide ((GW m (Eu n)).length<=300))=true:=by decide+kernel
theorem XV(h:VO o)(hw:(BT o).length=5):(HN o).length<=300/\∃m,∀s∈HN o,RP o s/\s.length=m:=by
 have O:=h.n5;rcases Wv (n:=o.1.length) (w:=BT o) (P:=λ_=>true) with e | ⟨m,hm,e,_⟩;have e:HN o=[]:=e;rw[e];exact⟨by simp,0,λs K=>by cases K⟩;have e:HN o=_:=e;rw[e];refine⟨?_,m,λs K=>⟨(UL h hw hm K).1,(UL h hw hm K).2.2⟩⟩;have:=tf (lH.1 (lH.1 di o.1.length (rH.2 (by omega))) m (rH.2 (by omega)));unfold Du;refine sG (vO _ _) ?_;rw[vm.2 λ_ _=>rfl];exact this
theorem eF(al:5^16<F)(h:VO o)(hw:(BT o).length=5):Ap (f27 F o) (λr=>(r.2.2=0/\r.1∈HN o/\Ij o r.1 (r.2.1,true))∨(r=([],[],11)/\∀s∈HN o,¬Ends s 0 (FN o.1))):=by
 have av:(5:Nat)^16=152587890625:=by decide
 have aw:=h.n5;unfold f27;refine AY (QN (by omega) h) ?_;refine BO (by simp) ?_;refine AY (Yk (by omega) h) ?_;let⟨Z,m,U⟩:=XV h hw;refine AE (dg (by omega) (sG Z (by omega)) λs ac=>⟨by have:=(U s ac).1.len;omega,λd hd=>?_⟩) ?_;let⟨ay,g2,az,a0,a1,a2,a3⟩:=(U s ac).1.gd d hd;unfold BD;omega
 intro r K;have a4:r.length<=300:=by rw[← K.length_eq];exact Z
 refine AE (S:=λq=>(∃s l,q=Sum.inl (s,l,0)/\s∈r/\Ij o s (l,true))∨(q=Sum.inr ()/\∀s∈r,¬Ends s 0 (FN o.1))) ?_ ?_
 .refine CZ r.length (λi s=>s=(i:Int)/\∀x∈r.take i,¬Ends x 0 (FN o.1)) ⟨V,λx am=>by cases am⟩ (by omega) ?_ ?_
  .rintro i _ hi ⟨rfl,O⟩;unfold QC;refine BR (by omega) (Ba (m:=i) V hi ?_);refine AE (WM al h (U _ (K.mem_iff.2 (jK hi))).1) ?_;rintro⟨l,is⟩ ag;cases is with
   | true=>exact BR rfl (Am (.inl ⟨_,_,rfl,jK hi,ag⟩))
   | false=>
    refine BO (by simp) (Ap.E ((i+1:Nat):Int) (by simp) ?_);refine Am ⟨V,Jg hi O ?_⟩;rcases ag with⟨e,_⟩ | ⟨_,ap⟩;cases e;exact ap
  .rintro _ ⟨rfl,O⟩;unfold QC;rw[se] at O;exact BO (by omega) (Am ⟨_,V,.inr ⟨V,O⟩⟩)
 .rintro q (⟨s,l,rfl,Y,aq⟩ | ⟨rfl,Y⟩);exact Am (.inl ⟨V,K.mem_iff.2 Y,aq⟩);exact Am (.inr ⟨V,λs k1=>Y s (K.mem_iff.1 k1)⟩)
theorem Io.le(K:P.length<=3)(h:Ij o P (π,true)):π.length<=40:=by
 rcases h with⟨_,⟨C,hC,O⟩,_⟩ | ⟨e,_⟩
 .rcases sF P.length with e | e
  .cases O with
   | nil _=>simp
   | cons a _ _ _=>have:=(d7.1 a).1;omega
  .have U:π.length=P.length:=(Sq K (Sz e K (O.mem 8 (uq _) (by
    have:2^P.length<=2^3:=sn (by omega) K
    omega)))).2.1
   omega
 .cases e
theorem eL(O:5^16<F)(av:f18 F=some true)(YA:List Int):Q4 F YA=some true:=by
 have bi:(5:Nat)^16=152587890625:=by decide
 refine Dx ?_;unfold Q4;refine AE (S:=λb=>BG 0 b) ?_ ?_;unfold f20;exact Am ⟨vW 0,vW 0⟩
 intro b a5;refine AE (jo (k:=0) (pm:=4) (dm:=5) (by omega) a5 (by omega) (by omega) (by omega) (by omega)) ?_;rintro⟨o,b⟩ ⟨aw,ay,_,az⟩;have h:VO o:=aw;have hb:BG 100 b:=az.M (by omega);clear aw az;simp only at ay ⊢;obtain⟨_,a0⟩:=L9 (F:=F) (by omega) h;refine AE (eG (by omega) h hb (by omega)) ?_;rintro⟨P,bn⟩ ⟨U,_⟩;simp only at U ⊢;have Y:P.length<=3:=by have:=U.len;omega
 refine AE (dG O h U) ?_;rintro⟨got,a1⟩ K;refine AE (SD O h Y λd hd=>(U.gd d hd).vt) ?_;rintro⟨due,sm⟩ Z;simp only at K Z ⊢;have k1:(a1=0/\sm=true∨a1=11/\sm=false)/\got=due/\due.length<=40:=by
  rcases K with⟨rfl,K⟩ | ⟨rfl,K⟩;have e:=Ij.uniq Y K Z;cases e;exact⟨.inl ⟨V,V⟩,V,Io.le Y K⟩;have e:=Ij.uniq Y K Z;cases e;refine⟨.inr ⟨V,V⟩,V,?_⟩;rcases K with⟨e,_⟩ | ⟨e,_⟩;cases e;cases e;simp
 obtain⟨k1,rfl,a6⟩:=k1;refine AY (b:=false) (by rcases k1 with⟨rfl,rfl⟩ | ⟨rfl,rfl⟩<;>rfl) (AY (b:=false) ?_ ?_);rw[d0 (by simp)];exact Dx (AY (Xh (by omega) a6) (Am V))
 refine BO (by simp) ?_;let⟨_,m,ac⟩:=XV h a0.1;have ag:=gy _ (iW h ay);refine AE (eF O h a0.1) ?_;rintro⟨x,bo,bv⟩ al;refine AY (iZ (by omega) h) ?_;simp only at al ⊢;refine AY (b:=false) ?_ ?_;rw[d0 (by simp)];rcases al with⟨rfl,_⟩ | ⟨e,_⟩;rfl;cases e;rfl
 refine BO (by simp) ?_;rcases al with⟨rfl,a7,a2⟩ | ⟨e,a8⟩
 .refine BO (by simp) ?_;let⟨am,a9⟩:=ac _ a7;have ap:x.length<=3:=by have:=am.len;omega
  refine AY (b:=false) ?_ ?_;rw[d0 (by rw[a9,(ac _ ag).2];simp),eX (by omega) h am];rfl
  refine BO (by simp) (AE (SD O h ap λd hd=>(am.gd d hd).vt) ?_);rintro⟨bb,a3⟩ aq;have e:=Ij.uniq ap a2 aq;cases e;refine AY (b:=true) ?_ ?_;rw[d6 rfl];exact Dx (AY (Xh (by omega) (Io.le ap a2)) (Am V))
  refine AY (b:=true) ?_ (Am V);rw[d6 rfl];exact Dx (AY av (Am V))
 .cases e;refine BR V ?_;let⟨a4,_⟩:=ac _ ag;have be:(Oj (HN o)).length<=3:=by have:=a4.len;omega
  refine AE (SD O h be λd hd=>(a4.gd d hd).vt) ?_;rintro⟨bb,a3⟩ aq;obtain rfl:a3=false:=by
   rcases aq with⟨_,q⟩ | ⟨e,_⟩;exact absurd q.ends (a8 _ ag);cases e;rfl
  refine AY (b:=true) V (AY (b:=true) ?_ (Am V));rw[d6 rfl];exact Dx (AY av (Am V))
end Pal
