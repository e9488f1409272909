/- ToothSettles. Part 4 of 8. -/
import Derived.Test.YtboibffcmhheiaaGreatDoorTqb
import Derived.Test.YtboibffcmhheiaaGreatDoorTqc
import Derived.Conc.WgGenN3
import Derived.Sort.AssemblyPlain
import Derived.Sort.Walk13a
set_option linter.all false
set_option maxRecDepth 100000
namespace Pal
open Go Go.Conc Go.Proofs
open Go.Proofs.Tryz
theorem Xs{J:Judge Tryz.prog}{I:List (List Int×Nat)→LH→Seg→Prop}(bi:∀x E E' X,Le E E'→I x E X→I x E' X){E:LH}{bk k1 o2:Nat}{a7 a8 Z:Ap}{a9 bb ag:Nat}{bd:Lv_}{O:BY}{lk:AJ}{age:Int}(bo:At E k1 o2 (([sV a7 O.1 a9,sV a8 O.2.1 bb]:Lv_)++bd))(bv:Al (rL rI) E a7 a9 O.1)(bw:Al (rL rI) E a8 bb O.2.1)(bU:(rA 13 (rN .u16)).r E bd O.2.2)(bV:Al Bg E Z ag lk){al am:Nat}(bW:At E al am [pV bk 0]){ap av kf a0:Nat}(bY:At E kf a0 [.func (.func 153) #[] [pV al am,pV ap av,pV kf a0].toArray]){be:Value}(bZ:At E ap av [be]){fuel:Nat}{ok:List (List Int×Nat)→Bool}(b0:∀(E':LH) (Y:Seg) (ac:List (List Int×Nat)) (K:List Int) (U:Nat) (a:Ap) (c:Nat),Le E E'→Al rI E' a c K→I ac E' Y→ok (ac++ [(K,U)])=true→Fb J be [.agg #[iV age,.slice a K.length c,uV U]] E' Y (fun w b1 b2=>w= .bool true∧I (ac++ [(K,U)]) b1 b2)):
  ∀(g sm:Nat) (ms:List Int) (fl:Nat) (ac V:List (List Int×Nat)),IQ ok fuel O lk age g sm ms fl ac=some V→∀E' X a c,Le E E'→Al rI E' a c ms→I ac E' X→AN J 153 [uV sm,pV al am,pV ap av,pV kf a0] E' ([(bk,.cells #[pV k1 o2,.slice Z lk.length ag,iV age,(.slice a ms.length c),uV fl] 175 (0,0))]++X) (fun w E' B'=>∃b3 b4 b5 Y,w= .bool true∧B'= [(bk,.cells #[pV k1 o2,.slice Z lk.length ag,b3,b4,b5] 175 (0,0))]++Y∧I V E' Y):=by
 intro g
 induction g with
 | zero=>intro sm ms fl ac V h;cases h
 | succ g b6=>
  intro sm ms fl ac V h E' X a c hle b7 b8;obtain⟨r,b9,ca⟩:=Option.bind_eq_some_iff.1 h;exact Zw bi (bo.Ai hle) (bv.Ai hle) (bw.Ai hle) (Rp.Ai _ hle bU) (bV.Ai hle) b7 (bW.Ai hle) (bY.Ai hle) (bZ.Ai hle) b8 (rec:=IQ ok fuel O lk age g) (fun s' K U ac V cb a1 a2 a3 c2 a4 a5 a6=>b6 s' K U ac V cb a1 a2 a3 c2 (hle.trans a4) a5 a6) (fun a1 a2 ac K U a3 c2 a4 a5 a6 cc=>b0 a1 a2 ac K U a3 c2 (hle.trans a4) a5 a6 cc) b9 ca
def Kq(fuel:Nat)(K:BY)(lk:AJ)(age:Int):Option Nat:=
 (ix K.2.2 (age)).bind fun O=>
 some O
theorem RI{J:Judge Tryz.prog}{I:List (List Int×Nat)→LH→Seg→Prop}(be:∀x E E' X,Le E E'→I x E X→I x E' X){E:LH}{bk k1 o2:Nat}{a3 a4 Y:Ap}{a5 a6 Z:Nat}{bi:Lv_}{V:BY}{lk:AJ}{age:Int}(bo:At E k1 o2 (([sV a3 V.1 a5,sV a4 V.2.1 a6]:Lv_)++bi))(b0:Al (rL rI) E a3 a5 V.1)(b1:Al (rL rI) E a4 a6 V.2.1)(a7:(rA 13 (rN .u16)).r E bi V.2.2)(b2:Al Bg E Y Z lk){av a0:Nat}(a8:At E av a0 [pV bk 0]){bv bw:Nat}(bU:At E bv bw [iV age]){al am ap:Value}{bV:Go.Fn}{X:Seg}{acc acc':List (List Int×Nat)}(b3:I acc E X){ok:List (List Int×Nat)→Bool}{fuel:Nat}(b4:∀(E':LH) (U:Seg) (ac:List (List Int×Nat)) (a1:List Int) (a9:Nat) (a:Ap) (c:Nat),Le E E'→Al rI E' a c a1→I ac E' U→ok (ac++ [(a1,a9)])=true→Fb J (.func bV #[] #[]) [.agg #[iV age,.slice a a1.length c,uV a9]] E' U (fun w b5 b6=>w= .bool true∧I (ac++ [(a1,a9)]) b5 b6)){r:Nat}(bW:Kq fuel V lk age=some r)(b7:IQ ok fuel V lk age fuel r [] 0 acc=some acc'):
  AN J 152 [.func bV #[] #[],pV bv bw,pV av a0] E ([(bk,.cells #[pV k1 o2,.slice Y lk.length Z,al,am,ap] 175 (0,0))]++X) (fun w E' B'=>∃al am ap U,w= .tuple #[]∧B'= [(bk,.cells #[pV k1 o2,.slice Y lk.length Z,al,am,ap] 175 (0,0))]++U∧I acc' E' U):=by
 refine A3 func152 fun Q cF cs H bb b8=>?_;refine DN (S':= [[(bk,.cells #[pV k1 o2,.slice Y lk.length Z,al,am,ap] 175 (0,0))],X]) (by simp) bb fun bb=>?_;unfold Kq at bW;refine zg 2 rfl (Ca bb fun bd cG K b9 ca=>?_);refine zg 3 rfl (B4 0 (a8.Ai K) FO rfl rfl rfl ?_);refine B4 0 (bU.Ai K) By rfl rfl rfl (AF (v:= .agg #[iV age,nS,uV 0]) rfl (fun ρ h=>Di [(0,1),(1,1),(2,1)] h GY underlying104 ⟨rfl,Bv type3,rfl,Bv type28,rfl,Bv type102,trivial⟩ rfl rfl) ?_);refine zg 1 rfl (BL underlying175 Cx rfl rfl rfl ?_);refine BW 0 ca Cx fun cb=>?_;refine zg 3 rfl (CW cb (DG type201) fun a2 cc=>?_);refine Cw (S':= [[(bk,.cells #[pV k1 o2,sV Y lk Z,iV age,nS,uV 0] 175 (0,0))],X,[],[(a2,.cells #[.nilFunc] 201 (0,0))]]) rfl cc fun cd=>zg 3 rfl (AF (v:= .func (.func 153) #[] ([pV av a0,pV bd 0,pV a2 0]:Lv_).toArray) rfl (fun ρ h=>IZ (by simp) (by simp [h (.tmp 2) _ rfl,h (.tmp 3) _ rfl,h (.tmp 4) _ rfl])) ?_);refine BW 3 cd (Bv type201) fun ce=>?_;refine C8 3 ce rfl fun cf O bY ag=>JL.done (Dq 11 [bk] ⟨⟨0,_,rfl⟩,trivial⟩ ag fun ht=>?_);refine JG.lp 0 ht 0 bY ag ⟨⟨0,_,rfl⟩,trivial⟩ (DI underlying201) ?_;refine JG.lp 1 ht 0 (a8.Ai (K.Ac O)) ag ⟨⟨0,_,rfl⟩,trivial⟩ FO ?_;refine Ck 2 ht rfl rfl (B9 3 ht underlying175 OC rfl rfl rfl rfl ?_);refine Fj 4 ht 0 0 ag Md ?_;refine JG.lp 5 ht 0 (bU.Ai (K.Ac O)) ag ⟨⟨0,_,rfl⟩,trivial⟩ By ?_;refine Ck 6 ht rfl rfl (B9 7 ht underlying141 Gj rfl rfl rfl rfl ?_);obtain⟨cg,bZ,ci⟩:=bs bW;obtain⟨_,rfl,ck,_,_⟩:=TH (kk:=13) (pp:=(rN .u16)) (Rp.Ai _ (K.Ac O) a7) (At.tail (l:= [sV a3 V.1 a5,sV a4 V.2.1 a6]) (bo.Ai (K.Ac O))) bZ;refine BA (v:= .pointer (some ⟨k1,(o2+2+Int.toNat (age)*1),none⟩)) 8 ht rfl rfl (fun ρ h s' hs=>JI (kk:=13) (pp:=(rN .u16)) (Rp.Ai _ (K.Ac O) a7) bZ underlying139 Io (h _ _ rfl) (h _ _ rfl)) (B9 9 ht underlying138 En rfl rfl rfl rfl ?_);refine JG.lp 10 ht 0 ck ag ⟨⟨0,_,rfl⟩,trivial⟩ GW ?_;refine Cj [11] ?_;obtain rfl:=oi ci;have cm:Fb J (.func (.func 153) #[] [pV av a0,pV bd 0,pV a2 0].toArray) [uV cg] cf ([(bk,.cells #[pV k1 o2,.slice Y lk.length Z,iV age,nS,uV 0] 175 (0,0))]++X) (fun w E' B'=>∃al am ap U,w= .bool true∧B'= [(bk,.cells #[pV k1 o2,.slice Y lk.length Z,al,am,ap] 175 (0,0))]++U∧I acc' E' U):=Fb.ofFn (caps:= [pV av a0,pV bd 0,pV a2 0]) (AV func153 rfl) (Xs be (bo.Ai (K.Ac O)) (b0.Ai (K.Ac O)) (b1.Ai (K.Ac O)) (Rp.Ai _ (K.Ac O) a7) (b2.Ai (K.Ac O)) (a8.Ai (K.Ac O)) bY (b9.Ai O) (fun cn co ac cp cq cr c2 ct cu cv cw=>b4 cn co ac cp cq cr c2 (((K.Ac O)).Ac ct) cu cv cw) _ _ _ _ _ _ b7 _ _ _ _ Ar Al.nil (be _ _ _ _ (K.Ac O) b3));refine DN (S':= [[(bk,.cells #[pV k1 o2,.slice Y lk.length Z,iV age,nS,uV 0] 175 (0,0))]++X]) (by simp) ag fun cy=>JH 0 cm rfl rfl rfl rfl rfl cy rfl ?_;rintro w cH _ cz ⟨cA,cB,cC,U,rfl,rfl,cD⟩ cE;refine JL.done (JL.fin (v:= .tuple #[]) rfl rfl (Cm.list func152 rfl (vs:= []) trivial) ?_);exact b8 ((K.Ac O).trans cz) rfl ⟨cA,cB,cC,U,rfl,by simp,cD⟩ cE
end Pal
namespace Pal
open Go Go.Conc Go.Proofs
open Go.Proofs.Tryz
noncomputable def IE:Code:=match Tryz.f127.body with | some (.seq _ (.seq _ (.seq (.seq _ (.block _ (.rangeFunc _ _ a _))) _)))=>a | _=> .skip
noncomputable def ID:Code:=match Tryz.f127.body with | some (.seq _ (.seq _ (.seq (.seq _ (.block _ (.rangeFunc _ _ _ b))) _)))=>b | _=> .skip
def add1(fuel:Nat)(age:Int)(q:Int×List (Cf))(x:List Int×Nat):Option (Int×List (Cf)):=
 (f130 fuel (age,x.1,x.2)).bind fun n=>IK fuel q.1 q.2 (age,x.1,x.2) n
def Ht(fuel:Nat)(age:Int)(ac:List (List Int×Nat)):Option (Int×List (Cf)):=FB (add1 fuel age) ac (0,[])
def IP(fuel:Nat)(age:Int)(l K O:Nat)(T:AD)(ac:List (List Int×Nat))(E:LH)(X:Seg):Prop:=
 ∃q a c g,Ht fuel age ac=some q∧X=(l,.loop ⟨.ready,none,127,T,#[17],IE,ID,O⟩)::([(K,.cells #[iV age,iV q.1,.slice a q.2.length c] 133 (0,0))]++g)∧OL 104 Dx E a c g q.2
theorem IP.Ai{fuel:Nat}{age:Int}{l K O:Nat}{T:AD}:∀(ac:List (List Int×Nat)) (E E':LH) (X:Seg),Le E E'→IP fuel age l K O T ac E X→IP fuel age l K O T ac E' X:=
 fun ac E E' X hle ⟨q,a,c,g,U,V,Y⟩=>⟨q,a,c,g,U,V,Y.Ai hle⟩
theorem QL{α B:Type}{step:B→α→Option B}:∀{l:List α} {x:α} {b:B},FB step (l++ [x]) b=(FB step l b).bind fun K=>step K x
 | [],x,b=>by simp [FB]
 | y::l,x,b=>by
  simp only [List.cons_append,FB]
  cases step b y with
  | none=>rfl
  | some K=>exact QL
theorem Sf{J:Judge Tryz.prog}{fuel:Nat}{age:Int}{l K O:Nat}{T:AD}(a1:Has Tryz.f127.ntmps [(6,pV K 0)] T){E:LH}{X:Seg}{ac:List (List Int×Nat)}{ms:List Int}{fl:Nat}{U:Ap}{V:Nat}(am:Al rI E U V ms)(a2:IP fuel age l K O T ac E X)(a3:(Ht fuel age (ac++ [(ms,fl)])).isSome=true):
  Fb J (.func (.yield l) #[] #[]) [.agg #[iV age,.slice U ms.length V,uV fl]] E X (fun w E' a4=>w= .bool true∧IP fuel age l K O T (ac++ [(ms,fl)]) E' a4):=by
 obtain⟨q,a,c,g,ap,rfl,a5⟩:=a2;obtain⟨r,he⟩:=Option.isSome_iff_exists.1 a3;have av:add1 fuel age q (ms,fl)=some r:=by
  have Z:=he;unfold Ht at Z ap;rw [QL,ap] at Z;exact Z
 refine Fb.yield (i:=0) (t:=17) rfl rfl fun Q a6 cs H ag a7=>?_;refine(?_:JL J Q (TO l 127) Tryz.f127.ntmps [(17,.agg #[iV age,.slice U ms.length V,uV fl]),(6,pV K 0)] [] [.code IE,.beginRound,.code ID] (a6::cs) _) _ (a1.put (d:=some 17) rfl _);refine DN (S':= [[(l,.loop ⟨.ready,none,127,T,#[17],IE,ID,O⟩)],[(K,.cells #[iV age,iV q.1,.slice a q.2.length c] 133 (0,0))],g]) (by simp) ag fun ag=>?_;unfold add1 at av;refine JL.region (CW ag GY fun b0 a8=>?_);refine BW 3 a8 Cx fun a9=>?_;refine C8 3 a9 rfl fun b1 Y a0 bb=>JL.done (JL.beginRound 0 rfl rfl bb rfl rfl fun bd=>?_);refine JL.block (C5 4 fun ht=>?_);refine B9 0 ht underlying133 Dy rfl rfl rfl rfl (Fi 1 ht a0 F1 Cx rfl rfl rfl ?_);refine Fi 2 ht a0 F1 Cx rfl rfl rfl ?_;obtain⟨b2,be,bi⟩:=bs av;refine JG.call (i:=3) (vs:= [.agg #[iV age,sV U ms V,uV fl]]) (Zh (p0:=(age,ms,fl)) (am.Ai Y) be) (by decide+kernel) rfl rfl rfl (AV func130 rfl) rfl bd ?_;rintro _ b3 _ al ⟨rfl,rfl⟩ bo;refine Cj [4] (DN (S':= [[(l,.loop ⟨.busy,none,127,T,#[17],IE,ID,O⟩)],[(K,.cells #[iV age,iV q.1,.slice a q.2.length c] 133 (0,0))]++g]) (by simp) bo fun bv=>?_);refine B8 1 (YY ((a5.Ai (Y.Ac al))) (tr:=(age,ms,fl)) (am.Ai (Y.Ac al)) bi) rfl rfl (AV func122 rfl) bv rfl ?_;rintro _ b4 _ bw ⟨bU,bV,g',rfl,rfl,bW⟩ bY;refine zg 2 rfl (JL.endRound 0 rfl rfl bY rfl fun bZ=>?_);exact a7 _ _ _ _ ((Y.Ac al).trans bw) rfl ⟨rfl,r,bU,bV,g',he,by simp,bW⟩ bZ
end Pal
namespace Pal
open Go Go.Conc Go.Proofs
open Go.Proofs.Tryz
open Go.Conc.Lib Go.ConcR.Gen
theorem Q4{J:Judge Tryz.prog}{E:LH}{bk:Nat}{age:Int}:AN J 129 [pV bk 0,iV age] E [] (fun w E' B'=>∃K O,w= .func (.func 152) #[] [pV K 0,pV O 0].toArray∧B'= []∧At E' K 0 [iV age]∧At E' O 0 [pV bk 0]):=by
 refine A3 func129 fun Q a1 cs H Z ag=>?_;refine zg 2 rfl (Ca Z fun U a2 al am ap=>?_);refine Ca ap fun V a3 Y av a0=>?_;refine zg 4 rfl (AF (v:= .func (.func 152) #[] ([pV V 0,pV U 0]:Lv_).toArray) rfl (fun ρ h=>IZ (by simp) (by simp [h (.tmp 3) _ rfl,h (.tmp 2) _ rfl])) ?_);refine zg 2 rfl (AB func129 rfl rfl ?_);exact ag (al.Ac Y) rfl ⟨V,U,rfl,by simp,av,(am.Ai Y)⟩ a0
def GJ(fuel:Nat)(K:BY)(lk:AJ)(age:Int):Option (Int×List (Cf)):=
 (Kq fuel K lk age).bind fun s=>(IQ (fun ac=>(Ht fuel age ac).isSome) fuel K lk age fuel s [] 0 []).bind fun tr=>Ht fuel age tr
theorem Wp{L:WgLink}(bi:WgLib Tryz.prog L)(cq:L.done=128){F:Fam}{j:Nat}{E:LH}{k1 o2:Nat}{cr ct O:Ap}{cu cv U:Nat}{cw:Lv_}{av:BY}{lk:AJ}{age:Int}(cy:At E k1 o2 (([sV cr av.1 cu,sV ct av.2.1 cv]:Lv_)++cw))(cz:Al (rL rI) E cr cu av.1)(cA:Al (rL rI) E ct cv av.2.1)(cB:(rA 13 (rN .u16)).r E cw av.2.2)(cC:Al Bg E O U lk){bo bv bw ol ka a0 kc ag:Nat}(cG:At E bo bv [pV k1 o2])(cH:At E bw ol [.slice O lk.length U])(bW:At E ka a0 [iV age])(cD:At E kc ag [.chan (some F.ch)])
  {fuel:Nat} {q:Int×List (Cf)} (bU:GJ fuel av lk age=some q) (bV:F.has j=decide (0<q.2.length)) (cE:∀E' a c,Le E E'→Al Dx E' a c q.2→F.msg j (.agg #[iV age,iV q.1,.slice a q.2.length c]) E'):
  Way Tryz.prog false (Stop Tryz.prog F (F.start j)) (born Tryz.prog ⟨.fn (.func 127) [.pointer (some F.sA),pV bo bv,pV bw ol,pV ka a0,pV kc ag].toArray,#[]⟩) ⟨E,fun _=>none,false⟩:=by
 refine Rz (fn:=Tryz.f127) (vs:= [.pointer (some F.sA),pV bo bv,pV bw ol,pV ka a0,pV kc ag]) func127 rfl rfl (by simp) (Nat.le_of_ble_eq_true rfl) ?_;obtain⟨H,cI⟩:∃H:LH,H=fun _=>none:=⟨_,rfl⟩;rw [← cI];have cF:Ax E H []:=trivial;refine(?_:JL (BB Tryz.prog false) (Stop Tryz.prog F (F.start j)) (baseD 127) Tryz.f127.ntmps (FR 0 [.pointer (some F.sA),pV bo bv,pV bw ol,pV ka a0,pV kc ag]) [] [.code _] [H3 Tryz.prog] (An E H []));refine zg 2 rfl (JL.defer (vs:= [.pointer (some F.sA)]) rfl rfl rfl rfl rfl ?_);refine zg 2 rfl (C5 8 fun ht=>?_);refine Cz 0 ht 0 cG Md rfl rfl rfl rfl (Cz 1 ht 0 cH Ij rfl rfl rfl rfl ?_);refine BA (v:= .agg #[pV k1 o2,sV O lk U,iV 0,nS,uV 0]) 2 ht rfl rfl (fun ρ h s' hs=>Di [(0,1),(1,1),(2,3)] h (DG type175) underlying175 ⟨rfl,Bv type94,rfl,Bv type25,rfl,Bv type104,trivial⟩ rfl rfl) (Cz 4 ht 0 bW By rfl rfl rfl rfl ?_);refine BA (v:= .agg #[iV age,iV 0,nS]) 5 ht rfl rfl (fun ρ h s' hs=>Di [(0,1),(1,2)] h Il underlying133 ⟨rfl,Bv type3,rfl,Bv type97,trivial⟩ rfl rfl) (HX (i:=3) (j:=6) rfl (by decide+kernel) ?_ ?_)
 ·refine Take.TV (v:= .agg #[pV k1 o2,sV O lk U,iV 0,nS,uV 0]) cF rfl rfl rfl rfl fun a1 a3=>JG.one (i:=6) rfl (by decide+kernel) (Take.Lo a3 rfl rfl rfl Il fun al a4=>?_);refine Ck 7 ht rfl rfl (Cj [8] ?_);refine Cw (S':= [[(a1,.cells #[pV k1 o2,sV O lk U,iV 0,nS,uV 0] 175 (0,0))],[(al,.cells #[iV 0,iV 0,nS] 133 (0,0))]]) rfl a4 fun a5=>BW 1 a5 AS fun Z=>?_;refine zg 3 rfl (Cw (S':= [[(a1,.cells #[pV k1 o2,.slice O lk.length U,iV 0,nS,uV 0] 175 (0,0))],[(al,.cells #[iV age,iV 0,nS] 133 (0,0))]]) rfl Z fun bY=>?_);refine IJ [(3,pV ka a0),(4,pV kc ag),(5,pV a1 0),(6,pV al 0)] rfl ?_;have a6:Le E E:=Ar;refine zg 2 rfl (B4 0 (bW.Ai a6) By rfl rfl rfl ?_);refine BN Q4 rfl rfl (AV func129 rfl) bY ?_;rintro _ cJ _ bZ ⟨a7,a8,rfl,rfl,b0,b1⟩ a3;have V:=a6.Ac bZ;refine zg 2 rfl (DN (S':= [[(a1,.cells #[pV k1 o2,.slice O lk.length U,iV 0,nS,uV 0] 175 (0,0))],[(al,.cells #[iV age,iV 0,nS] 133 (0,0))]]) (by simp) a3 fun b2=>?_);refine JL.rangeFunc (caps:= [pV a7 0,pV a8 0]) rfl (by intro e;cases e) rfl (AV func152 rfl) b2 fun Y l T a9 b3=>Pf (S':= [[(a1,.cells #[pV k1 o2,.slice O lk.length U,iV 0,nS,uV 0] 175 (0,0))]++([(l,.loop ⟨.ready,none,127,T,#[17],IE,ID,Y⟩)]++ [(al,.cells #[iV age,iV 0,nS] 133 (0,0))]),[(Y,.deferred (some []))]]) SU b3 fun a4=>?_;unfold GJ at bU;obtain⟨cK,b4,b5⟩:=Option.bind_eq_some_iff.1 bU;obtain⟨tr,b6,b7⟩:=Option.bind_eq_some_iff.1 b5;refine RR (vs:= [.func (.yield l) #[] #[],pV a7 0,pV a8 0]) 0 (RI (I:=IP fuel age l al Y T) (ok:=fun ac=>(Ht fuel age ac).isSome) (acc:= []) IP.Ai (cy.Ai V) (cz.Ai V) (cA.Ai V) (Rp.Ai _ V cB) (cC.Ai V) b1 b0 ⟨(0,[]),none,0,[],rfl,rfl,OL.nil⟩ (fun E' b8 ac cM cN a c hle b9 ca cb=>Sf (a9.sub ⟨rfl,trivial⟩) b9 ca cb) b4 b6) a4 rfl ?_;rintro _ cO _ cc ⟨cd,ce,cf,b8,rfl,rfl,K,a,c,g,cg,rfl,ci⟩ ck;obtain rfl:K=q:=Option.some.inj (cg.symm.trans b7);refine Sy (S':= [[(a1,.cells #[pV k1 o2,.slice O lk.length U,cd,ce,cf] 175 (0,0))],[(l,.loop ⟨.ready,none,127,T,#[17],IE,ID,Y⟩)],[(al,.cells #[iV age,iV K.1,.slice a K.2.length c] 133 (0,0))],g,[(Y,.deferred (some []))]]) (by simp) ck fun a5=>Qx 1 a5 rfl rfl rfl fun Z=>?_;refine(?_:JL (BB Tryz.prog false) (Stop Tryz.prog F (F.start j)) (baseD 127) Tryz.f127.ntmps [(4,pV kc ag),(6,pV al 0)] [⟨.collected Y,#[]⟩,dcall 128 #[.pointer (some F.sA)]] _ [H3 Tryz.prog] _) T (a9.sub ⟨rfl,rfl,trivial⟩);have bb:=V.Ac cc;have cm:dcall 128 #[.pointer (some F.sA)]=dcall L.done #[.pointer (some F.sA)]:=by rw [cq]
  rw [cm];refine zg 3 rfl (BL underlying133 Dy rfl rfl rfl ?_);refine BL underlying97 DF rfl rfl rfl (AF (v:= .slice a K.2.length c) rfl (fun ρ h=>Yl.load EV (h _ _ rfl) (D1 (j:=2) (off:=2) Z rfl rfl)) ?_);refine Bh underlying95 rfl rfl rfl (zg 2 rfl ?_);refine PH (p:=0<((K.2).length:Int)) rfl (fun cn=>?_) (fun cn=>?_)
  ·have ap:F.start j= .CI j:=by unfold Fam.start;rw [bV,decide_eq_true (show 0<K.2.length by omega)];rfl
   rw [ap];refine JL.region (B4 0 (cD.Ai bb) L9 rfl rfl rfl ?_);refine BU 3 ci Z rfl fun cP co cp bd=>AF rfl (fun ρ h=>F5 (vs:= [iV age,iV K.1,.slice a K.2.length c]) Cu AS (h _ _ rfl) (F2 (off:=0) 2 bd rfl rfl)) (RN rfl rfl rfl rfl rfl rfl rfl (cE _ _ _ (bb.Ac co) cp) ?_);exact JL.done (JL.out rfl (JO.collected 4 rfl bd rfl fun be=>JO.N5 bi rfl rfl (JO.leaveD rfl func127 rfl (.inr rfl) KG)))
  ·have ap:F.start j= .Dd:=by unfold Fam.start;rw [bV,decide_eq_false (show ¬0<K.2.length by omega)];rfl
   rw [ap];exact JL.skip (JL.out rfl (JO.collected 4 rfl Z rfl fun be=>JO.N5 bi rfl rfl (JO.leaveD rfl func127 rfl (.inr rfl) KG)))
 ·refine Take.Lo cF rfl rfl rfl Il fun am be=>JG.one (i:=3) rfl (by decide+kernel) (Take.TV (v:= .agg #[pV k1 o2,sV O lk U,iV 0,nS,uV 0]) be rfl rfl rfl rfl fun a2 cQ=>?_);refine Ck 7 ht rfl rfl (Cj [8] ?_);refine Cw (S':= [[(am,.cells #[iV 0,iV 0,nS] 133 (0,0))],[(a2,.cells #[pV k1 o2,sV O lk U,iV 0,nS,uV 0] 175 (0,0))]]) rfl cQ fun cR=>BW 0 cR AS fun cT=>?_;refine zg 3 rfl (JS.perm (S':= [[(a2,.cells #[pV k1 o2,.slice O lk.length U,iV 0,nS,uV 0] 175 (0,0))],[(am,.cells #[iV age,iV 0,nS] 133 (0,0))]]) (List.Perm.swap _ _ _) cT fun bY=>?_);refine IJ [(3,pV ka a0),(4,pV kc ag),(5,pV a2 0),(6,pV am 0)] rfl ?_;have a6:Le E E:=Ar;refine zg 2 rfl (B4 0 (bW.Ai a6) By rfl rfl rfl ?_);refine BN Q4 rfl rfl (AV func129 rfl) bY ?_;rintro _ cJ _ bZ ⟨a7,a8,rfl,rfl,b0,b1⟩ a3;have V:=a6.Ac bZ;refine zg 2 rfl (DN (S':= [[(a2,.cells #[pV k1 o2,.slice O lk.length U,iV 0,nS,uV 0] 175 (0,0))],[(am,.cells #[iV age,iV 0,nS] 133 (0,0))]]) (by simp) a3 fun b2=>?_);refine JL.rangeFunc (caps:= [pV a7 0,pV a8 0]) rfl (by intro e;cases e) rfl (AV func152 rfl) b2 fun Y l T a9 b3=>Pf (S':= [[(a2,.cells #[pV k1 o2,.slice O lk.length U,iV 0,nS,uV 0] 175 (0,0))]++([(l,.loop ⟨.ready,none,127,T,#[17],IE,ID,Y⟩)]++ [(am,.cells #[iV age,iV 0,nS] 133 (0,0))]),[(Y,.deferred (some []))]]) SU b3 fun a4=>?_;unfold GJ at bU;obtain⟨cK,b4,b5⟩:=Option.bind_eq_some_iff.1 bU;obtain⟨tr,b6,b7⟩:=Option.bind_eq_some_iff.1 b5;refine RR (vs:= [.func (.yield l) #[] #[],pV a7 0,pV a8 0]) 0 (RI (I:=IP fuel age l am Y T) (ok:=fun ac=>(Ht fuel age ac).isSome) (acc:= []) IP.Ai (cy.Ai V) (cz.Ai V) (cA.Ai V) (Rp.Ai _ V cB) (cC.Ai V) b1 b0 ⟨(0,[]),none,0,[],rfl,rfl,OL.nil⟩ (fun E' b8 ac cM cN a c hle b9 ca cb=>Sf (a9.sub ⟨rfl,trivial⟩) b9 ca cb) b4 b6) a4 rfl ?_;rintro _ cO _ cc ⟨cd,ce,cf,b8,rfl,rfl,K,a,c,g,cg,rfl,ci⟩ ck;obtain rfl:K=q:=Option.some.inj (cg.symm.trans b7);refine Sy (S':= [[(a2,.cells #[pV k1 o2,.slice O lk.length U,cd,ce,cf] 175 (0,0))],[(l,.loop ⟨.ready,none,127,T,#[17],IE,ID,Y⟩)],[(am,.cells #[iV age,iV K.1,.slice a K.2.length c] 133 (0,0))],g,[(Y,.deferred (some []))]]) (by simp) ck fun a5=>Qx 1 a5 rfl rfl rfl fun Z=>?_;refine(?_:JL (BB Tryz.prog false) (Stop Tryz.prog F (F.start j)) (baseD 127) Tryz.f127.ntmps [(4,pV kc ag),(6,pV am 0)] [⟨.collected Y,#[]⟩,dcall 128 #[.pointer (some F.sA)]] _ [H3 Tryz.prog] _) T (a9.sub ⟨rfl,rfl,trivial⟩);have bb:=V.Ac cc;have cm:dcall 128 #[.pointer (some F.sA)]=dcall L.done #[.pointer (some F.sA)]:=by rw [cq]
  rw [cm];refine zg 3 rfl (BL underlying133 Dy rfl rfl rfl ?_);refine BL underlying97 DF rfl rfl rfl (AF (v:= .slice a K.2.length c) rfl (fun ρ h=>Yl.load EV (h _ _ rfl) (D1 (j:=2) (off:=2) Z rfl rfl)) ?_);refine Bh underlying95 rfl rfl rfl (zg 2 rfl ?_);refine PH (p:=0<((K.2).length:Int)) rfl (fun cn=>?_) (fun cn=>?_)
  ·have ap:F.start j= .CI j:=by unfold Fam.start;rw [bV,decide_eq_true (show 0<K.2.length by omega)];rfl
   rw [ap];refine JL.region (B4 0 (cD.Ai bb) L9 rfl rfl rfl ?_);refine BU 3 ci Z rfl fun cP co cp bd=>AF rfl (fun ρ h=>F5 (vs:= [iV age,iV K.1,.slice a K.2.length c]) Cu AS (h _ _ rfl) (F2 (off:=0) 2 bd rfl rfl)) (RN rfl rfl rfl rfl rfl rfl rfl (cE _ _ _ (bb.Ac co) cp) ?_);exact JL.done (JL.out rfl (JO.collected 4 rfl bd rfl fun be=>JO.N5 bi rfl rfl (JO.leaveD rfl func127 rfl (.inr rfl) KG)))
  ·have ap:F.start j= .Dd:=by unfold Fam.start;rw [bV,decide_eq_false (show ¬0<K.2.length by omega)];rfl
   rw [ap];exact JL.skip (JL.out rfl (JO.collected 4 rfl Z rfl fun be=>JO.N5 bi rfl rfl (JO.leaveD rfl func127 rfl (.inr rfl) KG)))
end Pal
namespace Go.Proofs
abbrev Tryz.link:Go.Conc.Lib.WgLink:={add:=126,done:=128,wait:=132,relMerge:=139,disable:=140,enable:=141,inBubble:=142,associate:=143,fatal:=144,uOr:=145,uAdd:=146,raceRead:=147,uLoad:=148,uStore:=149,disassociate:=150,semrelease:=151,acquire:=157,isAssociated:=158,uCas:=159,raceWrite:=160,semacquire:=161,orU64:=170,addU64:=171,loadU64:=172,storeU64:=173,casU64:=177,tWgP:=189,tUP:=191,tAssoc:=192,tWg:=171,tAU:=168,tU64:=90,tUint:=156,tU32:=169,tPU32:=196,tPAU:=221,tPU64:=223,tNoCopy:=164,tANoCopy:=165,tAlign64:=166}
theorem Tryz.PN:Go.Conc.Lib.WgLib Tryz.prog Tryz.link:=
 ⟨Tryz.func126,Tryz.func128,Tryz.func132,Tryz.func139,Tryz.func140,Tryz.func141,Tryz.func142,Tryz.func143,Tryz.func144,Tryz.func145,Tryz.func146,Tryz.func147,Tryz.func148,Tryz.func149,Tryz.func150,Tryz.func151,Tryz.func157,Tryz.func158,Tryz.func159,Tryz.func160,Tryz.func161,Tryz.func170,Tryz.func171,Tryz.func172,Tryz.func173,Tryz.func177,Tryz.underlying189,Tryz.runUnderlying189,Tryz.sizeOf189,Tryz.isAgg189,Tryz.zeroValue189,Tryz.underlying191,Tryz.runUnderlying191,Tryz.sizeOf191,Tryz.isAgg191,Tryz.zeroValue191,Tryz.underlying192,Tryz.runUnderlying192,Tryz.sizeOf192,Tryz.isAgg192,Tryz.zeroValue192,Tryz.underlying171,Tryz.runUnderlying171,Tryz.sizeOf171,Tryz.isAgg171,Tryz.zeroValue171,Tryz.underlying168,Tryz.runUnderlying168,Tryz.sizeOf168,Tryz.isAgg168,Tryz.zeroValue168,Tryz.underlying90,Tryz.runUnderlying90,Tryz.sizeOf90,Tryz.isAgg90,Tryz.zeroValue90,Tryz.underlying156,Tryz.runUnderlying156,Tryz.sizeOf156,Tryz.isAgg156,Tryz.zeroValue156,Tryz.underlying169,Tryz.runUnderlying169,Tryz.sizeOf169,Tryz.isAgg169,Tryz.zeroValue169,Tryz.underlying196,Tryz.runUnderlying196,Tryz.sizeOf196,Tryz.isAgg196,Tryz.zeroValue196,Tryz.underlying221,Tryz.runUnderlying221,Tryz.sizeOf221,Tryz.isAgg221,Tryz.zeroValue221,Tryz.underlying223,Tryz.runUnderlying223,Tryz.sizeOf223,Tryz.isAgg223,Tryz.zeroValue223,Tryz.underlying0,Tryz.runUnderlying0,Tryz.sizeOf0,Tryz.isAgg0,Tryz.zeroValue0,Tryz.underlying3,Tryz.runUnderlying3,Tryz.sizeOf3,Tryz.isAgg3,Tryz.zeroValue3,Tryz.underlying4,Tryz.runUnderlying4,Tryz.sizeOf4,Tryz.isAgg4,Tryz.zeroValue4,Tryz.underlying9,Tryz.runUnderlying9,Tryz.sizeOf9,Tryz.isAgg9,Tryz.zeroValue9,Tryz.underlying20,Tryz.runUnderlying20,Tryz.sizeOf20,Tryz.isAgg20,Tryz.zeroValue20,Tryz.underlying21,Tryz.runUnderlying21,Tryz.sizeOf21,Tryz.isAgg21,Tryz.zeroValue21,(by decide+kernel),(by decide+kernel)⟩
end Go.Proofs
namespace Pal
open Go Go.Conc Go.Proofs Go.Conc.Lib Go.ConcR.Gen
theorem W0{F:Fam}(O:F.n<2147483648){E:LH}{kc K:Nat}(U:At E kc K [.chan (some F.ch)]):Way Tryz.prog false (Stop Tryz.prog F .De) (born Tryz.prog ⟨.fn (.func 131) [.pointer (some F.sA),pV kc K].toArray,#[]⟩) ⟨E,fun _=>none,false⟩:=by
 refine Rz (fn:=Tryz.f131) (vs:= [.pointer (some F.sA),pV kc K]) Tryz.func131 rfl rfl (by simp) (Nat.le_of_ble_eq_true rfl) ?_;obtain⟨H,V⟩:∃H:LH,H=fun _=>none:=⟨_,rfl⟩;rw [← V];refine(?_:JL (BB Tryz.prog false) (Stop Tryz.prog F .De) (baseD 131) Tryz.f131.ntmps (FR 0 [.pointer (some F.sA),pV kc K]) [] [.code _] [H3 Tryz.prog] (An E H []));refine zg 2 rfl (JL.wait Tryz.PN O rfl rfl rfl rfl rfl ?_);refine zg 2 rfl (B4 0 U L9 rfl rfl rfl ?_);refine VH rfl rfl rfl rfl rfl rfl rfl (JL.done ?_);exact JL.out rfl (JO.leaveD rfl Tryz.func131 rfl (.inr rfl) KG)
end Pal
namespace Pal
open Go Go.Conc Go.Proofs
open Go.Proofs.Tryz
open Go.Conc.Lib Go.ConcR.Gen
noncomputable def Jg:Code:=match Tryz.f102.body with | some (.seq _ (.seq _ (.seq _ (.seq (.seq _ (.block _ (.loop c))) _))))=>c | _=> .skip
theorem UR{F:Fam}(b5:F.n=13){E:LH}{k1 o2:Nat}{ap av a0:Ap}{a1 a2 a3:Nat}{a4:Lv_}{O:BY}{lk:AJ}(a6:At E k1 o2 (([sV ap O.1 a1,sV av O.2.1 a2]:Lv_)++a4))(a7:Al (rL rI) E ap a1 O.1)(a8:Al (rL rI) E av a2 O.2.1)(a9:(rA 13 (rN .u16)).r E a4 O.2.2)(bb:Al Bg E a0 a3 lk){V Y Z ol kc ag:Nat}(bd:At E V Y [pV k1 o2])(be:At E Z ol [.slice a0 lk.length a3])(bi:At E kc ag [.chan (some F.ch)]){fuel:Nat}{qs:Nat→Int×List (Cf)}(bo:∀j,j<13→GJ fuel O lk ((j:Nat):Int)=some (qs j))(bv:∀j,j<13→F.has j=decide (0<(qs j).2.length))(bw:∀j,j<13→∀E' a c,Al Dx E' a c (qs j).2→F.msg j (.agg #[iV ((j:Nat):Int),iV (qs j).1,.slice a (qs j).2.length c]) E'){j:Nat}(al:j<13){am H:LH}(hle:Le E am)(bU:Ax am H []){k:Li_}{cs:Lf_}
  (h:∀U,Le E U→Ax U H []→JL (BB Tryz.prog true) (Stop Tryz.prog F (F.DV j)) (base 102) Tryz.f102.ntmps [(2,pV V Y),(3,pV Z ol),(5,pV kc ag),(6,.pointer (some F.sA)),(11,iV ((j+1:Nat):Int))] [] (.inLoop Jg::k) cs (An U H [])):
  JL (BB Tryz.prog true) (Stop Tryz.prog F (.FE j)) (base 102) Tryz.f102.ntmps [(2,pV V Y),(3,pV Z ol),(5,pV kc ag),(6,.pointer (some F.sA)),(11,iV ((j:Nat):Int))] [] (.code Jg:: .inLoop Jg::k) cs (An am H []):=by
 refine zg 5 rfl ?_;rw [decide_eq_true (show((j:Nat):Int)<13 by omega)];refine zg 7 rfl (CW bU CU fun bV bW=>?_);refine BW 0 bW AX fun bY=>?_;refine C8 0 bY rfl fun U bZ b0 b1=>DN (S':= []) (by simp) b1 fun b2=>?_;have K:=hle.trans bZ;refine zg 3 rfl (Vj Tryz.PN rfl rfl rfl rfl rfl rfl ?_);refine zg 2 rfl (AF (v:= .func (.func 127) #[] ([.pointer (some F.sA),pV V Y,pV Z ol,pV bV 0,pV kc ag]:Lv_).toArray) rfl (fun ρ h=>IZ (by simp) (by simp [h (.tmp 6) _ rfl,h (.tmp 2) _ rfl,h (.tmp 3) _ rfl,h (.tmp 7) _ rfl,h (.tmp 5) _ rfl])) ?_);have a5:=Wp Tryz.PN rfl (F:=F) (j:=j) (a6.Ai K) (a7.Ai K) (a8.Ai K) (Rp.Ai _ K a9) (bb.Ai K) (bd.Ai K) (be.Ai K) b0 (bi.Ai K) (bo j al) (bv j al) (fun E' a c _ b3=>bw j al E' a c b3);refine Z6 (fi:= #[]) rfl rfl rfl rfl rfl rfl rfl (by first | exact a5 | (simp only [List.append_toArray,List.nil_append,Array.append_empty,Array.empty_append];exact a5)) ?_
 refine zg 3 rfl ?_;have b4:As (((j:Nat):Int)+1)=some (((j+1:Nat)):Int):=by unfold As;rw [if_pos (by omega)];simp
 refine Ba b4 rfl rfl rfl (zg 2 rfl ?_);exact Ay (h U K b2) rfl
theorem VV{F:Fam}(V:F.n=13){E:LH}{k1 o2:Nat}{am ap av:Ap}{a0 a1 a2:Nat}{a3:Lv_}{K:BY}{lk:AJ}(a6:At E k1 o2 (([sV am K.1 a0,sV ap K.2.1 a1]:Lv_)++a3))(a7:Al (rL rI) E am a0 K.1)(a8:Al (rL rI) E ap a1 K.2.1)(a9:(rA 13 (rN .u16)).r E a3 K.2.2)(bb:Al Bg E av a2 lk){Y Z ag ol kc al:Nat}(bd:At E Y Z [pV k1 o2])(be:At E ag ol [.slice av lk.length a2])(bi:At E kc al [.chan (some F.ch)]){fuel:Nat}{qs:Nat→Int×List (Cf)}(bo:∀j,j<13→GJ fuel K lk ((j:Nat):Int)=some (qs j))(bv:∀j,j<13→F.has j=decide (0<(qs j).2.length))(bw:∀j,j<13→∀E' a c,Al Dx E' a c (qs j).2→F.msg j (.agg #[iV ((j:Nat):Int),iV (qs j).1,.slice a (qs j).2.length c]) E'){H:LH}{k:Li_}{cs:Lf_}
  (h:∀O,Le E O→Ax O H []→JL (BB Tryz.prog true) (Stop Tryz.prog F .FV) (base 102) Tryz.f102.ntmps [(2,pV Y Z),(3,pV ag ol),(5,pV kc al),(6,.pointer (some F.sA)),(11,iV 13)] [] (.code Jg:: .inLoop Jg::k) cs (An O H [])):
  ∀(m j:Nat),j+m=13→0<m→∀U,Le E U→Ax U H []→JL (BB Tryz.prog true) (Stop Tryz.prog F (.FE j)) (base 102) Tryz.f102.ntmps [(2,pV Y Z),(3,pV ag ol),(5,pV kc al),(6,.pointer (some F.sA)),(11,iV ((j:Nat):Int))] [] (.code Jg:: .inLoop Jg::k) cs (An U H []):=by
 intro m
 induction m with
 | zero=>intro j _ bU;cases bU
 | succ m bV=>
  intro j bZ _ U hle bW;refine UR V a6 a7 a8 a9 bb bd be bi bo bv bw (by omega) hle bW fun O a4 a5=>JL.again ?_;by_cases hm:m=0
  ·subst hm;have bY:j=12:=by omega
   subst bY;have e:F.DV 12= .FV:=by unfold Fam.DV;rw [V];rfl
   rw [e];exact h O a4 a5
  ·have e:F.DV j= .FE (j+1):=by unfold Fam.DV;rw [V,if_neg (by omega)]
   rw [e];exact bV (j+1) (by omega) (by omega) O a4 a5
end Pal
namespace Pal
open Go Go.Conc Go.Proofs
open Go.Proofs.Tryz
open Go.Conc.Lib Go.ConcR.Gen
noncomputable def TI:Code:=match Tryz.f102.body with | some (.seq _ (.seq _ (.seq _ (.seq _ (.seq _ (.seq _ (.seq (.seq _ (.block _ (.loop c))) _)))))))=>c | _=> .skip
def partOf(qs:Nat→Int×List (Cf))(k:Nat):(Bw):=(((k:Nat):Int),(qs k).1,(qs k).2)
theorem Y5{K:List Nat}{kk n:Nat}(O:kk<n)(U:kk ∉ K):((List.range n).filter (fun x=> !(K++ [kk]).contains x)).length<((List.range n).filter (fun x=> !K.contains x)).length:=by
 have e:(List.range n).filter (fun x=> !(K++ [kk]).contains x)=((List.range n).filter (fun x=> !K.contains x)).filter (fun x=>x != kk):=by
  rw [List.filter_filter];apply List.filter_congr;intro x _;by_cases V:x∈K <;> by_cases Y:x=kk <;> simp [V,Y]
 rw [e];apply List.length_filter_lt_length_iff_exists.2;exact⟨kk,by simp [O,U],by simp⟩
theorem Vi{F:Fam}(ag:F.n=13){Q:GP}(a6:∀g s,(D4 Tryz.prog).ok Q g s→F.fin g s){qs:Nat→Int×List (Cf)}(a7:∀kk v E',F.msg kk v E'→∃a c,v= .agg #[iV ((kk:Nat):Int),iV (qs kk).1,.slice a (qs kk).2.length c]∧Al Dx E' a c (qs kk).2)
  {E H:LH} {k:Li_} {cs:Lf_}
  (a8:∀(K:List Nat) (V:LH) (a:Ap) (c:Nat) (g:Seg),Le E V→K.Nodup→(∀x∈K,x<13∧F.has x=true)→(∀x,x<13→F.has x=true→x∈K)→OL 133 CB V a c g (K.map (partOf qs))→Ax V H [g]→JL (D4 Tryz.prog) Q (base 102) Tryz.f102.ntmps [(8,.slice a (K.map (partOf qs)).length c)] [] k cs (An V H [g])):
  ∀(m:Nat) (K:List Nat) (vs:Lv_) (U:LH) (a:Ap) (c:Nat) (g:Seg),((List.range 13).filter (fun x=> !K.contains x)).length=m→K.Nodup→(∀x∈K,x<13∧F.has x=true)→K.length+m≤13→Le E U→OL 133 CB U a c g (K.map (partOf qs))→Ax U H [g]→
   JL (BB Tryz.prog true) (Stop Tryz.prog F (.Cr K vs)) (base 102) Tryz.f102.ntmps [(8,.slice a (K.map (partOf qs)).length c),(18,.chan (some F.ch))] [] (.code TI:: .inLoop TI:: .inBlock 2::k) cs (An U H [g]):=by
 intro m
 induction m using Nat.strongRecOn with
 | _ m a9=>
  intro K vs U a c g hm al am hlen hle ap av;refine zg 2 rfl (Wa rfl rfl rfl rfl rfl rfl underlying162 Il ?_ ?_)
  ·intro kk v E' Y bb a0 a1 bd be;rw [ag] at Y;obtain⟨b4,b5,rfl,bi⟩:=a7 kk v E' be;have bo:Ax E' H [g]:=av.up bd;refine(?_:JL (BB Tryz.prog true) (Stop Tryz.prog F (.Cr (K++ [kk]) (vs++ [_]))) (base 102) Tryz.f102.ntmps _ [] _ cs (An E' H [g]));refine zg 9 rfl (JS.alloc rfl rfl rfl bo Il fun b6 bv=>?_);refine BW 1 bv AS fun bw=>?_;refine C8 1 bw rfl fun bU Z bV bW=>DN (S':= [g]) (by simp) bW fun bY=>zg 3 rfl (BX bV Cu AS rfl rfl ?_);have bZ:(K.map (partOf qs)).length+1≤2 ^ 40:=by rw [List.length_map];omega
   refine QE (pp:=CB) (xv:=partOf qs kk) 0 rfl rfl rfl rfl (fun w=>rfl) rfl (fun w=>rfl) rfl rfl rfl underlying130 underlying130 underlying130 AS (Cy type133) Il rfl (by decide) (by decide) (by decide) (by decide) bZ (ap.Ai (a1.trans Z)) ⟨_,_,rfl,rfl,⟨_,_,rfl,rfl,⟨_,_,rfl,bi.Ai Z⟩⟩⟩ bY rfl fun w a2 a3 g' a4 b0=>?_;have em:K.map (partOf qs)++ [partOf qs kk]=(K++ [kk]).map (partOf qs):=by simp
   rw [em] at a4;refine Bb (v:= .slice a2 ((K++ [kk]).map (partOf qs)).length a3) rfl rfl rfl (fun ρ h=>by rw [← em];exact Yl.assign (h _ _ rfl)) (zg 2 rfl ?_);refine JL.again ?_;have b1:((List.range 13).filter (fun x=> !(K++ [kk]).contains x)).length<m:=by rw [← hm];exact Y5 Y a0
   exact Ay (a9 _ b1 (K++ [kk]) (vs++ [_]) bU a2 a3 g' rfl (by rw [List.nodup_append];exact⟨al,by simp,by intro x O y a5;simp at a5;subst a5;intro e;exact a0 (e▸O)⟩) (by intro x O;simp at O;rcases O with O | rfl;exact am x O;exact⟨Y,bb⟩) (by simp only [List.length_append,List.length_cons,List.length_nil];omega) ((hle.trans a1).Ac Z) a4 b0) rfl
  ·intro b2 T b3;refine a6 _ _ ?_;refine(?_:JL (D4 Tryz.prog) Q (base 102) Tryz.f102.ntmps _ [] _ cs (An U H [g])) T b3;exact zg 5 rfl (Ay (a8 K U a c g hle al am (fun x O hh=>b2 x (by rw [ag];exact O) hh) ap av) rfl)
end Pal
namespace Pal
open Go Go.Conc Go.Proofs
open Go.Proofs.Tryz
variable {J:Judge Tryz.prog}{E:LH}
def SS:List Nat:= [0,1,2,2,3,3,3,3,4,4,4,4,4,4,4,4,5,5,5,5,5,5,5,5,5,5,5,5,5,5,5,5,6,6,6,6,6,6,6,6,6,6,6,6,6,6,6,6,6,6,6,6,6,6,6,6,6,6,6,6,6,6,6,6,7,7,7,7,7,7,7,7,7,7,7,7,7,7,7,7,7,7,7,7,7,7,7,7,7,7,7,7,7,7,7,7,7,7,7,7,7,7,7,7,7,7,7,7,7,7,7,7,7,7,7,7,7,7,7,7,7,7,7,7,7,7,7,7,8,8,8,8,8,8,8,8,8,8,8,8,8,8,8,8,8,8,8,8,8,8,8,8,8,8,8,8,8,8,8,8,8,8,8,8,8,8,8,8,8,8,8,8,8,8,8,8,8,8,8,8,8,8,8,8,8,8,8,8,8,8,8,8,8,8,8,8,8,8,8,8,8,8,8,8,8,8,8,8,8,8,8,8,8,8,8,8,8,8,8,8,8,8,8,8,8,8,8,8,8,8,8,8,8,8,8,8,8,8,8,8,8,8,8,8,8,8,8,8,8,8,8,8,8,8,8,8]
def f187(fuel:Nat)(p0:Nat):Option Int:= Option.bind (if(((4294967296):Nat):Int)≤(((p0):Nat):Int) then(some (p0>>>32,32)) else(some (p0,0))) fun K=> Option.bind (if(((65536):Nat):Int)≤(((K.1):Nat):Int) then((As (K.2+16)).bind fun V=> some (K.1>>>16,V)) else(some K)) fun O=> Option.bind (if(((256):Nat):Int)≤(((O.1):Nat):Int) then((As (O.2+8)).bind fun Y=> some (O.1>>>8,Y)) else(some O)) fun U=> (LP SS (((((U.1) % 256):Nat):Int))).bind fun Z=> (As (((Z):Nat):Int)).bind fun ag=> (As (U.2+ag)).bind fun al=> some al
theorem ZA{p0:Nat}{fuel:Nat}{r:Int}(V:f187 fuel p0=some r):AN J 187 [.int .u64 ((p0:Nat):Int)] E [] (fun w E' B'=>w=iV r∧B'= []):=by
 refine A3 func187 fun Q b9 cs H Y av=>?_;unfold f187 at V;obtain⟨K,a0,a1⟩:=bs V;refine zg 10 rfl (CK [] [(0,.int .u64 ((K.1:Nat):Int)),(2,iV K.2)] (fun ca a2 Z=>?_) (fun ag=>?_))
 ·obtain⟨O,a3,a4⟩:=bs a1;refine zg 6 rfl (CK [] [(0,.int .u64 ((O.1:Nat):Int)),(2,iV O.2)] (fun cb a5 al=>?_) (fun am=>?_))
  ·obtain⟨U,a6,a7⟩:=bs a4;refine zg 6 rfl (CK [] [(0,.int .u64 ((U.1:Nat):Int)),(2,iV U.2)] (fun cc a8 a9=>?_) (fun ap=>?_))
   ·refine zg 4 rfl (AF (v:= .int .u8 (((U.1) % 256:Nat):Int)) rfl (fun ρ h=>Xg underlying90 underlying5 (h _ _ rfl)) ?_);obtain⟨bb,bd,be⟩:=bs a7;refine AF (v:= .int .u8 ((bb:Nat):Int)) rfl (fun ρ h=>OV (l:=SS) (by decide+kernel) underlying9 (h _ _ rfl) (h _ _ rfl) bd) ?_;obtain⟨bi,bo,bv⟩:=bs be;refine AF (v:=iV bi) rfl (fun ρ h=>SH underlying5 underlying3 (h _ _ rfl) bo) ?_;obtain⟨cd,bw,bU⟩:=bs bv;refine Ba bw rfl rfl rfl (zg 2 rfl ?_);obtain rfl:=oi bU;exact AB func187 rfl rfl (av ((a2.Ac a5).Ac a8) rfl ⟨rfl,rfl⟩ a9)
   ·refine AM a6 (fun bV bW=>?_) (fun bV bY=>?_)
    ·refine zg 3 rfl (AF (v:= .int .u64 ((O.1>>>8:Nat):Int)) rfl (fun ρ h=>J2 8 (h _ _ rfl) (h _ _ rfl) (by decide)) ?_);obtain⟨ce,bZ,b0⟩:=bs bW;refine zg 4 rfl (Ba bZ rfl rfl rfl ?_);refine zg 2 rfl ?_;obtain rfl:=oi b0;exact ap Ar al rfl
    ·refine JL.skip ?_;obtain rfl:=oi bY;exact ap Ar al rfl
  ·refine AM a3 (fun b1 b2=>?_) (fun b1 b3=>?_)
   ·refine zg 3 rfl (AF (v:= .int .u64 ((K.1>>>16:Nat):Int)) rfl (fun ρ h=>J2 16 (h _ _ rfl) (h _ _ rfl) (by decide)) ?_);obtain⟨cf,b4,b5⟩:=bs b2;refine zg 4 rfl (Ba b4 rfl rfl rfl ?_);refine zg 2 rfl ?_;obtain rfl:=oi b5;exact am Ar Z rfl
   ·refine JL.skip ?_;obtain rfl:=oi b3;exact am Ar Z rfl
 ·refine AM a0 (fun b6 b7=>?_) (fun b6 b8=>?_)
  ·refine zg 3 rfl (AF (v:= .int .u64 ((p0>>>32:Nat):Int)) rfl (fun ρ h=>J2 32 (h _ _ rfl) (h _ _ rfl) (by decide)) ?_);refine zg 5 rfl ?_;obtain rfl:=oi b7;exact ag Ar Y rfl
  ·refine JL.skip ?_;obtain rfl:=oi b8;exact ag Ar Y rfl
def f163(fuel:Nat)(p0:Nat):Option Int:= (f187 fuel p0).bind fun K=> some K
theorem S3{p0:Nat}{fuel:Nat}{r:Int}(K:f163 fuel p0=some r):AN J 163 [.int .u64 ((p0:Nat):Int)] E [] (fun w E' B'=>w=iV r∧B'= []):=by
 refine A3 func163 fun Q al cs H O U=>?_;unfold f163 at K;obtain⟨am,V,Y⟩:=bs K;refine zg 10 rfl (BH (ZA V) rfl rfl (AV func187 rfl) O fun ap Z ag=>?_);refine zg 2 rfl ?_;obtain rfl:=oi Y;exact AB func163 rfl rfl (U Z rfl ⟨rfl,rfl⟩ ag)
def f134(fuel:Nat)(p0:Bw)(p1:Bw):Option Int:= (As (p0.1 - p1.1)).bind fun K=> some K
theorem G7{K:Ap}{c2:Nat}{O:Ap}{U:Nat}{p0:Bw}{p1:Bw}(a3:Al Dx E K c2 p0.2.2)(a4:Al Dx E O U p1.2.2){fuel:Nat}{r:Int}(V:f134 fuel p0 p1=some r):AN J 134 [.agg #[iV p0.1,iV p0.2.1,sV K p0.2.2 c2],.agg #[iV p1.1,iV p1.2.1,sV O p1.2.2 U]] E [] (fun w E' B'=>w=iV r∧B'= []):=by
 refine A3 func134 fun Q a5 cs H Z ag=>?_;unfold f134 at V;refine zg 2 rfl (Ca Z fun a6 a7 al am ap=>?_);refine Ca ap fun a8 a9 Y av a0=>?_;refine zg 4 rfl (JL.fl 0 (am.Ai Y) underlying133 AX By ?_);refine JL.fl 0 av underlying133 AX By ?_;obtain⟨bb,a1,a2⟩:=bs V;refine Cl a1 rfl rfl rfl (zg 2 rfl ?_);obtain rfl:=oi a2;exact AB func134 rfl rfl (ag (al.Ac Y) rfl ⟨rfl,rfl⟩ a0)
def J3(fuel:Nat)(p1:Int)(K:Int×(List Bw)):Option (Bd (Int×(List Bw)) ((List Bw))):= Option.bind (if p1<K.1 then((ix K.2 K.1).bind fun V=> (As (K.1 - 1)).bind fun Y=> (ix K.2 Y).bind fun Z=> (f134 fuel V Z).bind fun ag=> some (decide (ag<0))) else(some false)) fun al=> if al=true then((As (K.1 - 1)).bind fun O=> (As (K.1 - 1)).bind fun am=> (ix K.2 am).bind fun U=> (ix K.2 K.1).bind fun ap=> (ix (K.2.set (Int.toNat K.1) U) O).bind fun a0=> (As (K.1 - 1)).bind fun av=> some (.more (av,((K.2.set (Int.toNat K.1) U).set (Int.toNat O) ap)))) else(some (.done K.2))
def Jb(fuel:Nat)(p1:Int)(p2:Int)(K:Int×(List Bw)):Option (Bd (Int×(List Bw)) ((List Bw))):= if K.1<p2 then(Option.bind (iter (J3 fuel p1) fuel K) fun O=> (As (K.1+1)).bind fun U=> some (.more (U,O))) else(some (.done K.2))
def f178(fuel:Nat)(p0:List Bw)(p1:Int)(p2:Int):Option ((List Bw)):= (As (p1+1)).bind fun K=> Option.bind (iter (Jb fuel p1 p2) fuel (K,p0)) fun O=> some O
theorem Tu{K:Nat}{U:Nat}{V:Nat}{a8:AD}{p0:List (Bw)}{p1:Int}{p2:Int}(hW:WL 133 CB E K U V a8 p0){fuel:Nat}{r:(List Bw)}(bV:f178 fuel p0 p1 p2=some r):AN J 178 [.slice (A0 K) V U,iV p1,iV p2,(fV 134)] E [(K,.cells a8 133 (0,0))] (fun w E' B'=>∃(bW:AD),w= .tuple #[]∧B'= [(K,.cells bW 133 (0,0))]∧WL 133 CB E' K U V bW r):=by
 refine A3 func178 fun Q dq cs H cg ci=>?_;unfold f178 at bV;obtain⟨dr,ck,cm⟩:=bs bV;refine zg 3 rfl (Ba ck rfl rfl rfl ?_);obtain⟨cn,co,cp⟩:=bs cm;refine zg 2 rfl (Bt (fun L s=>∃(a9:LH) (f17:AD),Jn E H a9 [bX K f17 133] [] L s (WL 133 CB a9 K U V f17 cn)) ?_ ?_)
 ·rintro _ _ ⟨a9,f17,rfl,rfl,cq,cr,ct⟩;obtain rfl:=oi cp;exact JL.fin (v:= .tuple #[]) rfl rfl (Cm.list func178 rfl (vs:= []) trivial) (ci cq rfl ⟨f17,rfl,(by first | rfl | simp | (simp [Value.cells])),ct⟩ cr)
 ·intro cu;refine JL.block (CV co (fun L s am=>∃(al:LH) (f25:AD),Jn E H al [bX K f25 133] [(0,.slice (A0 K) V U),(1,iV p1),(2,iV p2),(3,(fV 134)),(8,iV am.1)] L s (WL 133 CB al K U V f25 am.2)) ⟨E,a8,rfl,rfl,Ar,cg,hW⟩ ?_);rintro _ _ am ⟨al,f25,rfl,rfl,bY,bZ,b0⟩ cv ⟨dt,bb⟩ cw;have b1:=bb;unfold Jb at b1;refine zg 7 rfl (AM b1 (fun cy cz=>?_) (fun cy cA=>?_))
  ·obtain⟨b2,cB,cC⟩:=bs cz;refine zg 8 rfl (Bt (fun L s=>∃(a4:LH) (f48:AD),Jn al H a4 [bX K f48 133] [(0,.slice (A0 K) V U),(1,iV p1),(2,iV p2),(3,(fV 134)),(8,iV am.1)] L s (WL 133 CB a4 K U V f48 b2)) ?_ ?_)
   ·rintro _ _ ⟨a4,f48,rfl,rfl,cD,cE,cF⟩;obtain⟨cG,cH,cI⟩:=bs cC;refine zg 3 rfl (Ba cH rfl rfl rfl ?_);refine zg 2 rfl ?_;obtain rfl:=oi cI;exact Ay (cw _ _ (cG,b2) ⟨a4,f48,rfl,rfl,(bY.Ac cD),cE,cF⟩ bb) rfl
   ·intro cJ;refine JL.block (CV cB (fun L s ag=>∃(a1:LH) (f58:AD),Jn al H a1 [bX K f58 133] [(0,.slice (A0 K) V U),(1,iV p1),(2,iV p2),(3,(fV 134)),(8,iV am.1),(9,iV ag.1)] L s (WL 133 CB a1 K U V f58 ag.2)) ⟨al,f25,rfl,rfl,Ar,bZ,b0⟩ ?_);rintro _ _ ag ⟨a1,f58,rfl,rfl,b3,a2,O⟩ cK ⟨du,bd⟩ cM;have b4:=bd;unfold J3 at b4;refine zg 2 rfl (Dq 17 [K] ⟨⟨0,_,rfl⟩,trivial⟩ a2 fun ht=>?_);refine AZ ht rfl [0,1,2,3] rfl ?_;obtain⟨cN,b5,cO⟩:=bs b4;refine Eg 0 #[true,true,true,true,true,true,true,true,true,true,true,true,true,true,true,true,true] (fun L s=>∃(a5:LH),Jm a1 H a5 [bX K f58 133] [(0,.slice (A0 K) V U),(1,iV p1),(2,iV p2),(3,(fV 134)),(8,iV am.1),(9,iV ag.1),(34,.bool cN)] L s) ?_ ?_
    ·rintro _ _ ⟨a5,rfl,rfl,ap,a6⟩;refine AY.fin (by decide+kernel) (BI cO (fun cP cQ=>?_) (fun cP cR=>?_))
     ·refine zg 3 rfl (G4 [15,17] [K] mixed rfl ?_);refine Bu 0 rfl rfl (Bu 1 rfl rfl ?_);refine Bu 2 rfl rfl (Bu 3 rfl rfl ?_);obtain⟨b6,cT,cV⟩:=bs cQ;refine GM 4 true rfl rfl (fun ρ h s' hs=>Da (h _ _ rfl) (h _ _ rfl) cT) (Bu 5 rfl rfl ?_);refine Bu 6 rfl rfl ?_;obtain⟨dv,cW,cX⟩:=bs cV;refine GM 7 true rfl rfl (fun ρ h s' hs=>Da (h _ _ rfl) (h _ _ rfl) cW) ?_;obtain⟨Y,b7,cY⟩:=bs cX;obtain⟨_,⟨_,_,rfl,rfl,⟨_,_,rfl,rfl,⟨be,bi,rfl,cZ⟩⟩⟩,c0⟩:=WL.at (O.Ai ap) b7;refine CC 8 O.2 b7 underlying130 AS ?_;refine Ei 9 [iV Y.1,iV Y.2.1,sV be Y.2.2 bi] 0 a6 c0 Cu AS ?_;refine Bu 10 rfl rfl (Bu 11 rfl rfl ?_);obtain⟨Z,a7,c1⟩:=bs cY;obtain⟨_,⟨_,_,rfl,rfl,⟨_,_,rfl,rfl,⟨bo,bv,rfl,c2⟩⟩⟩,c3⟩:=WL.at (O.Ai ap) a7;refine CC 12 O.2 a7 underlying130 AS ?_;refine Ei 13 [iV Z.1,iV Z.2.1,sV bo Z.2.2 bv] 0 a6 c3 Cu AS ?_;refine CC 14 O.2 a7 underlying130 AS ?_;have a3:=WL.put (x':=Y) (ws':= [iV Y.1,iV Y.2.1,sV be Y.2.2 bi]) (O.Ai ap) O.2 a7 ⟨_,_,rfl,rfl,⟨_,_,rfl,rfl,⟨_,_,rfl,cZ⟩⟩⟩;refine Ej 15 0 a6 AS a3.2 fun c4=>?_;obtain⟨dw,bw,c5⟩:=bs c1;obtain⟨_,⟨_,_,rfl,rfl,⟨_,_,rfl,rfl,⟨dx,dy,rfl,dz⟩⟩⟩,dA⟩:=WL.at a3.1 bw;refine CC 16 (a3.1).2 bw underlying130 AS ?_;have b8:=WL.put (x':=Z) (ws':= [iV Z.1,iV Z.2.1,sV bo Z.2.2 bv]) a3.1 (a3.1).2 bw ⟨_,_,rfl,rfl,⟨_,_,rfl,rfl,⟨_,_,rfl,c2⟩⟩⟩;refine Ej 17 0 c4 AS b8.2 fun c6=>?_;refine JB.fin (by decide+kernel) ?_;obtain⟨c7,c8,c9⟩:=bs c5;refine zg 3 rfl (Cl c8 rfl rfl rfl ?_);refine zg 2 rfl ?_;obtain rfl:=oi c9;exact Ay (cM _ _ (c7,((ag.2.set (Int.toNat ag.1) Y).set (Int.toNat b6) Z)) ⟨a5,(A2 (A2 f58 (Int.toNat (ag.1)*3) [iV Y.1,iV Y.2.1,sV be Y.2.2 bi]) (Int.toNat (b6)*3) [iV Z.1,iV Z.2.1,sV bo Z.2.2 bv]),rfl,rfl,(b3.Ac ap),c6,b8.1⟩ bd) rfl
     ·refine JL.exit rfl ?_;obtain rfl:=oi cR;obtain rfl:=cK _ bd;exact Ay (cJ _ _ ⟨a5,f58,rfl,rfl,(b3.Ac ap),a6,(O.Ai ap)⟩) rfl
    ·intro b9;refine EW (q:=p1<ag.1) (i:=21) rfl (fun bU=>?_) (fun bU=>?_)
     ·have da:=ip b5 bU;refine AZ ht rfl [4,5,6] rfl ?_;obtain⟨av,ca,db⟩:=bs da;obtain⟨_,⟨_,_,rfl,rfl,⟨_,_,rfl,rfl,⟨cb,cc,rfl,dc⟩⟩⟩,dd⟩:=WL.at O ca;refine Ga 7 ht (O).2 ca underlying130 AS ?_;refine D6 8 ht [iV av.1,iV av.2.1,sV cb av.2.2 cc] 0 a2 dd Cu AS ?_;refine AZ ht rfl [9,10] rfl ?_;obtain⟨dB,de,df⟩:=bs db;refine BA 11 ht rfl rfl (fun ρ h s' hs=>Da (h _ _ rfl) (h _ _ rfl) de) ?_;obtain⟨a0,cd,dg⟩:=bs df;obtain⟨_,⟨_,_,rfl,rfl,⟨_,_,rfl,rfl,⟨ce,cf,rfl,dh⟩⟩⟩,di⟩:=WL.at O cd;refine Ga 12 ht (O).2 cd underlying130 AS ?_;refine D6 13 ht [iV a0.1,iV a0.2.1,sV ce a0.2.2 cf] 0 a2 di Cu AS ?_;obtain⟨dC,dj,dk⟩:=bs dg;refine HP (i:=14) ⟨⟨0,_,rfl⟩,trivial⟩ (vs:= [.agg #[iV av.1,iV av.2.1,sV cb av.2.2 cc],.agg #[iV a0.1,iV a0.2.1,sV ce a0.2.2 cf]]) (G7 dc dh dj) (by decide+kernel) rfl rfl rfl rfl GX rfl a2 ?_;rintro _ dl _ dm ⟨rfl,rfl⟩ dn;refine AZ ht rfl [15,16] rfl ?_;obtain rfl:=oi dk;refine CH ?_ (b9 _ _ ⟨dl,rfl,rfl,dm,dn⟩);exact⟨rfl,rfl,rfl,rfl,rfl,rfl,rfl,trivial⟩
     ·have dp:=im b5 bU;refine AZ ht rfl [4,5,6,7,8,9,10,11,12,13,14,15,16] rfl ?_;obtain rfl:=oi dp;refine CH ?_ (b9 _ _ ⟨a1,rfl,rfl,Ar,a2⟩);exact⟨rfl,rfl,rfl,rfl,rfl,rfl,rfl,trivial⟩
  ·refine JL.exit rfl ?_;obtain rfl:=oi cA;obtain rfl:=cv _ bb;exact Ay (cu _ _ ⟨al,f25,rfl,rfl,bY,bZ,b0⟩) rfl
def f200(fuel:Nat)(p0:List Bw)(p1:Int)(p2:Int)(p3:Int):Option (Int×Int×Int):= (ix p0 p2).bind fun K=> (ix p0 p1).bind fun O=> (f134 fuel K O).bind fun U=> if U<0 then((As (p3+1)).bind fun V=> some (p2,p1,V)) else(some (p1,p2,p3))
theorem Pz{K:Nat}{ag:Nat}{al:Nat}{Y:AD}{bk:Nat}{p0:List (Bw)}{p1:Int}{p2:Int}{p3:Int}(hW:WL 133 CB E K ag al Y p0){fuel:Nat}{r:Int×Int×Int}(am:f200 fuel p0 p1 p2 p3=some r):AN J 200 [.slice (A0 K) al ag,iV p1,iV p2,pV bk 0,(fV 134)] E ([(bk,.cells #[iV p3] 3 (0,0))]++ [(K,.cells Y 133 (0,0))]) (fun w E' B'=>w= .tuple #[iV r.1,iV r.2.1]∧B'= [(bk,.cells #[iV r.2.2] 3 (0,0))]++ [(K,.cells Y 133 (0,0))]):=by
 refine A3 func200 fun Q bW cs H O ap=>?_;unfold f200 at am;refine DN (S':= [[(bk,.cells #[iV p3] 3 (0,0))],[(K,.cells Y 133 (0,0))]]) (by simp) O fun O=>zg 7 rfl (Dq 9 [K] ⟨⟨1,_,rfl⟩,trivial⟩ O fun ht=>?_);refine AZ ht rfl [0,1,2] rfl ?_;obtain⟨U,av,a5⟩:=bs am;obtain⟨_,⟨_,_,rfl,rfl,⟨_,_,rfl,rfl,⟨a0,c4,rfl,a6⟩⟩⟩,a7⟩:=WL.at hW av;refine Ga 3 ht (hW).2 av underlying130 AS ?_;refine D6 4 ht [iV U.1,iV U.2.1,sV a0 U.2.2 c4] 1 O a7 Cu AS ?_;refine AZ ht rfl [5,6] rfl ?_;obtain⟨V,a1,a8⟩:=bs a5;obtain⟨_,⟨_,_,rfl,rfl,⟨_,_,rfl,rfl,⟨a2,a3,rfl,a9⟩⟩⟩,bb⟩:=WL.at hW a1;refine Ga 7 ht (hW).2 a1 underlying130 AS ?_;refine D6 8 ht [iV V.1,iV V.2.1,sV a2 V.2.2 a3] 1 O bb Cu AS ?_;refine Cj [9,10] ?_;obtain⟨bY,bd,be⟩:=bs a8;refine K8 (vs:= [.agg #[iV U.1,iV U.2.1,sV a0 U.2.2 c4],.agg #[iV V.1,iV V.2.1,sV a2 V.2.2 a3]]) (G7 a6 a9 bd) rfl rfl rfl rfl GX rfl O ?_;rintro _ bZ _ a4 ⟨rfl,rfl⟩ Z;refine zg 2 rfl (AM be (fun bi bo=>?_) (fun bi bv=>?_))
 ·refine zg 4 rfl (AF (v:=iV p3) rfl (fun ρ h=>Yl.load By (h _ _ rfl) (D1 (j:=0) (off:=0) Z rfl rfl)) ?_);obtain⟨b0,bw,bU⟩:=bs bo;refine Ba bw rfl rfl rfl (zg 1 rfl ?_);refine BW 0 Z AX fun bV=>?_;refine zg 8 rfl ?_;obtain rfl:=oi bU;exact AB func200 rfl rfl (ap a4 rfl ⟨rfl,(by first | rfl | simp | (simp [Value.cells]))⟩ bV)
 ·refine zg 8 rfl ?_;obtain rfl:=oi bv;exact AB func200 rfl rfl (ap a4 rfl ⟨rfl,(by first | rfl | simp | (simp [Value.cells]))⟩ Z)
def f197(fuel:Nat)(p0:List Bw)(p1:Int)(p2:Int)(p3:Int)(p4:Int):Option (Int×Int):= (f200 fuel p0 p1 p2 p4).bind fun K=> (f200 fuel p0 K.2.1 p3 K.2.2).bind fun O=> (f200 fuel p0 K.1 O.1 O.2.2).bind fun U=> some U.2
theorem Zt{K:Nat}{Y:Nat}{Z:Nat}{O:AD}{bk:Nat}{p0:List (Bw)}{p1:Int}{p2:Int}{p3:Int}{p4:Int}(hW:WL 133 CB E K Y Z O p0){fuel:Nat}{r:Int×Int}(ag:f197 fuel p0 p1 p2 p3 p4=some r):AN J 197 [.slice (A0 K) Z Y,iV p1,iV p2,iV p3,pV bk 0,(fV 134)] E ([(bk,.cells #[iV p4] 3 (0,0))]++ [(K,.cells O 133 (0,0))]) (fun w E' B'=>w=iV r.1∧B'= [(bk,.cells #[iV r.2] 3 (0,0))]++ [(K,.cells O 133 (0,0))]):=by
 refine A3 func197 fun Q bZ cs H U ap=>?_;unfold f197 at ag;refine DN (S':= [[(bk,.cells #[iV p4] 3 (0,0))],[(K,.cells O 133 (0,0))]]) (by simp) U fun U=>?_;obtain⟨av,a0,a1⟩:=bs ag;refine zg 11 rfl (K1 0 1 rfl rfl U fun a2=>?_);refine B8 0 (Pz hW a0) rfl rfl Ov a2 rfl ?_;rintro _ b0 _ V ⟨rfl,rfl⟩ a3;refine Ep 0 rfl a3 fun a4=>Cw (S':= [[(bk,.cells #[iV av.2.2] 3 (0,0))],[],[(K,.cells O 133 (0,0))]]) rfl a4 fun a5=>?_;obtain⟨a6,a7,a8⟩:=bs a1;refine zg 13 rfl (K1 0 2 rfl rfl a5 fun a9=>?_);refine B8 0 (Pz (hW.Ai V) a7) rfl rfl Ov a9 rfl ?_;rintro _ b1 _ al ⟨rfl,rfl⟩ bb;refine Ep 0 rfl bb fun bd=>Cw (S':= [[(bk,.cells #[iV a6.2.2] 3 (0,0))],[],[],[(K,.cells O 133 (0,0))]]) rfl bd fun be=>?_;obtain⟨am,bi,bo⟩:=bs a8;refine zg 13 rfl (K1 0 3 rfl rfl be fun bv=>?_);refine B8 0 (Pz (hW.Ai (V.Ac al)) bi) rfl rfl Ov bv rfl ?_;rintro _ b2 _ bw ⟨rfl,rfl⟩ bU;refine Ep 0 rfl bU fun bV=>Cw (S':= [[(bk,.cells #[iV am.2.2] 3 (0,0))],[],[],[],[(K,.cells O 133 (0,0))]]) rfl bV fun bW=>zg 11 rfl (Cw (S':= [[(bk,.cells #[iV am.2.2] 3 (0,0))],[],[],[],[(K,.cells O 133 (0,0))]]) rfl bW fun bY=>?_);obtain rfl:=oi bo;exact AB func197 rfl rfl (ap ((V.Ac al).Ac bw) rfl ⟨rfl,(by first | rfl | simp | (simp [Value.cells]))⟩ bY)
def f181(fuel:Nat)(p0:List Bw)(p1:Int)(p2:Int):Option (Int×Int):= (As (p2 - p1)).bind fun K=> (Hz K (4)).bind fun V=> (As (V*1)).bind fun Y=> (As (p1+Y)).bind fun Z=> (Hz K (4)).bind fun ag=> (As (ag*2)).bind fun al=> (As (p1+al)).bind fun U=> (Hz K (4)).bind fun am=> (As (am*3)).bind fun ap=> (As (p1+ap)).bind fun av=> Option.bind (if 8≤K then(Option.bind (if 50≤K then(none) else(some ())) fun a1=> (f197 fuel p0 Z U av 0).bind fun a0=> some a0) else(some (U,0))) fun O=> if O.2=0 then(some (O.1,1)) else(if O.2=12 then(some (O.1,2)) else(some (O.1,0)))
theorem S5{K:Nat}{Y:Nat}{Z:Nat}{O:AD}{p0:List (Bw)}{p1:Int}{p2:Int}(hW:WL 133 CB E K Y Z O p0){fuel:Nat}{r:Int×Int}(ap:f181 fuel p0 p1 p2=some r):AN J 181 [.slice (A0 K) Z Y,iV p1,iV p2,(fV 134)] E [(K,.cells O 133 (0,0))] (fun w E' B'=>w= .tuple #[iV r.1,iV r.2]∧B'= [(K,.cells O 133 (0,0))]):=by
 refine A3 func181 fun Q cG cs H a2 ag=>?_;unfold f181 at ap;obtain⟨cH,a3,a4⟩:=bs ap;refine zg 9 rfl (Cl a3 rfl rfl rfl ?_);refine zg 4 rfl (CW a2 CU fun U av=>?_);obtain⟨a5,a6,a7⟩:=bs a4;refine zg 5 rfl (AF (v:=iV a5) rfl (fun ρ h=>K9 (h _ _ rfl) (h _ _ rfl) a6) ?_);obtain⟨cI,a8,a9⟩:=bs a7;refine AF rfl (fun ρ h=>I6 (h _ _ rfl) (h _ _ rfl) a8) ?_;obtain⟨bb,bd,be⟩:=bs a9;refine Ba bd rfl rfl rfl ?_;obtain⟨bi,bo,bv⟩:=bs be;refine zg 6 rfl (AF (v:=iV bi) rfl (fun ρ h=>K9 (h _ _ rfl) (h _ _ rfl) bo) ?_);obtain⟨cJ,bw,bU⟩:=bs bv;refine AF rfl (fun ρ h=>I6 (h _ _ rfl) (h _ _ rfl) bw) ?_;obtain⟨bV,bW,bY⟩:=bs bU;refine Ba bW rfl rfl rfl ?_;obtain⟨bZ,b0,b1⟩:=bs bY;refine zg 6 rfl (AF (v:=iV bZ) rfl (fun ρ h=>K9 (h _ _ rfl) (h _ _ rfl) b0) ?_);obtain⟨cK,b2,b3⟩:=bs b1;refine AF rfl (fun ρ h=>I6 (h _ _ rfl) (h _ _ rfl) b2) ?_;obtain⟨b4,b5,b6⟩:=bs b3;refine Ba b5 rfl rfl rfl ?_;obtain⟨al,b7,b8⟩:=bs b6;refine zg 8 rfl (CK [bX K O 133,bX U #[iV al.2] 3] [(11,pV U 0),(13,iV al.1)] (fun cM am V=>?_) (fun a0=>?_))
 ·refine zg 2 rfl (AF (v:=iV al.2) rfl (fun ρ h=>Yl.load By (h _ _ rfl) (D1 (j:=1) (off:=0) V rfl rfl)) ?_);refine zg 7 rfl (AM b8 (fun b9 ca=>?_) (fun b9 cb=>?_))
  ·refine zg 6 rfl (JS.drop 1 V rfl fun cc=>?_);obtain rfl:=oi ca;exact AB func181 rfl rfl (ag am rfl ⟨rfl,(by first | rfl | simp | (simp [Value.cells]))⟩ cc)
  ·refine zg 5 rfl (AM cb (fun cd ce=>?_) (fun cd cf=>?_))
   ·refine zg 6 rfl (JS.drop 1 V rfl fun cg=>?_);obtain rfl:=oi ce;exact AB func181 rfl rfl (ag am rfl ⟨rfl,(by first | rfl | simp | (simp [Value.cells]))⟩ cg)
   ·refine zg 6 rfl (JS.drop 1 V rfl fun ci=>?_);obtain rfl:=oi cf;exact AB func181 rfl rfl (ag am rfl ⟨rfl,(by first | rfl | simp | (simp [Value.cells]))⟩ ci)
 ·refine AM b7 (fun ck cm=>?_) (fun ck cn=>?_)
  ·obtain⟨cN,co,cp⟩:=bs cm;refine zg 6 rfl (CK [bX K O 133,bX U #[iV 0] 3] [(0,.slice (A0 K) Z Y),(3,(fV 134)),(8,iV 0),(9,iV 0),(11,pV U 0),(12,iV bb),(13,iV bV),(14,iV b4)] (fun cO a1 cq=>?_) (fun cr=>?_))
   ·obtain⟨ct,cu,cv⟩:=bs cp;refine zg 6 rfl (K1 1 0 rfl rfl cq fun cw=>?_);refine B8 1 (Zt (hW.Ai a1) cu) rfl rfl (AV func197 rfl) cw rfl ?_;rintro _ cP _ cy ⟨rfl,rfl⟩ cz;refine Ep 1 rfl cz fun cA=>Cw (S':= [[],[(U,.cells #[iV ct.2] 3 (0,0))],[(K,.cells O 133 (0,0))]]) rfl cA fun cB=>zg 2 rfl (JS.swap 1 2 rfl rfl rfl cB fun cC=>?_);obtain rfl:=oi cv;exact a0 (a1.Ac cy) cC rfl
   ·refine AM co (fun cD cE=>?_) (fun cD cF=>?_)
    ·refine zg 5 rfl ?_;cases cE
    ·refine JL.skip ?_;obtain rfl:=oi cF;exact cr Ar av rfl
  ·refine JL.skip ?_;obtain rfl:=oi cn;exact a0 Ar av rfl
end Pal
namespace Pal
open Go Go.Conc Go.Proofs
open Go.Proofs.Tryz
variable {J:Judge Tryz.prog}{E:LH}
def HT(fuel:Nat)(K:Int×Int×(List Bw)):Option (Bd (Int×Int×(List Bw)) ((List Bw))):= if K.1<K.2.1 then((ix K.2.2 K.2.1).bind fun O=> (ix K.2.2 K.1).bind fun U=> (As (K.1+1)).bind fun V=> (As (K.2.1 - 1)).bind fun Y=> some (.more (V,Y,((K.2.2.set (Int.toNat K.1) O).set (Int.toNat K.2.1) U)))) else(some (.done K.2.2))
def f182(fuel:Nat)(p0:List Bw)(p1:Int)(p2:Int):Option ((List Bw)):= (As (p2 - 1)).bind fun K=> Option.bind (iter (HT fuel) fuel (p1,K,p0)) fun O=> some O
theorem Tp{K:Nat}{Z:Nat}{ag:Nat}{a0:AD}{p0:List (Bw)}{p1:Int}{p2:Int}(hW:WL 133 CB E K Z ag a0 p0){fuel:Nat}{r:(List Bw)}(a7:f182 fuel p0 p1 p2=some r):AN J 182 [.slice (A0 K) ag Z,iV p1,iV p2,(fV 134)] E [(K,.cells a0 133 (0,0))] (fun w E' B'=>∃(a8:AD),w= .tuple #[]∧B'= [(K,.cells a8 133 (0,0))]∧WL 133 CB E' K Z ag a8 r):=by
 refine A3 func182 fun Q co cs H bi bo=>?_;unfold f182 at a7;obtain⟨cp,bv,bw⟩:=bs a7;refine zg 8 rfl (Cl bv rfl rfl rfl ?_);obtain⟨bU,bV,bW⟩:=bs bw;refine zg 2 rfl (Bt (fun L s=>∃(a1:LH) (f17:AD),Jn E H a1 [bX K f17 133] [] L s (WL 133 CB a1 K Z ag f17 bU)) ?_ ?_)
 ·rintro _ _ ⟨a1,f17,rfl,rfl,bY,bZ,b0⟩;obtain rfl:=oi bW;exact JL.fin (v:= .tuple #[]) rfl rfl (Cm.list func182 rfl (vs:= []) trivial) (bo bY rfl ⟨f17,rfl,(by first | rfl | simp | (simp [Value.cells])),b0⟩ bZ)
 ·intro b1;refine JL.block (CV bV (fun L s Y=>∃(al:LH) (f25:AD),Jn E H al [bX K f25 133] [(0,.slice (A0 K) ag Z),(8,iV Y.1),(9,iV Y.2.1)] L s (WL 133 CB al K Z ag f25 Y.2.2)) ⟨E,a0,rfl,rfl,Ar,bi,hW⟩ ?_);rintro _ _ Y ⟨al,f25,rfl,rfl,a9,am,V⟩ b2 ⟨cq,a2⟩ b3;have bb:=a2;unfold HT at bb;refine zg 7 rfl (AM bb (fun b4 b5=>?_) (fun b4 b6=>?_))
  ·refine zg 3 rfl (G4 [13,15] [K] mixed rfl ?_);refine Bu 0 rfl rfl (Bu 1 rfl rfl ?_);refine Bu 2 rfl rfl (Bu 3 rfl rfl ?_);refine Bu 4 rfl rfl (Bu 5 rfl rfl ?_);obtain⟨O,ap,b7⟩:=bs b5;obtain⟨_,⟨_,_,rfl,rfl,⟨_,_,rfl,rfl,⟨a3,a4,rfl,b8⟩⟩⟩,b9⟩:=WL.at V ap;refine CC 6 V.2 ap underlying130 AS ?_;refine Ei 7 [iV O.1,iV O.2.1,sV a3 O.2.2 a4] 0 am b9 Cu AS ?_;refine Bu 8 rfl rfl (Bu 9 rfl rfl ?_);obtain⟨U,av,ca⟩:=bs b7;obtain⟨_,⟨_,_,rfl,rfl,⟨_,_,rfl,rfl,⟨a5,a6,rfl,cb⟩⟩⟩,cc⟩:=WL.at V av;refine CC 10 V.2 av underlying130 AS ?_;refine Ei 11 [iV U.1,iV U.2.1,sV a5 U.2.2 a6] 0 am cc Cu AS ?_;refine CC 12 V.2 av underlying130 AS ?_;have bd:=WL.put (x':=O) (ws':= [iV O.1,iV O.2.1,sV a3 O.2.2 a4]) V V.2 av ⟨_,_,rfl,rfl,⟨_,_,rfl,rfl,⟨_,_,rfl,b8⟩⟩⟩;refine Ej 13 0 am AS bd.2 fun cd=>?_;refine CC 14 V.2 ap underlying130 AS ?_;have be:=WL.put (x':=U) (ws':= [iV U.1,iV U.2.1,sV a5 U.2.2 a6]) bd.1 V.2 ap ⟨_,_,rfl,rfl,⟨_,_,rfl,rfl,⟨_,_,rfl,cb⟩⟩⟩;refine Ej 15 0 cd AS be.2 fun ce=>?_;refine JB.fin (by decide+kernel) ?_;obtain⟨cf,cg,ci⟩:=bs ca;refine zg 3 rfl (Ba cg rfl rfl rfl ?_);obtain⟨ck,cm,cn⟩:=bs ci;refine zg 4 rfl (Cl cm rfl rfl rfl ?_);refine zg 3 rfl ?_;obtain rfl:=oi cn;exact Ay (b3 _ _ (cf,ck,((Y.2.2.set (Int.toNat Y.1) O).set (Int.toNat Y.2.1) U)) ⟨al,(A2 (A2 f25 (Int.toNat (Y.1)*3) [iV O.1,iV O.2.1,sV a3 O.2.2 a4]) (Int.toNat (Y.2.1)*3) [iV U.1,iV U.2.1,sV a5 U.2.2 a6]),rfl,rfl,a9,ce,be.1⟩ a2) rfl
  ·refine JL.exit rfl ?_;obtain rfl:=oi b6;obtain rfl:=b2 _ a2;exact Ay (b1 _ _ ⟨al,f25,rfl,rfl,a9,am,V⟩) rfl
def I9(fuel:Nat)(p2:Int)(O:Int×Int×(List Bw))(K:Int):Option (Bd Int Int):= Option.bind (if K<p2 then((ix O.2.2 K).bind fun U=> (As (K - 1)).bind fun V=> (ix O.2.2 V).bind fun Y=> (f134 fuel U Y).bind fun Z=> some (decide (¬(Z<0)))) else(some false)) fun ag=> if ag=true then((As (K+1)).bind fun al=> some (.more al)) else(some (.done K))
def SF(fuel:Nat)(K:Int×(List Bw)):Option (Bd (Int×(List Bw)) ((List Bw))):= if 1≤K.1 then((ix K.2 K.1).bind fun O=> (As (K.1 - 1)).bind fun Y=> (ix K.2 Y).bind fun Z=> (f134 fuel O Z).bind fun ag=> if ¬(ag<0) then(some (.done K.2)) else((As (K.1 - 1)).bind fun U=> (As (K.1 - 1)).bind fun al=> (ix K.2 al).bind fun V=> (ix (K.2.set (Int.toNat K.1) V) U).bind fun ap=> (As (K.1 - 1)).bind fun am=> some (.more (am,((K.2.set (Int.toNat K.1) V).set (Int.toNat U) O))))) else(some (.done K.2))
def Sg(fuel:Nat)(p2:Int)(K:Int×(List Bw)):Option (Bd (Int×(List Bw)) ((List Bw))):= if K.1<p2 then((ix K.2 K.1).bind fun O=> (As (K.1 - 1)).bind fun Y=> (ix K.2 Y).bind fun Z=> (f134 fuel O Z).bind fun ag=> if ¬(ag<0) then(some (.done K.2)) else((As (K.1 - 1)).bind fun U=> (As (K.1 - 1)).bind fun al=> (ix K.2 al).bind fun V=> (ix (K.2.set (Int.toNat K.1) V) U).bind fun ap=> (As (K.1+1)).bind fun am=> some (.more (am,((K.2.set (Int.toNat K.1) V).set (Int.toNat U) O))))) else(some (.done K.2))
def M6(fuel:Nat)(p1:Int)(p2:Int)(K:Int×Int×(List Bw)):Option (Bd (Int×Int×(List Bw)) ((Bool×(List Bw))⊕((List Bw)))):= if K.2.1<5 then(Option.bind (iter (I9 fuel p2 K) fuel K.1) fun O=> if O=p2 then(some (.done (Sum.inl (true,K.2.2)))) else((As (p2 - p1)).bind fun ag=> if ag<50 then(some (.done (Sum.inl (false,K.2.2)))) else((As (O - 1)).bind fun U=> (As (O - 1)).bind fun al=> (ix K.2.2 al).bind fun V=> (ix K.2.2 O).bind fun Y=> (ix (K.2.2.set (Int.toNat O) V) U).bind fun a5=> (As (O - p1)).bind fun am=> Option.bind (if 2≤am then((As (O - 1)).bind fun ap=> Option.bind (iter (SF fuel) fuel (ap,((K.2.2.set (Int.toNat O) V).set (Int.toNat U) Y))) fun av=> some av) else(some ((K.2.2.set (Int.toNat O) V).set (Int.toNat U) Y))) fun Z=> (As (p2 - O)).bind fun a0=> Option.bind (if 2≤a0 then((As (O+1)).bind fun a1=> Option.bind (iter (Sg fuel p2) fuel (a1,Z)) fun a2=> some a2) else(some Z)) fun a3=> (As (K.2.1+1)).bind fun a4=> some (.more (O,a4,a3))))) else(some (.done (Sum.inr K.2.2)))
def f183(fuel:Nat)(p0:List Bw)(p1:Int)(p2:Int):Option (Bool×(List Bw)):= (As (p1+1)).bind fun K=> Option.bind (iter (M6 fuel p1 p2) fuel (K,0,p0)) fun O=> Sum.elim (fun r=>some r) (fun U=> some (false,U)) O
theorem Tt{K:Nat}{O:Nat}{U:Nat}{cr:AD}{p0:List (Bw)}{p1:Int}{p2:Int}(hW:WL 133 CB E K O U cr p0){fuel:Nat}{r:Bool×(List Bw)}(cM:f183 fuel p0 p1 p2=some r):AN J 183 [.slice (A0 K) U O,iV p1,iV p2,(fV 134)] E [(K,.cells cr 133 (0,0))] (fun w E' B'=>∃(cN:AD),w= .bool r.1∧B'= [(K,.cells cN 133 (0,0))]∧WL 133 CB E' K O U cN r.2):=by
 refine A3 func183 fun Q gJ cs H dE ct=>?_;unfold f183 at cM;obtain⟨gK,dF,dG⟩:=bs cM;refine zg 7 rfl (Ba dF rfl rfl rfl ?_);obtain⟨cO,dH,cu⟩:=bs dG;refine zg 7 rfl (Bt (fun L s=>∃(cv:(List Bw)) (cw:LH) (f18:AD),cO=Sum.inr cv∧Jn E H cw [bX K f18 133] [] L s (WL 133 CB cw K O U f18 cv)) ?_ ?_)
 ·rintro _ _ ⟨cv,cw,f18,rfl,rfl,rfl,dI,dJ,dK⟩;have dL:=elim_inr cu;refine zg 4 rfl ?_;obtain rfl:=oi dL;exact AB func183 rfl rfl (ct dI rfl ⟨f18,rfl,(by first | rfl | simp | (simp [Value.cells])),dK⟩ dJ)
 ·intro dM;refine JL.block (CV dH (fun L s Z=>∃(b8:LH) (f27:AD),Jn E H b8 [bX K f27 133] [(0,.slice (A0 K) U O),(1,iV p1),(2,iV p2),(3,(fV 134)),(9,iV Z.1),(10,iV Z.2.1)] L s (WL 133 CB b8 K O U f27 Z.2.2)) ⟨E,cr,rfl,rfl,Ar,dE,hW⟩ ?_);rintro _ _ Z ⟨b8,f27,rfl,rfl,b9,cP,ag⟩ cy ⟨gL,bo⟩ dN;have cQ:=bo;unfold M6 at cQ;refine zg 6 rfl (AM cQ (fun dO dP=>?_) (fun dO dQ=>?_))
  ·obtain⟨a2,dR,dS⟩:=bs dP;refine zg 4 rfl (CK [bX K f27 133] [(0,.slice (A0 K) U O),(1,iV p1),(2,iV p2),(3,(fV 134)),(9,iV a2),(10,iV Z.2.1)] (fun bv a3 bw=>?_) (fun dT=>?_))
   ·refine zg 7 rfl (AM dS (fun dU dV=>?_) (fun dU dW=>?_))
    ·refine zg 4 rfl ?_;obtain rfl:=oi dV;obtain rfl:=cy _ bo;have dX:=elim_inl cu;obtain rfl:=oi dX;exact AB func183 rfl rfl (ct (b9.Ac a3) rfl ⟨f27,rfl,(by first | rfl | simp | (simp [Value.cells])),(ag.Ai a3)⟩ bw)
    ·obtain⟨gM,dY,dZ⟩:=bs dW;refine zg 6 rfl (Cl dY rfl rfl rfl ?_);refine zg 2 rfl (AM dZ (fun ea eb=>?_) (fun ea ec=>?_))
     ·refine zg 4 rfl ?_;obtain rfl:=oi eb;obtain rfl:=cy _ bo;have ed:=elim_inl cu;obtain rfl:=oi ed;exact AB func183 rfl rfl (ct (b9.Ac a3) rfl ⟨f27,rfl,(by first | rfl | simp | (simp [Value.cells])),(ag.Ai a3)⟩ bw)
     ·refine zg 2 rfl (G4 [15,17] [K] mixed rfl ?_);refine Bu 0 rfl rfl (Bu 1 rfl rfl ?_);refine Bu 2 rfl rfl (Bu 3 rfl rfl ?_);obtain⟨cR,ee,ef⟩:=bs ec;refine GM 4 true rfl rfl (fun ρ h s' hs=>Da (h _ _ rfl) (h _ _ rfl) ee) (Bu 5 rfl rfl ?_);refine Bu 6 rfl rfl ?_;obtain⟨gN,eg,eh⟩:=bs ef;refine GM 7 true rfl rfl (fun ρ h s' hs=>Da (h _ _ rfl) (h _ _ rfl) eg) ?_;obtain⟨al,cT,ei⟩:=bs eh;obtain⟨_,⟨_,_,rfl,rfl,⟨_,_,rfl,rfl,⟨ca,cb,rfl,ej⟩⟩⟩,ek⟩:=WL.at (ag.Ai a3) cT;refine CC 8 ag.2 cT underlying130 AS ?_;refine Ei 9 [iV al.1,iV al.2.1,sV ca al.2.2 cb] 0 bw ek Cu AS ?_;refine Bu 10 rfl rfl (Bu 11 rfl rfl ?_);obtain⟨am,cc,el⟩:=bs ei;obtain⟨_,⟨_,_,rfl,rfl,⟨_,_,rfl,rfl,⟨cd,ce,rfl,em⟩⟩⟩,en⟩:=WL.at (ag.Ai a3) cc;refine CC 12 ag.2 cc underlying130 AS ?_;refine Ei 13 [iV am.1,iV am.2.1,sV cd am.2.2 ce] 0 bw en Cu AS ?_;refine CC 14 ag.2 cc underlying130 AS ?_;have bU:=WL.put (x':=al) (ws':= [iV al.1,iV al.2.1,sV ca al.2.2 cb]) (ag.Ai a3) ag.2 cc ⟨_,_,rfl,rfl,⟨_,_,rfl,rfl,⟨_,_,rfl,ej⟩⟩⟩;refine Ej 15 0 bw AS bU.2 fun eo=>?_;obtain⟨gO,cz,ep⟩:=bs el;obtain⟨_,⟨_,_,rfl,rfl,⟨_,_,rfl,rfl,⟨gP,gQ,rfl,gR⟩⟩⟩,gS⟩:=WL.at bU.1 cz;refine CC 16 (bU.1).2 cz underlying130 AS ?_;have cA:=WL.put (x':=am) (ws':= [iV am.1,iV am.2.1,sV cd am.2.2 ce]) bU.1 (bU.1).2 cz ⟨_,_,rfl,rfl,⟨_,_,rfl,rfl,⟨_,_,rfl,em⟩⟩⟩;refine Ej 17 0 eo AS cA.2 fun cV=>?_;refine JB.fin (by decide+kernel) ?_;obtain⟨gT,eq,er⟩:=bs ep;refine zg 5 rfl (Cl eq rfl rfl rfl ?_);obtain⟨et,eu,ew⟩:=bs er;refine zg 2 rfl (Bt (fun L s=>∃(a4:LH) (f99:AD),Jn bv H a4 [bX K f99 133] [(0,.slice (A0 K) U O),(1,iV p1),(2,iV p2),(3,(fV 134)),(9,iV a2),(10,iV Z.2.1)] L s (WL 133 CB a4 K O U f99 et)) ?_ ?_)
      ·rintro _ _ ⟨a4,f99,rfl,rfl,ex,cW,cX⟩;obtain⟨gU,ey,ez⟩:=bs ew;refine zg 4 rfl (Cl ey rfl rfl rfl ?_);obtain⟨cY,eA,eB⟩:=bs ez;refine zg 2 rfl (Bt (fun L s=>∃(cf:LH) (f109:AD),Jn a4 H cf [bX K f109 133] [(0,.slice (A0 K) U O),(1,iV p1),(2,iV p2),(3,(fV 134)),(9,iV a2),(10,iV Z.2.1)] L s (WL 133 CB cf K O U f109 cY)) ?_ ?_)
       ·rintro _ _ ⟨cf,f109,rfl,rfl,eC,eD,eE⟩;obtain⟨eF,eG,eH⟩:=bs eB;refine zg 3 rfl (Ba eG rfl rfl rfl ?_);refine zg 2 rfl ?_;obtain rfl:=oi eH;exact Ay (dN _ _ (a2,eF,cY) ⟨cf,f109,rfl,rfl,(((b9.Ac a3).Ac ex).Ac eC),eD,eE⟩ bo) rfl
       ·intro cZ;refine AM eA (fun eI eJ=>?_) (fun eI eK=>?_)
        ·obtain⟨gV,eL,eM⟩:=bs eJ;refine zg 3 rfl (Ba eL rfl rfl rfl ?_);obtain⟨eN,eO,eP⟩:=bs eM;refine zg 2 rfl (Bt (fun L s=>∃(cg:LH) (f134:AD),Jn a4 H cg [bX K f134 133] [(0,.slice (A0 K) U O),(1,iV p1),(2,iV p2),(3,(fV 134)),(9,iV a2),(10,iV Z.2.1)] L s (WL 133 CB cg K O U f134 eN)) ?_ ?_)
         ·rintro _ _ ⟨cg,f134,rfl,rfl,eQ,eR,eS⟩;obtain rfl:=oi eP;exact Ay (cZ _ _ ⟨cg,f134,rfl,rfl,eQ,eR,eS⟩) rfl
         ·intro c0;refine JL.block (CV eO (fun L s a5=>∃(ci:LH) (f142:AD),Jn a4 H ci [bX K f142 133] [(0,.slice (A0 K) U O),(1,iV p1),(2,iV p2),(3,(fV 134)),(9,iV a2),(10,iV Z.2.1),(12,iV a5.1)] L s (WL 133 CB ci K O U f142 a5.2)) ⟨a4,f99,rfl,rfl,Ar,cW,cX⟩ ?_);rintro _ _ a5 ⟨ci,f142,rfl,rfl,cB,bV,ap⟩ c1 ⟨gW,ck⟩ eT;have c2:=ck;unfold Sg at c2;refine zg 7 rfl (AM c2 (fun eU eV=>?_) (fun eU eW=>?_))
          ·refine zg 5 rfl (Dq 10 [K] ⟨⟨0,_,rfl⟩,trivial⟩ bV fun ht=>?_);refine AZ ht rfl [0,1,2] rfl ?_;obtain⟨V,bW,eX⟩:=bs eV;obtain⟨_,⟨_,_,rfl,rfl,⟨_,_,rfl,rfl,⟨bY,bZ,rfl,c3⟩⟩⟩,c4⟩:=WL.at ap bW;refine Ga 3 ht (ap).2 bW underlying130 AS ?_;refine D6 4 ht [iV V.1,iV V.2.1,sV bY V.2.2 bZ] 0 bV c4 Cu AS ?_;refine AZ ht rfl [5,6] rfl ?_;obtain⟨gX,eY,eZ⟩:=bs eX;refine BA 7 ht rfl rfl (fun ρ h s' hs=>Da (h _ _ rfl) (h _ _ rfl) eY) ?_;obtain⟨a6,c5,e0⟩:=bs eZ;obtain⟨_,⟨_,_,rfl,rfl,⟨_,_,rfl,rfl,⟨c6,c7,rfl,e1⟩⟩⟩,e2⟩:=WL.at ap c5;refine Ga 8 ht (ap).2 c5 underlying130 AS ?_;refine D6 9 ht [iV a6.1,iV a6.2.1,sV c6 a6.2.2 c7] 0 bV e2 Cu AS ?_;refine Cj [10,11,12] ?_;obtain⟨e3,e4,e5⟩:=bs e0;refine K8 (vs:= [.agg #[iV V.1,iV V.2.1,sV bY V.2.2 bZ],.agg #[iV a6.1,iV a6.2.1,sV c6 a6.2.2 c7]]) (G7 c3 e1 e4) rfl rfl rfl rfl GX rfl bV ?_;rintro _ c8 _ a7 ⟨rfl,rfl⟩ cm;refine zg 1 rfl (AF (v:= .bool (decide (¬(e3<0)))) rfl (fun ρ h=>I8 (h _ _ rfl)) ?_);refine JL.done (AM e5 (fun e6 e7=>?_) (fun e6 e8=>?_))
           ·refine JL.exit rfl ?_;obtain rfl:=oi e7;obtain rfl:=c1 _ ck;exact Ay (c0 _ _ ⟨c8,f142,rfl,rfl,(cB.Ac a7),cm,(ap.Ai a7)⟩) rfl
           ·refine JL.skip (G4 [15,17] [K] mixed rfl ?_);refine Bu 0 rfl rfl (Bu 1 rfl rfl ?_);refine Bu 2 rfl rfl (Bu 3 rfl rfl ?_);obtain⟨c9,e9,fa⟩:=bs e8;refine GM 4 true rfl rfl (fun ρ h s' hs=>Da (h _ _ rfl) (h _ _ rfl) e9) (Bu 5 rfl rfl ?_);refine Bu 6 rfl rfl ?_;obtain⟨gY,fb,fc⟩:=bs fa;refine GM 7 true rfl rfl (fun ρ h s' hs=>Da (h _ _ rfl) (h _ _ rfl) fb) ?_;obtain⟨a0,da,fd⟩:=bs fc;obtain⟨_,⟨_,_,rfl,rfl,⟨_,_,rfl,rfl,⟨cC,cD,rfl,fe⟩⟩⟩,ff⟩:=WL.at (ap.Ai a7) da;refine CC 8 ap.2 da underlying130 AS ?_;refine Ei 9 [iV a0.1,iV a0.2.1,sV cC a0.2.2 cD] 0 cm ff Cu AS ?_;refine Bu 10 rfl rfl (Bu 11 rfl rfl ?_);refine CC 12 ap.2 bW underlying130 AS ?_;refine Ei 13 [iV V.1,iV V.2.1,sV bY V.2.2 bZ] 0 cm c4 Cu AS ?_;refine CC 14 ap.2 bW underlying130 AS ?_;have b0:=WL.put (x':=a0) (ws':= [iV a0.1,iV a0.2.1,sV cC a0.2.2 cD]) (ap.Ai a7) ap.2 bW ⟨_,_,rfl,rfl,⟨_,_,rfl,rfl,⟨_,_,rfl,fe⟩⟩⟩;refine Ej 15 0 cm AS b0.2 fun fg=>?_;obtain⟨gZ,cE,fh⟩:=bs fd;obtain⟨_,⟨_,_,rfl,rfl,⟨_,_,rfl,rfl,⟨g0,g1,rfl,g3⟩⟩⟩,g4⟩:=WL.at b0.1 cE;refine CC 16 (b0.1).2 cE underlying130 AS ?_;have db:=WL.put (x':=V) (ws':= [iV V.1,iV V.2.1,sV bY V.2.2 bZ]) b0.1 (b0.1).2 cE ⟨_,_,rfl,rfl,⟨_,_,rfl,rfl,⟨_,_,rfl,(c3.Ai a7)⟩⟩⟩;refine Ej 17 0 fg AS db.2 fun fj=>?_;refine JB.fin (by decide+kernel) ?_;obtain⟨fk,fm,fo⟩:=bs fh;refine zg 3 rfl (Ba fm rfl rfl rfl ?_);refine zg 2 rfl ?_;obtain rfl:=oi fo;exact Ay (eT _ _ (fk,((a5.2.set (Int.toNat a5.1) a0).set (Int.toNat c9) V)) ⟨c8,(A2 (A2 f142 (Int.toNat (a5.1)*3) [iV a0.1,iV a0.2.1,sV cC a0.2.2 cD]) (Int.toNat (c9)*3) [iV V.1,iV V.2.1,sV bY V.2.2 bZ]),rfl,rfl,(cB.Ac a7),fj,db.1⟩ ck) rfl
          ·refine JL.exit rfl ?_;obtain rfl:=oi eW;obtain rfl:=c1 _ ck;exact Ay (c0 _ _ ⟨ci,f142,rfl,rfl,cB,bV,ap⟩) rfl
        ·refine JL.skip ?_;obtain rfl:=oi eK;exact Ay (cZ _ _ ⟨a4,f99,rfl,rfl,Ar,cW,cX⟩) rfl
      ·intro dc;refine AM eu (fun fp fq=>?_) (fun fp fs=>?_)
       ·obtain⟨g5,fu,fv⟩:=bs fq;refine zg 3 rfl (Cl fu rfl rfl rfl ?_);obtain⟨fw,fx,fy⟩:=bs fv;refine zg 2 rfl (Bt (fun L s=>∃(cn:LH) (f224:AD),Jn bv H cn [bX K f224 133] [(0,.slice (A0 K) U O),(1,iV p1),(2,iV p2),(3,(fV 134)),(9,iV a2),(10,iV Z.2.1)] L s (WL 133 CB cn K O U f224 fw)) ?_ ?_)
        ·rintro _ _ ⟨cn,f224,rfl,rfl,fz,fA,fB⟩;obtain rfl:=oi fy;exact Ay (dc _ _ ⟨cn,f224,rfl,rfl,fz,fA,fB⟩) rfl
        ·intro dd;refine JL.block (CV fx (fun L s a8=>∃(co:LH) (f232:AD),Jn bv H co [bX K f232 133] [(0,.slice (A0 K) U O),(1,iV p1),(2,iV p2),(3,(fV 134)),(9,iV a2),(10,iV Z.2.1),(11,iV a8.1)] L s (WL 133 CB co K O U f232 a8.2)) ⟨bv,(A2 (A2 f27 (Int.toNat (a2)*3) [iV al.1,iV al.2.1,sV ca al.2.2 cb]) (Int.toNat (cR)*3) [iV am.1,iV am.2.1,sV cd am.2.2 ce]),rfl,rfl,Ar,cV,cA.1⟩ ?_);rintro _ _ a8 ⟨co,f232,rfl,rfl,cF,b1,av⟩ de ⟨g6,cp⟩ fC;have df:=cp;unfold SF at df;refine zg 6 rfl (AM df (fun fD fE=>?_) (fun fD fF=>?_))
         ·refine zg 5 rfl (Dq 10 [K] ⟨⟨0,_,rfl⟩,trivial⟩ b1 fun ht=>?_);refine AZ ht rfl [0,1,2] rfl ?_;obtain⟨Y,b2,fG⟩:=bs fE;obtain⟨_,⟨_,_,rfl,rfl,⟨_,_,rfl,rfl,⟨b3,b4,rfl,dg⟩⟩⟩,dh⟩:=WL.at av b2;refine Ga 3 ht (av).2 b2 underlying130 AS ?_;refine D6 4 ht [iV Y.1,iV Y.2.1,sV b3 Y.2.2 b4] 0 b1 dh Cu AS ?_;refine AZ ht rfl [5,6] rfl ?_;obtain⟨g7,fH,fI⟩:=bs fG;refine BA 7 ht rfl rfl (fun ρ h s' hs=>Da (h _ _ rfl) (h _ _ rfl) fH) ?_;obtain⟨a9,di,fJ⟩:=bs fI;obtain⟨_,⟨_,_,rfl,rfl,⟨_,_,rfl,rfl,⟨dj,dk,rfl,fK⟩⟩⟩,fL⟩:=WL.at av di;refine Ga 8 ht (av).2 di underlying130 AS ?_;refine D6 9 ht [iV a9.1,iV a9.2.1,sV dj a9.2.2 dk] 0 b1 fL Cu AS ?_;refine Cj [10,11,12] ?_;obtain⟨fM,fN,fO⟩:=bs fJ;refine K8 (vs:= [.agg #[iV Y.1,iV Y.2.1,sV b3 Y.2.2 b4],.agg #[iV a9.1,iV a9.2.1,sV dj a9.2.2 dk]]) (G7 dg fK fN) rfl rfl rfl rfl GX rfl b1 ?_;rintro _ dl _ bb ⟨rfl,rfl⟩ cq;refine zg 1 rfl (AF (v:= .bool (decide (¬(fM<0)))) rfl (fun ρ h=>I8 (h _ _ rfl)) ?_);refine JL.done (AM fO (fun fP fQ=>?_) (fun fP fR=>?_))
          ·refine JL.exit rfl ?_;obtain rfl:=oi fQ;obtain rfl:=de _ cp;exact Ay (dd _ _ ⟨dl,f232,rfl,rfl,(cF.Ac bb),cq,(av.Ai bb)⟩) rfl
          ·refine JL.skip (G4 [15,17] [K] mixed rfl ?_);refine Bu 0 rfl rfl (Bu 1 rfl rfl ?_);refine Bu 2 rfl rfl (Bu 3 rfl rfl ?_);obtain⟨dm,fS,fT⟩:=bs fR;refine GM 4 true rfl rfl (fun ρ h s' hs=>Da (h _ _ rfl) (h _ _ rfl) fS) (Bu 5 rfl rfl ?_);refine Bu 6 rfl rfl ?_;obtain⟨g8,fU,fW⟩:=bs fT;refine GM 7 true rfl rfl (fun ρ h s' hs=>Da (h _ _ rfl) (h _ _ rfl) fU) ?_;obtain⟨a1,dn,fX⟩:=bs fW;obtain⟨_,⟨_,_,rfl,rfl,⟨_,_,rfl,rfl,⟨cG,cH,rfl,fY⟩⟩⟩,fZ⟩:=WL.at (av.Ai bb) dn;refine CC 8 av.2 dn underlying130 AS ?_;refine Ei 9 [iV a1.1,iV a1.2.1,sV cG a1.2.2 cH] 0 cq fZ Cu AS ?_;refine Bu 10 rfl rfl (Bu 11 rfl rfl ?_);refine CC 12 av.2 b2 underlying130 AS ?_;refine Ei 13 [iV Y.1,iV Y.2.1,sV b3 Y.2.2 b4] 0 cq dh Cu AS ?_;refine CC 14 av.2 b2 underlying130 AS ?_;have b5:=WL.put (x':=a1) (ws':= [iV a1.1,iV a1.2.1,sV cG a1.2.2 cH]) (av.Ai bb) av.2 b2 ⟨_,_,rfl,rfl,⟨_,_,rfl,rfl,⟨_,_,rfl,fY⟩⟩⟩;refine Ej 15 0 cq AS b5.2 fun ga=>?_;obtain⟨g9,cI,gb⟩:=bs fX;obtain⟨_,⟨_,_,rfl,rfl,⟨_,_,rfl,rfl,⟨ha,hb,rfl,hc⟩⟩⟩,hd⟩:=WL.at b5.1 cI;refine CC 16 (b5.1).2 cI underlying130 AS ?_;have dp:=WL.put (x':=Y) (ws':= [iV Y.1,iV Y.2.1,sV b3 Y.2.2 b4]) b5.1 (b5.1).2 cI ⟨_,_,rfl,rfl,⟨_,_,rfl,rfl,⟨_,_,rfl,(dg.Ai bb)⟩⟩⟩;refine Ej 17 0 ga AS dp.2 fun gc=>?_;refine JB.fin (by decide+kernel) ?_;obtain⟨gd,ge,gf⟩:=bs gb;refine zg 3 rfl (Cl ge rfl rfl rfl ?_);refine zg 2 rfl ?_;obtain rfl:=oi gf;exact Ay (fC _ _ (gd,((a8.2.set (Int.toNat a8.1) a1).set (Int.toNat dm) Y)) ⟨dl,(A2 (A2 f232 (Int.toNat (a8.1)*3) [iV a1.1,iV a1.2.1,sV cG a1.2.2 cH]) (Int.toNat (dm)*3) [iV Y.1,iV Y.2.1,sV b3 Y.2.2 b4]),rfl,rfl,(cF.Ac bb),gc,dp.1⟩ cp) rfl
         ·refine JL.exit rfl ?_;obtain rfl:=oi fF;obtain rfl:=de _ cp;exact Ay (dd _ _ ⟨co,f232,rfl,rfl,cF,b1,av⟩) rfl
       ·refine JL.skip ?_;obtain rfl:=oi fs;exact Ay (dc _ _ ⟨bv,(A2 (A2 f27 (Int.toNat (a2)*3) [iV al.1,iV al.2.1,sV ca al.2.2 cb]) (Int.toNat (cR)*3) [iV am.1,iV am.2.1,sV cd am.2.2 ce]),rfl,rfl,Ar,cV,cA.1⟩) rfl
   ·refine JL.block (Cp dR (fun b6=> [bX K f27 133]) (fun b6=> [(0,.slice (A0 K) U O),(1,iV p1),(2,iV p2),(3,(fV 134)),(9,iV b6),(10,iV Z.2.1)]) Ar cP ?_);rintro b6 dq bd b7 gg ⟨he,cJ⟩ gh;have dr:=cJ;unfold I9 at dr;refine zg 2 rfl (Dq 18 [K] ⟨⟨0,_,rfl⟩,trivial⟩ b7 fun ht=>?_);refine AZ ht rfl [0,1,2,3] rfl ?_;obtain⟨gi,dt,gj⟩:=bs dr;refine Eg 0 #[true,true,true,true,true,true,true,true,true,true,true,true,true,true,true,true,true,true] (fun L s=>∃(du:LH),Jm dq H du [bX K f27 133] [(0,.slice (A0 K) U O),(1,iV p1),(2,iV p2),(3,(fV 134)),(9,iV b6),(10,iV Z.2.1),(36,.bool gi)] L s) ?_ ?_
    ·rintro _ _ ⟨du,rfl,rfl,dv,dw⟩;refine AY.fin (by decide+kernel) (BI gj (fun gk gl=>?_) (fun gk gm=>?_))
     ·obtain⟨gn,gp,gq⟩:=bs gl;refine zg 4 rfl (Ba gp rfl rfl rfl ?_);refine zg 3 rfl ?_;obtain rfl:=oi gq;exact gh gn (bd.Ac dv) dw rfl cJ
     ·refine JL.exit rfl ?_;obtain rfl:=oi gm;obtain rfl:=gg _ cJ;exact dT (bd.Ac dv) dw rfl
    ·intro dx;refine EW (q:=b6<p2) (i:=22) rfl (fun cK=>?_) (fun cK=>?_)
     ·have gr:=ip dt cK;refine AZ ht rfl [4,5,6] rfl ?_;obtain⟨be,dy,gt⟩:=bs gr;obtain⟨_,⟨_,_,rfl,rfl,⟨_,_,rfl,rfl,⟨dz,dA,rfl,gu⟩⟩⟩,gv⟩:=WL.at (ag.Ai bd) dy;refine BA 7 ht rfl rfl (fun ρ h s' hs=>GD ((ag.Ai bd)).2 dy underlying130 AS (h _ _ rfl) (h _ _ rfl)) ?_;refine D6 8 ht [iV be.1,iV be.2.1,sV dz be.2.2 dA] 0 b7 gv Cu AS ?_;refine AZ ht rfl [9,10] rfl ?_;obtain⟨hf,gw,gx⟩:=bs gt;refine BA 11 ht rfl rfl (fun ρ h s' hs=>Da (h _ _ rfl) (h _ _ rfl) gw) ?_;obtain⟨bi,dB,gy⟩:=bs gx;obtain⟨_,⟨_,_,rfl,rfl,⟨_,_,rfl,rfl,⟨dC,dD,rfl,gz⟩⟩⟩,gA⟩:=WL.at (ag.Ai bd) dB;refine BA 12 ht rfl rfl (fun ρ h s' hs=>GD ((ag.Ai bd)).2 dB underlying130 AS (h _ _ rfl) (h _ _ rfl)) ?_;refine D6 13 ht [iV bi.1,iV bi.2.1,sV dC bi.2.2 dD] 0 b7 gA Cu AS ?_;obtain⟨gB,gC,gD⟩:=bs gy;refine HP (i:=14) ⟨⟨0,_,rfl⟩,trivial⟩ (vs:= [.agg #[iV be.1,iV be.2.1,sV dz be.2.2 dA],.agg #[iV bi.1,iV bi.2.1,sV dC bi.2.2 dD]]) (G7 gu gz gC) (by decide+kernel) rfl rfl rfl rfl GX rfl b7 ?_;rintro _ gE _ gF ⟨rfl,rfl⟩ gG;refine Ck 15 ht rfl rfl ?_;refine BA (v:= .bool (decide (¬(gB<0)))) 16 ht rfl rfl (fun ρ h s' hs=>I8 (h _ _ rfl)) ?_;refine Ck 17 ht rfl rfl ?_;obtain rfl:=oi gD;refine CH ?_ (dx _ _ ⟨gE,rfl,rfl,gF,gG⟩);exact⟨rfl,rfl,rfl,rfl,rfl,rfl,rfl,trivial⟩
     ·have gH:=im dt cK;refine AZ ht rfl [4,5,6,7,8,9,10,11,12,13,14,15,16,17] rfl ?_;obtain rfl:=oi gH;refine CH ?_ (dx _ _ ⟨dq,rfl,rfl,Ar,b7⟩);exact⟨rfl,rfl,rfl,rfl,rfl,rfl,rfl,trivial⟩
  ·refine JL.exit rfl ?_;obtain rfl:=oi dQ;have gI:cO=(Sum.inr Z.2.2):=(cy _ bo).symm;exact Ay (dM _ _ ⟨Z.2.2,b8,f27,gI,rfl,rfl,b9,cP,ag⟩) rfl
def Lf(fuel:Nat)(p0:List Bw)(p1:Int)(p3:Int)(O:Bw)(U:Bw)(V:Int)(K:Int):Option (Bd Int Int):= Option.bind (if K≤V then((ix ((p0.set (Int.toNat p1) O).set (Int.toNat p3) U) K).bind fun Y=> (ix ((p0.set (Int.toNat p1) O).set (Int.toNat p3) U) p1).bind fun Z=> (f134 fuel Y Z).bind fun ag=> some (decide (ag<0))) else(some false)) fun al=> if al=true then((As (K+1)).bind fun am=> some (.more am)) else(some (.done K))
def Lh(fuel:Nat)(p0:List Bw)(p1:Int)(p3:Int)(O:Bw)(U:Bw)(V:Int)(K:Int):Option (Bd Int Int):= Option.bind (if V≤K then((ix ((p0.set (Int.toNat p1) O).set (Int.toNat p3) U) K).bind fun Y=> (ix ((p0.set (Int.toNat p1) O).set (Int.toNat p3) U) p1).bind fun Z=> (f134 fuel Y Z).bind fun ag=> some (decide (¬(ag<0)))) else(some false)) fun al=> if al=true then((As (K - 1)).bind fun am=> some (.more am)) else(some (.done K))
def JZ(fuel:Nat)(p1:Int)(O:Int×Int×(List Bw))(K:Int):Option (Bd Int Int):= Option.bind (if K≤O.2.1 then((ix O.2.2 K).bind fun U=> (ix O.2.2 p1).bind fun V=> (f134 fuel U V).bind fun Y=> some (decide (Y<0))) else(some false)) fun Z=> if Z=true then((As (K+1)).bind fun ag=> some (.more ag)) else(some (.done K))
def JP(fuel:Nat)(p1:Int)(O:Int×Int×(List Bw))(U:Int)(K:Int):Option (Bd Int Int):= Option.bind (if U≤K then((ix O.2.2 K).bind fun V=> (ix O.2.2 p1).bind fun Y=> (f134 fuel V Y).bind fun Z=> some (decide (¬(Z<0)))) else(some false)) fun ag=> if ag=true then((As (K - 1)).bind fun al=> some (.more al)) else(some (.done K))
def Ja(fuel:Nat)(p1:Int)(K:Int×Int×(List Bw)):Option (Bd (Int×Int×(List Bw)) (Int×(List Bw))):= Option.bind (iter (JZ fuel p1 K) fuel K.1) fun O=> Option.bind (iter (JP fuel p1 K O) fuel K.2.1) fun U=> if U<O then(some (.done (U,K.2.2))) else((ix K.2.2 U).bind fun V=> (ix K.2.2 O).bind fun Y=> (As (O+1)).bind fun Z=> (As (U - 1)).bind fun ag=> some (.more (Z,ag,((K.2.2.set (Int.toNat O) V).set (Int.toNat U) Y))))
def f185(fuel:Nat)(p0:List Bw)(p1:Int)(p2:Int)(p3:Int):Option (Int×Bool×(List Bw)):= (ix p0 p3).bind fun K=> (ix p0 p1).bind fun O=> (As (p1+1)).bind fun ag=> (As (p2 - 1)).bind fun Z=> Option.bind (iter (Lf fuel p0 p1 p3 K O Z) fuel ag) fun Y=> Option.bind (iter (Lh fuel p0 p1 p3 K O Y) fuel Z) fun U=> if U<Y then((ix ((p0.set (Int.toNat p1) K).set (Int.toNat p3) O) p1).bind fun al=> (ix ((p0.set (Int.toNat p1) K).set (Int.toNat p3) O) U).bind fun am=> some (U,true,((((p0.set (Int.toNat p1) K).set (Int.toNat p3) O).set (Int.toNat U) al).set (Int.toNat p1) am))) else((ix ((p0.set (Int.toNat p1) K).set (Int.toNat p3) O) U).bind fun ap=> (ix ((p0.set (Int.toNat p1) K).set (Int.toNat p3) O) Y).bind fun av=> (As (Y+1)).bind fun a0=> (As (U - 1)).bind fun a1=> Option.bind (iter (Ja fuel p1) fuel (a0,a1,((((p0.set (Int.toNat p1) K).set (Int.toNat p3) O).set (Int.toNat Y) ap).set (Int.toNat U) av))) fun V=> (ix V.2 p1).bind fun a2=> (ix V.2 V.1).bind fun a3=> some (V.1,false,((V.2.set (Int.toNat V.1) a2).set (Int.toNat p1) a3)))
theorem Tk{K:Nat}{Y:Nat}{Z:Nat}{av:AD}{p0:List (Bw)}{p1:Int}{p2:Int}{p3:Int}(hW:WL 133 CB E K Y Z av p0){fuel:Nat}{r:Int×Bool×(List Bw)}(c7:f185 fuel p0 p1 p2 p3=some r):AN J 185 [.slice (A0 K) Z Y,iV p1,iV p2,iV p3,(fV 134)] E [(K,.cells av 133 (0,0))] (fun w E' B'=>∃(c8:AD),w= .tuple #[iV r.1,.bool r.2.1]∧B'= [(K,.cells c8 133 (0,0))]∧WL 133 CB E' K Y Z c8 r.2.2):=by
 refine A3 func185 fun Q hD cs H cu c9=>?_;unfold f185 at c7;refine zg 6 rfl (G4 [13,15] [K] mixed rfl ?_);refine Bu 0 rfl rfl (Bu 1 rfl rfl ?_);refine Bu 2 rfl rfl (Bu 3 rfl rfl ?_);refine Bu 4 rfl rfl (Bu 5 rfl rfl ?_);obtain⟨O,cg,eo⟩:=bs c7;obtain⟨_,⟨_,_,rfl,rfl,⟨_,_,rfl,rfl,⟨a0,c4,rfl,ep⟩⟩⟩,eq⟩:=WL.at hW cg;refine CC 6 hW.2 cg underlying130 AS ?_;refine Ei 7 [iV O.1,iV O.2.1,sV a0 O.2.2 c4] 0 cu eq Cu AS ?_;refine Bu 8 rfl rfl (Bu 9 rfl rfl ?_);obtain⟨U,b7,er⟩:=bs eo;obtain⟨_,⟨_,_,rfl,rfl,⟨_,_,rfl,rfl,⟨a1,a2,rfl,et⟩⟩⟩,eu⟩:=WL.at hW b7;refine CC 10 hW.2 b7 underlying130 AS ?_;refine Ei 11 [iV U.1,iV U.2.1,sV a1 U.2.2 a2] 0 cu eu Cu AS ?_;refine CC 12 hW.2 b7 underlying130 AS ?_;have da:=WL.put (x':=O) (ws':= [iV O.1,iV O.2.1,sV a0 O.2.2 c4]) hW hW.2 b7 ⟨_,_,rfl,rfl,⟨_,_,rfl,rfl,⟨_,_,rfl,ep⟩⟩⟩;refine Ej 13 0 cu AS da.2 fun ew=>?_;refine CC 14 hW.2 cg underlying130 AS ?_;have V:=WL.put (x':=U) (ws':= [iV U.1,iV U.2.1,sV a1 U.2.2 a2]) da.1 hW.2 cg ⟨_,_,rfl,rfl,⟨_,_,rfl,rfl,⟨_,_,rfl,et⟩⟩⟩;refine Ej 15 0 ew AS V.2 fun ex=>?_;refine JB.fin (by decide+kernel) ?_;obtain⟨hE,ey,ez⟩:=bs er;refine zg 3 rfl (Ba ey rfl rfl rfl ?_);obtain⟨ci,eA,eB⟩:=bs ez;refine zg 1 rfl (Cl eA rfl rfl rfl ?_);obtain⟨bo,eC,eD⟩:=bs eB;refine zg 4 rfl (CK [bX K (A2 (A2 av (Int.toNat (p1)*3) [iV O.1,iV O.2.1,sV a0 O.2.2 c4]) (Int.toNat (p3)*3) [iV U.1,iV U.2.1,sV a1 U.2.2 a2]) 133] [(0,.slice (A0 K) Z Y),(1,iV p1),(4,(fV 134)),(12,iV bo),(13,iV ci)] (fun hF al eE=>?_) (fun eF=>?_))
 ·obtain⟨cv,eG,eH⟩:=bs eD;refine JL.seq (CK [bX K (A2 (A2 av (Int.toNat (p1)*3) [iV O.1,iV O.2.1,sV a0 O.2.2 c4]) (Int.toNat (p3)*3) [iV U.1,iV U.2.1,sV a1 U.2.2 a2]) 133] [(0,.slice (A0 K) Z Y),(1,iV p1),(4,(fV 134)),(12,iV bo),(13,iV cv)] (fun cw be bv=>?_) (fun eI=>?_))
  ·refine zg 7 rfl (AM eH (fun eJ eK=>?_) (fun eJ eL=>?_))
   ·refine JL.seq (G4 [13,15] [K] mixed rfl ?_);refine Bu 0 rfl rfl (Bu 1 rfl rfl ?_);refine Bu 2 rfl rfl (Bu 3 rfl rfl ?_);refine Bu 4 rfl rfl (Bu 5 rfl rfl ?_);refine CC 6 hW.2 b7 underlying130 AS ?_;obtain⟨a3,cy,eM⟩:=bs eK;obtain⟨_,⟨_,_,rfl,rfl,⟨_,_,rfl,rfl,⟨cz,cA,rfl,eN⟩⟩⟩,eO⟩:=WL.at (V.1.Ai (al.Ac be)) cy;refine Ei 7 [iV a3.1,iV a3.2.1,sV cz a3.2.2 cA] 0 bv eO Cu AS ?_;refine Bu 8 rfl rfl (Bu 9 rfl rfl ?_);obtain⟨a4,ck,eP⟩:=bs eM;obtain⟨_,⟨_,_,rfl,rfl,⟨_,_,rfl,rfl,⟨cB,cC,rfl,eQ⟩⟩⟩,eR⟩:=WL.at (V.1.Ai (al.Ac be)) ck;refine CC 10 (V.1).2 ck underlying130 AS ?_;refine Ei 11 [iV a4.1,iV a4.2.1,sV cB a4.2.2 cC] 0 bv eR Cu AS ?_;refine CC 12 (V.1).2 ck underlying130 AS ?_;have db:=WL.put (x':=a3) (ws':= [iV a3.1,iV a3.2.1,sV cz a3.2.2 cA]) (V.1.Ai (al.Ac be)) (V.1).2 ck ⟨_,_,rfl,rfl,⟨_,_,rfl,rfl,⟨_,_,rfl,eN⟩⟩⟩;refine Ej 13 0 bv AS db.2 fun eS=>?_;refine CC 14 (V.1).2 cy underlying130 AS ?_;have dc:=WL.put (x':=a4) (ws':= [iV a4.1,iV a4.2.1,sV cB a4.2.2 cC]) db.1 (V.1).2 cy ⟨_,_,rfl,rfl,⟨_,_,rfl,rfl,⟨_,_,rfl,eQ⟩⟩⟩;refine Ej 15 0 eS AS dc.2 fun eT=>?_;refine JB.fin (by decide+kernel) (zg 6 rfl ?_);obtain rfl:=oi eP;exact AB func185 rfl rfl (c9 (al.Ac be) rfl ⟨(A2 (A2 (A2 (A2 av (Int.toNat (p1)*3) [iV O.1,iV O.2.1,sV a0 O.2.2 c4]) (Int.toNat (p3)*3) [iV U.1,iV U.2.1,sV a1 U.2.2 a2]) (Int.toNat (cv)*3) [iV a3.1,iV a3.2.1,sV cz a3.2.2 cA]) (Int.toNat (p1)*3) [iV a4.1,iV a4.2.1,sV cB a4.2.2 cC]),rfl,(by first | rfl | simp | (simp [Value.cells])),dc.1⟩ eT)
   ·refine zg 2 rfl (G4 [13,15] [K] mixed rfl ?_);refine Bu 0 rfl rfl (Bu 1 rfl rfl ?_);refine Bu 2 rfl rfl (Bu 3 rfl rfl ?_);refine Bu 4 rfl rfl (Bu 5 rfl rfl ?_);obtain⟨a5,cm,eU⟩:=bs eL;obtain⟨_,⟨_,_,rfl,rfl,⟨_,_,rfl,rfl,⟨cD,cE,rfl,eV⟩⟩⟩,eW⟩:=WL.at (V.1.Ai (al.Ac be)) cm;refine CC 6 (V.1).2 cm underlying130 AS ?_;refine Ei 7 [iV a5.1,iV a5.2.1,sV cD a5.2.2 cE] 0 bv eW Cu AS ?_;refine Bu 8 rfl rfl (Bu 9 rfl rfl ?_);obtain⟨a6,cn,eX⟩:=bs eU;obtain⟨_,⟨_,_,rfl,rfl,⟨_,_,rfl,rfl,⟨cF,cG,rfl,eY⟩⟩⟩,eZ⟩:=WL.at (V.1.Ai (al.Ac be)) cn;refine CC 10 (V.1).2 cn underlying130 AS ?_;refine Ei 11 [iV a6.1,iV a6.2.1,sV cF a6.2.2 cG] 0 bv eZ Cu AS ?_;refine CC 12 (V.1).2 cn underlying130 AS ?_;have dd:=WL.put (x':=a5) (ws':= [iV a5.1,iV a5.2.1,sV cD a5.2.2 cE]) (V.1.Ai (al.Ac be)) (V.1).2 cn ⟨_,_,rfl,rfl,⟨_,_,rfl,rfl,⟨_,_,rfl,eV⟩⟩⟩;refine Ej 13 0 bv AS dd.2 fun e0=>?_;refine CC 14 (V.1).2 cm underlying130 AS ?_;have de:=WL.put (x':=a6) (ws':= [iV a6.1,iV a6.2.1,sV cF a6.2.2 cG]) dd.1 (V.1).2 cm ⟨_,_,rfl,rfl,⟨_,_,rfl,rfl,⟨_,_,rfl,eY⟩⟩⟩;refine Ej 15 0 e0 AS de.2 fun e1=>?_;refine JB.fin (by decide+kernel) ?_;obtain⟨hG,e2,e3⟩:=bs eX;refine zg 3 rfl (Ba e2 rfl rfl rfl ?_);obtain⟨hH,e4,e5⟩:=bs e3;refine zg 5 rfl (Cl e4 rfl rfl rfl ?_);obtain⟨cH,e6,e7⟩:=bs e5;refine zg 3 rfl (Bt (fun L s=>∃(cI:LH) (f102:AD),Jn cw H cI [bX K f102 133] [(0,.slice (A0 K) Z Y),(1,iV p1),(13,iV cH.1)] L s (WL 133 CB cI K Y Z f102 cH.2)) ?_ ?_)
    ·rintro _ _ ⟨cI,f102,rfl,rfl,e8,cJ,bb⟩;refine JL.seq (G4 [13,15] [K] mixed rfl ?_);refine Bu 0 rfl rfl (Bu 1 rfl rfl ?_);refine Bu 2 rfl rfl (Bu 3 rfl rfl ?_);refine Bu 4 rfl rfl (Bu 5 rfl rfl ?_);obtain⟨a7,co,e9⟩:=bs e7;obtain⟨_,⟨_,_,rfl,rfl,⟨_,_,rfl,rfl,⟨cK,cM,rfl,fa⟩⟩⟩,fb⟩:=WL.at bb co;refine CC 6 bb.2 co underlying130 AS ?_;refine Ei 7 [iV a7.1,iV a7.2.1,sV cK a7.2.2 cM] 0 cJ fb Cu AS ?_;refine Bu 8 rfl rfl (Bu 9 rfl rfl ?_);obtain⟨a8,cp,fc⟩:=bs e9;obtain⟨_,⟨_,_,rfl,rfl,⟨_,_,rfl,rfl,⟨cN,cO,rfl,fd⟩⟩⟩,fe⟩:=WL.at bb cp;refine CC 10 bb.2 cp underlying130 AS ?_;refine Ei 11 [iV a8.1,iV a8.2.1,sV cN a8.2.2 cO] 0 cJ fe Cu AS ?_;refine CC 12 bb.2 cp underlying130 AS ?_;have df:=WL.put (x':=a7) (ws':= [iV a7.1,iV a7.2.1,sV cK a7.2.2 cM]) bb bb.2 cp ⟨_,_,rfl,rfl,⟨_,_,rfl,rfl,⟨_,_,rfl,fa⟩⟩⟩;refine Ej 13 0 cJ AS df.2 fun ff=>?_;refine CC 14 bb.2 co underlying130 AS ?_;have dg:=WL.put (x':=a8) (ws':= [iV a8.1,iV a8.2.1,sV cN a8.2.2 cO]) df.1 bb.2 co ⟨_,_,rfl,rfl,⟨_,_,rfl,rfl,⟨_,_,rfl,fd⟩⟩⟩;refine Ej 15 0 ff AS dg.2 fun fg=>?_;refine JB.fin (by decide+kernel) (zg 6 rfl ?_);obtain rfl:=oi fc;exact AB func185 rfl rfl (c9 ((al.Ac be).Ac e8) rfl ⟨(A2 (A2 f102 (Int.toNat (cH.1)*3) [iV a7.1,iV a7.2.1,sV cK a7.2.2 cM]) (Int.toNat (p1)*3) [iV a8.1,iV a8.2.1,sV cN a8.2.2 cO]),rfl,(by first | rfl | simp | (simp [Value.cells])),dg.1⟩ fg)
    ·intro fh;refine JL.block (CV e6 (fun L s bd=>∃(cP:LH) (f127:AD),Jn cw H cP [bX K f127 133] [(0,.slice (A0 K) Z Y),(1,iV p1),(4,(fV 134)),(12,iV bd.1),(13,iV bd.2.1)] L s (WL 133 CB cP K Y Z f127 bd.2.2)) ⟨cw,(A2 (A2 (A2 (A2 av (Int.toNat (p1)*3) [iV O.1,iV O.2.1,sV a0 O.2.2 c4]) (Int.toNat (p3)*3) [iV U.1,iV U.2.1,sV a1 U.2.2 a2]) (Int.toNat (bo)*3) [iV a5.1,iV a5.2.1,sV cD a5.2.2 cE]) (Int.toNat (cv)*3) [iV a6.1,iV a6.2.1,sV cF a6.2.2 cG]),rfl,rfl,Ar,e1,de.1⟩ ?_);rintro _ _ bd ⟨cP,f127,rfl,rfl,dh,fj,ag⟩ fk ⟨hI,cQ⟩ fm;have di:=cQ;unfold Ja at di;obtain⟨bi,fo,fp⟩:=bs di;refine zg 2 rfl (CK [bX K f127 133] [(0,.slice (A0 K) Z Y),(1,iV p1),(4,(fV 134)),(12,iV bi),(13,iV bd.2.1)] (fun hJ a9 fq=>?_) (fun fs=>?_))
     ·obtain⟨cR,fu,fv⟩:=bs fp;refine JL.seq (CK [bX K f127 133] [(0,.slice (A0 K) Z Y),(1,iV p1),(4,(fV 134)),(12,iV bi),(13,iV cR)] (fun dj bw cq=>?_) (fun fw=>?_))
      ·refine zg 7 rfl (AM fv (fun fx fy=>?_) (fun fx fz=>?_))
       ·refine JL.exit rfl ?_;obtain rfl:=oi fy;obtain rfl:=fk _ cQ;exact Ay (fh _ _ ⟨dj,f127,rfl,rfl,((dh.Ac a9).Ac bw),cq,(ag.Ai (a9.Ac bw))⟩) rfl
       ·refine zg 2 rfl (G4 [13,15] [K] mixed rfl ?_);refine Bu 0 rfl rfl (Bu 1 rfl rfl ?_);refine Bu 2 rfl rfl (Bu 3 rfl rfl ?_);refine Bu 4 rfl rfl (Bu 5 rfl rfl ?_);obtain⟨am,cr,fA⟩:=bs fz;obtain⟨_,⟨_,_,rfl,rfl,⟨_,_,rfl,rfl,⟨cT,cV,rfl,fB⟩⟩⟩,fC⟩:=WL.at (ag.Ai (a9.Ac bw)) cr;refine CC 6 ag.2 cr underlying130 AS ?_;refine Ei 7 [iV am.1,iV am.2.1,sV cT am.2.2 cV] 0 cq fC Cu AS ?_;refine Bu 8 rfl rfl (Bu 9 rfl rfl ?_);obtain⟨ap,ct,fD⟩:=bs fA;obtain⟨_,⟨_,_,rfl,rfl,⟨_,_,rfl,rfl,⟨cW,cX,rfl,fE⟩⟩⟩,fF⟩:=WL.at (ag.Ai (a9.Ac bw)) ct;refine CC 10 ag.2 ct underlying130 AS ?_;refine Ei 11 [iV ap.1,iV ap.2.1,sV cW ap.2.2 cX] 0 cq fF Cu AS ?_;refine CC 12 ag.2 ct underlying130 AS ?_;have dk:=WL.put (x':=am) (ws':= [iV am.1,iV am.2.1,sV cT am.2.2 cV]) (ag.Ai (a9.Ac bw)) ag.2 ct ⟨_,_,rfl,rfl,⟨_,_,rfl,rfl,⟨_,_,rfl,fB⟩⟩⟩;refine Ej 13 0 cq AS dk.2 fun fG=>?_;refine CC 14 ag.2 cr underlying130 AS ?_;have dl:=WL.put (x':=ap) (ws':= [iV ap.1,iV ap.2.1,sV cW ap.2.2 cX]) dk.1 ag.2 cr ⟨_,_,rfl,rfl,⟨_,_,rfl,rfl,⟨_,_,rfl,fE⟩⟩⟩;refine Ej 15 0 fG AS dl.2 fun fH=>?_;refine JB.fin (by decide+kernel) ?_;obtain⟨fI,fJ,fK⟩:=bs fD;refine zg 3 rfl (Ba fJ rfl rfl rfl ?_);obtain⟨fL,fM,fN⟩:=bs fK;refine zg 4 rfl (Cl fM rfl rfl rfl ?_);refine zg 3 rfl ?_;obtain rfl:=oi fN;exact Ay (fm _ _ (fI,fL,((bd.2.2.set (Int.toNat bi) am).set (Int.toNat cR) ap)) ⟨dj,(A2 (A2 f127 (Int.toNat (bi)*3) [iV am.1,iV am.2.1,sV cT am.2.2 cV]) (Int.toNat (cR)*3) [iV ap.1,iV ap.2.1,sV cW ap.2.2 cX]),rfl,rfl,((dh.Ac a9).Ac bw),fH,dl.1⟩ cQ) rfl
      ·refine JL.block (Cp fu (fun b8=> [bX K f127 133]) (fun b8=> [(0,.slice (A0 K) Z Y),(1,iV p1),(4,(fV 134)),(12,iV bi),(13,iV b8)]) Ar fq ?_);rintro b8 dm bU b9 fO ⟨hK,cY⟩ fP;have dn:=cY;unfold JP at dn;refine zg 2 rfl (Dq 17 [K] ⟨⟨0,_,rfl⟩,trivial⟩ b9 fun ht=>?_);refine AZ ht rfl [0,1,2,3] rfl ?_;obtain⟨fQ,dp,fR⟩:=bs dn;refine Eg 0 #[true,true,true,true,true,true,true,true,true,true,true,true,true,true,true,true,true] (fun L s=>∃(dq:LH),Jm dm H dq [bX K f127 133] [(0,.slice (A0 K) Z Y),(1,iV p1),(4,(fV 134)),(12,iV bi),(13,iV b8),(139,.bool fQ)] L s) ?_ ?_
       ·rintro _ _ ⟨dq,rfl,rfl,dr,dt⟩;refine AY.fin (by decide+kernel) (BI fR (fun fS fT=>?_) (fun fS fU=>?_))
        ·obtain⟨fW,fX,fY⟩:=bs fT;refine zg 4 rfl (Cl fX rfl rfl rfl ?_);refine zg 3 rfl ?_;obtain rfl:=oi fY;exact fP fW (bU.Ac dr) dt rfl cY
        ·refine JL.exit rfl ?_;obtain rfl:=oi fU;obtain rfl:=fO _ cY;exact fw (bU.Ac dr) dt rfl
       ·intro du;refine EW (q:=bi≤b8) (i:=126) rfl (fun cZ=>?_) (fun cZ=>?_)
        ·have fZ:=ip dp cZ;refine AZ ht rfl [4,5,6] rfl ?_;obtain⟨bV,dv,ga⟩:=bs fZ;obtain⟨_,⟨_,_,rfl,rfl,⟨_,_,rfl,rfl,⟨dw,dx,rfl,gb⟩⟩⟩,gc⟩:=WL.at (ag.Ai (a9.Ac bU)) dv;refine BA 7 ht rfl rfl (fun ρ h s' hs=>GD ((ag.Ai (a9.Ac bU))).2 dv underlying130 AS (h _ _ rfl) (h _ _ rfl)) ?_;refine D6 8 ht [iV bV.1,iV bV.2.1,sV dw bV.2.2 dx] 0 b9 gc Cu AS ?_;refine AZ ht rfl [9,10] rfl ?_;obtain⟨bW,dy,gd⟩:=bs ga;obtain⟨_,⟨_,_,rfl,rfl,⟨_,_,rfl,rfl,⟨dz,dA,rfl,ge⟩⟩⟩,gf⟩:=WL.at (ag.Ai (a9.Ac bU)) dy;refine BA 11 ht rfl rfl (fun ρ h s' hs=>GD ((ag.Ai (a9.Ac bU))).2 dy underlying130 AS (h _ _ rfl) (h _ _ rfl)) ?_;refine D6 12 ht [iV bW.1,iV bW.2.1,sV dz bW.2.2 dA] 0 b9 gf Cu AS ?_;obtain⟨gg,gh,gi⟩:=bs gd;refine HP (i:=13) ⟨⟨0,_,rfl⟩,trivial⟩ (vs:= [.agg #[iV bV.1,iV bV.2.1,sV dw bV.2.2 dx],.agg #[iV bW.1,iV bW.2.1,sV dz bW.2.2 dA]]) (G7 gb ge gh) (by decide+kernel) rfl rfl rfl rfl GX rfl b9 ?_;rintro _ gj _ gk ⟨rfl,rfl⟩ gl;refine Ck 14 ht rfl rfl ?_;refine BA (v:= .bool (decide (¬(gg<0)))) 15 ht rfl rfl (fun ρ h s' hs=>I8 (h _ _ rfl)) ?_;refine Ck 16 ht rfl rfl ?_;obtain rfl:=oi gi;refine CH ?_ (du _ _ ⟨gj,rfl,rfl,gk,gl⟩);exact⟨rfl,rfl,rfl,rfl,rfl,rfl,trivial⟩
        ·have gm:=im dp cZ;refine AZ ht rfl [4,5,6,7,8,9,10,11,12,13,14,15,16] rfl ?_;obtain rfl:=oi gm;refine CH ?_ (du _ _ ⟨dm,rfl,rfl,Ar,b9⟩);exact⟨rfl,rfl,rfl,rfl,rfl,rfl,trivial⟩
     ·refine JL.block (Cp fo (fun ca=> [bX K f127 133]) (fun ca=> [(0,.slice (A0 K) Z Y),(1,iV p1),(4,(fV 134)),(12,iV ca),(13,iV bd.2.1)]) Ar fj ?_);rintro ca dB bY cb gn ⟨hL,c0⟩ gp;have dC:=c0;unfold JZ at dC;refine zg 2 rfl (Dq 16 [K] ⟨⟨0,_,rfl⟩,trivial⟩ cb fun ht=>?_);refine AZ ht rfl [0,1,2,3] rfl ?_;obtain⟨gq,dD,gr⟩:=bs dC;refine Eg 0 #[true,true,true,true,true,true,true,true,true,true,true,true,true,true,true,true] (fun L s=>∃(dE:LH),Jm dB H dE [bX K f127 133] [(0,.slice (A0 K) Z Y),(1,iV p1),(4,(fV 134)),(12,iV ca),(13,iV bd.2.1),(120,.bool gq)] L s) ?_ ?_
      ·rintro _ _ ⟨dE,rfl,rfl,dF,dG⟩;refine AY.fin (by decide+kernel) (BI gr (fun gt gu=>?_) (fun gt gv=>?_))
       ·obtain⟨gw,gx,gy⟩:=bs gu;refine zg 4 rfl (Ba gx rfl rfl rfl ?_);refine zg 3 rfl ?_;obtain rfl:=oi gy;exact gp gw (bY.Ac dF) dG rfl c0
       ·refine JL.exit rfl ?_;obtain rfl:=oi gv;obtain rfl:=gn _ c0;exact fs (bY.Ac dF) dG rfl
      ·intro dH;refine EW (q:=ca≤bd.2.1) (i:=108) rfl (fun c1=>?_) (fun c1=>?_)
       ·have gz:=ip dD c1;refine AZ ht rfl [4,5,6] rfl ?_;obtain⟨bZ,dI,gA⟩:=bs gz;obtain⟨_,⟨_,_,rfl,rfl,⟨_,_,rfl,rfl,⟨dJ,dK,rfl,gB⟩⟩⟩,gC⟩:=WL.at (ag.Ai bY) dI;refine BA 7 ht rfl rfl (fun ρ h s' hs=>GD ((ag.Ai bY)).2 dI underlying130 AS (h _ _ rfl) (h _ _ rfl)) ?_;refine D6 8 ht [iV bZ.1,iV bZ.2.1,sV dJ bZ.2.2 dK] 0 cb gC Cu AS ?_;refine AZ ht rfl [9,10] rfl ?_;obtain⟨b0,dL,gD⟩:=bs gA;obtain⟨_,⟨_,_,rfl,rfl,⟨_,_,rfl,rfl,⟨dM,dN,rfl,gE⟩⟩⟩,gF⟩:=WL.at (ag.Ai bY) dL;refine BA 11 ht rfl rfl (fun ρ h s' hs=>GD ((ag.Ai bY)).2 dL underlying130 AS (h _ _ rfl) (h _ _ rfl)) ?_;refine D6 12 ht [iV b0.1,iV b0.2.1,sV dM b0.2.2 dN] 0 cb gF Cu AS ?_;obtain⟨hM,gG,gH⟩:=bs gD;refine HP (i:=13) ⟨⟨0,_,rfl⟩,trivial⟩ (vs:= [.agg #[iV bZ.1,iV bZ.2.1,sV dJ bZ.2.2 dK],.agg #[iV b0.1,iV b0.2.1,sV dM b0.2.2 dN]]) (G7 gB gE gG) (by decide+kernel) rfl rfl rfl rfl GX rfl cb ?_;rintro _ gI _ gJ ⟨rfl,rfl⟩ gK;refine AZ ht rfl [14,15] rfl ?_;obtain rfl:=oi gH;refine CH ?_ (dH _ _ ⟨gI,rfl,rfl,gJ,gK⟩);exact⟨rfl,rfl,rfl,rfl,rfl,rfl,trivial⟩
       ·have gL:=im dD c1;refine AZ ht rfl [4,5,6,7,8,9,10,11,12,13,14,15] rfl ?_;obtain rfl:=oi gL;refine CH ?_ (dH _ _ ⟨dB,rfl,rfl,Ar,cb⟩);exact⟨rfl,rfl,rfl,rfl,rfl,rfl,trivial⟩
  ·refine JL.block (Cp eG (fun cc=> [bX K (A2 (A2 av (Int.toNat (p1)*3) [iV O.1,iV O.2.1,sV a0 O.2.2 c4]) (Int.toNat (p3)*3) [iV U.1,iV U.2.1,sV a1 U.2.2 a2]) 133]) (fun cc=> [(0,.slice (A0 K) Z Y),(1,iV p1),(4,(fV 134)),(12,iV bo),(13,iV cc)]) Ar eE ?_);rintro cc dO b1 cd gM ⟨hN,c2⟩ gN;have dP:=c2;unfold Lh at dP;refine zg 2 rfl (Dq 17 [K] ⟨⟨0,_,rfl⟩,trivial⟩ cd fun ht=>?_);refine AZ ht rfl [0,1,2,3] rfl ?_;obtain⟨gO,dQ,gP⟩:=bs dP;refine Eg 0 #[true,true,true,true,true,true,true,true,true,true,true,true,true,true,true,true,true] (fun L s=>∃(dR:LH),Jm dO H dR [bX K (A2 (A2 av (Int.toNat (p1)*3) [iV O.1,iV O.2.1,sV a0 O.2.2 c4]) (Int.toNat (p3)*3) [iV U.1,iV U.2.1,sV a1 U.2.2 a2]) 133] [(0,.slice (A0 K) Z Y),(1,iV p1),(4,(fV 134)),(12,iV bo),(13,iV cc),(66,.bool gO)] L s) ?_ ?_
   ·rintro _ _ ⟨dR,rfl,rfl,dS,dT⟩;refine AY.fin (by decide+kernel) (BI gP (fun gQ gR=>?_) (fun gQ gS=>?_))
    ·obtain⟨gT,gU,gV⟩:=bs gR;refine zg 4 rfl (Cl gU rfl rfl rfl ?_);refine zg 3 rfl ?_;obtain rfl:=oi gV;exact gN gT (b1.Ac dS) dT rfl c2
    ·refine JL.exit rfl ?_;obtain rfl:=oi gS;obtain rfl:=gM _ c2;exact eI (b1.Ac dS) dT rfl
   ·intro dU;refine EW (q:=bo≤cc) (i:=53) rfl (fun c3=>?_) (fun c3=>?_)
    ·have gW:=ip dQ c3;refine AZ ht rfl [4,5,6] rfl ?_;obtain⟨b2,dV,gX⟩:=bs gW;obtain⟨_,⟨_,_,rfl,rfl,⟨_,_,rfl,rfl,⟨dW,dX,rfl,gY⟩⟩⟩,gZ⟩:=WL.at (V.1.Ai (al.Ac b1)) dV;refine BA 7 ht rfl rfl (fun ρ h s' hs=>GD ((V.1.Ai (al.Ac b1))).2 dV underlying130 AS (h _ _ rfl) (h _ _ rfl)) ?_;refine D6 8 ht [iV b2.1,iV b2.2.1,sV dW b2.2.2 dX] 0 cd gZ Cu AS ?_;refine AZ ht rfl [9,10] rfl ?_;obtain⟨b3,dY,g0⟩:=bs gX;obtain⟨_,⟨_,_,rfl,rfl,⟨_,_,rfl,rfl,⟨dZ,ea,rfl,g1⟩⟩⟩,g3⟩:=WL.at (V.1.Ai (al.Ac b1)) dY;refine BA 11 ht rfl rfl (fun ρ h s' hs=>GD ((V.1.Ai (al.Ac b1))).2 dY underlying130 AS (h _ _ rfl) (h _ _ rfl)) ?_;refine D6 12 ht [iV b3.1,iV b3.2.1,sV dZ b3.2.2 ea] 0 cd g3 Cu AS ?_;obtain⟨g4,g5,g6⟩:=bs g0;refine HP (i:=13) ⟨⟨0,_,rfl⟩,trivial⟩ (vs:= [.agg #[iV b2.1,iV b2.2.1,sV dW b2.2.2 dX],.agg #[iV b3.1,iV b3.2.1,sV dZ b3.2.2 ea]]) (G7 gY g1 g5) (by decide+kernel) rfl rfl rfl rfl GX rfl cd ?_;rintro _ g7 _ g8 ⟨rfl,rfl⟩ g9;refine Ck 14 ht rfl rfl ?_;refine BA (v:= .bool (decide (¬(g4<0)))) 15 ht rfl rfl (fun ρ h s' hs=>I8 (h _ _ rfl)) ?_;refine Ck 16 ht rfl rfl ?_;obtain rfl:=oi g6;refine CH ?_ (dU _ _ ⟨g7,rfl,rfl,g8,g9⟩);exact⟨rfl,rfl,rfl,rfl,rfl,rfl,trivial⟩
    ·have ha:=im dQ c3;refine AZ ht rfl [4,5,6,7,8,9,10,11,12,13,14,15,16] rfl ?_;obtain rfl:=oi ha;refine CH ?_ (dU _ _ ⟨dO,rfl,rfl,Ar,cd⟩);exact⟨rfl,rfl,rfl,rfl,rfl,rfl,trivial⟩
 ·refine JL.block (Cp eC (fun ce=> [bX K (A2 (A2 av (Int.toNat (p1)*3) [iV O.1,iV O.2.1,sV a0 O.2.2 c4]) (Int.toNat (p3)*3) [iV U.1,iV U.2.1,sV a1 U.2.2 a2]) 133]) (fun ce=> [(0,.slice (A0 K) Z Y),(1,iV p1),(4,(fV 134)),(12,iV ce),(13,iV ci)]) Ar ex ?_);rintro ce eb b4 cf hb ⟨hO,c5⟩ hc;have ec:=c5;unfold Lf at ec;refine zg 2 rfl (Dq 16 [K] ⟨⟨0,_,rfl⟩,trivial⟩ cf fun ht=>?_);refine AZ ht rfl [0,1,2,3] rfl ?_;obtain⟨hd,ed,he⟩:=bs ec;refine Eg 0 #[true,true,true,true,true,true,true,true,true,true,true,true,true,true,true,true] (fun L s=>∃(ee:LH),Jm eb H ee [bX K (A2 (A2 av (Int.toNat (p1)*3) [iV O.1,iV O.2.1,sV a0 O.2.2 c4]) (Int.toNat (p3)*3) [iV U.1,iV U.2.1,sV a1 U.2.2 a2]) 133] [(0,.slice (A0 K) Z Y),(1,iV p1),(4,(fV 134)),(12,iV ce),(13,iV ci),(47,.bool hd)] L s) ?_ ?_
  ·rintro _ _ ⟨ee,rfl,rfl,ef,eg⟩;refine AY.fin (by decide+kernel) (BI he (fun hf hj=>?_) (fun hf hk=>?_))
   ·obtain⟨hl,hm,hn⟩:=bs hj;refine zg 4 rfl (Ba hm rfl rfl rfl ?_);refine zg 3 rfl ?_;obtain rfl:=oi hn;exact hc hl (b4.Ac ef) eg rfl c5
   ·refine JL.exit rfl ?_;obtain rfl:=oi hk;obtain rfl:=hb _ c5;exact eF (b4.Ac ef) eg rfl
  ·intro eh;refine EW (q:=ce≤ci) (i:=35) rfl (fun c6=>?_) (fun c6=>?_)
   ·have ho:=ip ed c6;refine AZ ht rfl [4,5,6] rfl ?_;obtain⟨b5,ei,hp⟩:=bs ho;obtain⟨_,⟨_,_,rfl,rfl,⟨_,_,rfl,rfl,⟨ej,ek,rfl,hq⟩⟩⟩,hr⟩:=WL.at (V.1.Ai b4) ei;refine BA 7 ht rfl rfl (fun ρ h s' hs=>GD ((V.1.Ai b4)).2 ei underlying130 AS (h _ _ rfl) (h _ _ rfl)) ?_;refine D6 8 ht [iV b5.1,iV b5.2.1,sV ej b5.2.2 ek] 0 cf hr Cu AS ?_;refine AZ ht rfl [9,10] rfl ?_;obtain⟨b6,el,hu⟩:=bs hp;obtain⟨_,⟨_,_,rfl,rfl,⟨_,_,rfl,rfl,⟨em,en,rfl,hv⟩⟩⟩,hw⟩:=WL.at (V.1.Ai b4) el;refine BA 11 ht rfl rfl (fun ρ h s' hs=>GD ((V.1.Ai b4)).2 el underlying130 AS (h _ _ rfl) (h _ _ rfl)) ?_;refine D6 12 ht [iV b6.1,iV b6.2.1,sV em b6.2.2 en] 0 cf hw Cu AS ?_;obtain⟨hP,hx,hy⟩:=bs hu;refine HP (i:=13) ⟨⟨0,_,rfl⟩,trivial⟩ (vs:= [.agg #[iV b5.1,iV b5.2.1,sV ej b5.2.2 ek],.agg #[iV b6.1,iV b6.2.1,sV em b6.2.2 en]]) (G7 hq hv hx) (by decide+kernel) rfl rfl rfl rfl GX rfl cf ?_;rintro _ hz _ hA ⟨rfl,rfl⟩ hB;refine AZ ht rfl [14,15] rfl ?_;obtain rfl:=oi hy;refine CH ?_ (eh _ _ ⟨hz,rfl,rfl,hA,hB⟩);exact⟨rfl,rfl,rfl,rfl,rfl,rfl,trivial⟩
   ·have hC:=im ed c6;refine AZ ht rfl [4,5,6,7,8,9,10,11,12,13,14,15] rfl ?_;obtain rfl:=oi hC;refine CH ?_ (eh _ _ ⟨eb,rfl,rfl,Ar,cf⟩);exact⟨rfl,rfl,rfl,rfl,rfl,rfl,trivial⟩
end Pal
namespace Pal
open Go Go.Conc Go.Proofs
open Go.Proofs.Tryz
variable {J:Judge Tryz.prog}{E:LH}
def MG(fuel:Nat)(p0:List Bw)(p1:Int)(p2:Int)(p3:Int)(a8:Unit):Option (Bd Unit (((List Bw))⊕(Unit))):= (As (p2 - p1)).bind fun Z=> if Z≤12 then((f178 fuel p0 p1 p2).bind fun ag=> some (.done (Sum.inl ag))) else(if p3=0 then(none) else((f181 fuel p0 p1 p2).bind fun O=> Option.bind (if O.2=2 then((f182 fuel p0 p1 p2).bind fun al=> (As (p2 - 1)).bind fun am=> (As (O.1 - p1)).bind fun ap=> (As (am - ap)).bind fun av=> some (av,1,al)) else(some (O.1,O.2,p0))) fun K=> Option.bind (if K.2.1=1 then((f183 fuel K.2.2 p1 p2).bind fun U=> if U.1=true then(some (Sum.inl U.2)) else(some (Sum.inr U.2))) else(some (Sum.inr K.2.2))) fun a0=>Sum.elim (fun r=>some (.done (Sum.inl r))) (fun V=> Option.bind (if 0<p1 then((As (p1 - 1)).bind fun a1=> (ix V a1).bind fun a2=> (ix V K.1).bind fun a3=> (f134 fuel a2 a3).bind fun a4=> some (decide (¬(a4<0)))) else(some false)) fun a5=> if a5=true then(none) else((f185 fuel V p1 p2 K.1).bind fun Y=> (As (Y.1 - p1)).bind fun a6=> (As (p2 - Y.1)).bind fun a7=> (Hz Z (8)).bind fun a9=> if a6<a7 then(none) else((As (Y.1+1)).bind fun bb=> none))) a0))
def IF(fuel:Nat)(p0:List Bw)(p1:Int)(p2:Int)(p3:Int):Option ((List Bw)):= Option.bind (iter (MG fuel p0 p1 p2 p3) fuel ()) fun K=> Sum.elim (fun r=>some r) (fun O=> none) K
theorem R7{K:Nat}{O:Nat}{U:Nat}{a0:AD}{p0:List (Bw)}{p1:Int}{p2:Int}{p3:Int}(hW:WL 133 CB E K O U a0 p0){fuel:Nat}{r:(List Bw)}(a6:IF fuel p0 p1 p2 p3=some r):AN J 162 [.slice (A0 K) U O,iV p1,iV p2,iV p3,(fV 134)] E [(K,.cells a0 133 (0,0))] (fun w E' B'=>∃(a7:AD),w= .tuple #[]∧B'= [(K,.cells a7 133 (0,0))]∧WL 133 CB E' K O U a7 r):=by
 refine A3 func162 fun Q dM cs H cb a8=>?_;unfold IF at a6;obtain⟨dN,cc,a9⟩:=bs a6;refine zg 8 rfl (Bt (fun L s=>False) ?_ ?_)
 ·intro _ _ cd;exact cd.elim
 ·intro dO;refine JL.block (Cp cc (fun bb=> [bX K a0 133]) (fun bb=> [(0,.slice (A0 K) U O),(1,iV p1),(2,iV p2),(3,iV p3),(4,(fV 134)),(10,.bool true),(11,.bool true)]) Ar cb ?_);rintro bb dP V bd be ⟨dQ,a1⟩ dR;have bi:=a1;unfold MG at bi;obtain⟨a2,ce,cf⟩:=bs bi;refine zg 5 rfl (Cl ce rfl rfl rfl ?_);refine zg 8 rfl (AM cf (fun cg ci=>?_) (fun cg ck=>?_))
  ·obtain⟨dS,cm,cn⟩:=bs ci;refine zg 6 rfl (B8 0 (Tu (hW.Ai V) cm) rfl rfl Ox bd rfl ?_);rintro _ dT _ co ⟨f32,rfl,rfl,cp⟩ cq;refine JL.done ?_;obtain rfl:=oi cn;obtain rfl:=be _ a1;have cr:=elim_inl a9;obtain rfl:=oi cr;exact AB func162 rfl rfl (a8 (V.Ac co) rfl ⟨f32,rfl,(by first | rfl | simp | (simp [Value.cells])),cp⟩ cq)
  ·refine zg 7 rfl (AM ck (fun ct cu=>?_) (fun ct cv=>?_))
   ·refine zg 6 rfl ?_;cases cu
   ·refine zg 5 rfl (AF (v:= .bool false) rfl (fun ρ h=>Yl.not (c:=true) (h _ _ rfl)) ?_);obtain⟨dU,cw,cy⟩:=bs cv;refine zg 9 rfl (B8 0 (S5 (hW.Ai V) cw) rfl rfl (AV func181 rfl) bd rfl ?_);rintro _ bo _ a3 ⟨rfl,rfl⟩ bv;obtain⟨Y,cz,cA⟩:=bs cy;refine zg 12 rfl (Bt (fun L s=>∃(al:LH) (f56:AD),Jn bo H al [bX K f56 133] [(0,.slice (A0 K) U O),(1,iV p1),(2,iV p2),(3,iV p3),(4,(fV 134)),(10,.bool true),(11,.bool true),(12,iV a2),(13,iV Y.1),(14,iV Y.2.1)] L s (WL 133 CB al K O U f56 Y.2.2)) ?_ ?_)
    ·rintro _ _ ⟨al,f56,rfl,rfl,cB,bw,bU⟩;obtain⟨cC,cD,bV⟩:=bs cA;refine zg 12 rfl (Bt (fun L s=>∃(a4:(List Bw)) (am:LH) (f65:AD),cC=Sum.inr a4∧Jn al H am [bX K f65 133] [(0,.slice (A0 K) U O),(1,iV p1),(2,iV p2),(3,iV p3),(4,(fV 134)),(10,.bool true),(11,.bool true),(12,iV a2),(13,iV Y.1)] L s (WL 133 CB am K O U f65 a4)) ?_ ?_)
     ·rintro _ _ ⟨a4,am,f65,rfl,rfl,rfl,dV,ap,av⟩;have cE:=elim_inr bV;refine zg 2 rfl (Dq 17 [K] ⟨⟨0,_,rfl⟩,trivial⟩ ap fun ht=>?_);refine AZ ht rfl [0,1,2] rfl ?_;obtain⟨cF,bW,cG⟩:=bs cE;refine Eg 0 #[true,true,true,true,true,true,true,true,true,true,true,true,true,true,true,true,true] (fun L s=>∃(bY:LH),Jm am H bY [bX K f65 133] [(0,.slice (A0 K) U O),(1,iV p1),(2,iV p2),(3,iV p3),(4,(fV 134)),(10,.bool true),(11,.bool true),(12,iV a2),(13,iV Y.1),(97,.bool cF)] L s) ?_ ?_
      ·rintro _ _ ⟨bY,rfl,rfl,cH,cI⟩;refine AY.fin (by decide+kernel) (BI cG (fun cJ cK=>?_) (fun cJ cM=>?_))
       ·refine zg 7 rfl ?_;cases cK
       ·obtain⟨dW,cN,cO⟩:=bs cM;refine zg 8 rfl (B8 0 (Tk (av.Ai cH) cN) rfl rfl (AV func185 rfl) cI rfl ?_);rintro _ dX _ dY ⟨f83,rfl,rfl,dZ⟩ ea;obtain⟨eb,cP,cQ⟩:=bs cO;refine zg 15 rfl (Cl cP rfl rfl rfl ?_);obtain⟨ec,cR,cT⟩:=bs cQ;refine zg 2 rfl (Cl cR rfl rfl rfl ?_);obtain⟨cV,cW,cX⟩:=bs cT;refine zg 6 rfl (AF (v:=iV cV) rfl (fun ρ h=>K9 (h _ _ rfl) (h _ _ rfl) cW) ?_);refine zg 8 rfl (AM cX (fun cY cZ=>?_) (fun cY c0=>?_))
        ·refine zg 14 rfl ?_;cases cZ
        ·obtain⟨ed,c1,c2⟩:=bs c0;refine zg 11 rfl (Ba c1 rfl rfl rfl ?_);refine zg 3 rfl ?_;cases c2
      ·intro bZ;refine EW (q:=0<p1) (i:=83) rfl (fun a5=>?_) (fun a5=>?_)
       ·have c3:=ip bW a5;refine AZ ht rfl [3,4,5] rfl ?_;obtain⟨ee,c4,c5⟩:=bs c3;refine BA 6 ht rfl rfl (fun ρ h s' hs=>Da (h _ _ rfl) (h _ _ rfl) c4) ?_;obtain⟨Z,b0,c6⟩:=bs c5;obtain⟨_,⟨_,_,rfl,rfl,⟨_,_,rfl,rfl,⟨b1,b2,rfl,c7⟩⟩⟩,c8⟩:=WL.at av b0;refine Ga 7 ht (av).2 b0 underlying130 AS ?_;refine D6 8 ht [iV Z.1,iV Z.2.1,sV b1 Z.2.2 b2] 0 ap c8 Cu AS ?_;refine AZ ht rfl [9,10] rfl ?_;obtain⟨ag,b3,c9⟩:=bs c6;obtain⟨_,⟨_,_,rfl,rfl,⟨_,_,rfl,rfl,⟨b4,b5,rfl,da⟩⟩⟩,db⟩:=WL.at av b3;refine Ga 11 ht (av).2 b3 underlying130 AS ?_;refine D6 12 ht [iV ag.1,iV ag.2.1,sV b4 ag.2.2 b5] 0 ap db Cu AS ?_;obtain⟨dc,dd,de⟩:=bs c9;refine HP (i:=13) ⟨⟨0,_,rfl⟩,trivial⟩ (vs:= [.agg #[iV Z.1,iV Z.2.1,sV b1 Z.2.2 b2],.agg #[iV ag.1,iV ag.2.1,sV b4 ag.2.2 b5]]) (G7 c7 da dd) (by decide+kernel) rfl rfl rfl rfl GX rfl ap ?_;rintro _ df _ dg ⟨rfl,rfl⟩ dh;refine Ck 14 ht rfl rfl ?_;refine BA (v:= .bool (decide (¬(dc<0)))) 15 ht rfl rfl (fun ρ h s' hs=>I8 (h _ _ rfl)) ?_;refine Ck 16 ht rfl rfl ?_;obtain rfl:=oi de;refine CH ?_ (bZ _ _ ⟨df,rfl,rfl,dg,dh⟩);exact⟨rfl,rfl,rfl,rfl,rfl,rfl,rfl,rfl,rfl,rfl,trivial⟩
       ·have di:=im bW a5;refine AZ ht rfl [3,4,5,6,7,8,9,10,11,12,13,14,15,16] rfl ?_;obtain rfl:=oi di;refine CH ?_ (bZ _ _ ⟨am,rfl,rfl,Ar,ap⟩);exact⟨rfl,rfl,rfl,rfl,rfl,rfl,rfl,rfl,rfl,rfl,trivial⟩
     ·intro b6;refine AM cD (fun dj dk=>?_) (fun dj dl=>?_)
      ·obtain⟨dm,dn,dp⟩:=bs dk;refine zg 6 rfl (B8 0 (Tt bU dn) rfl rfl (AV func183 rfl) bw rfl ?_);rintro _ dq _ b7 ⟨f133,rfl,rfl,b8⟩ b9;refine JL.done (BI dp (fun dr dt=>?_) (fun dr du=>?_))
       ·obtain rfl:=oi dt;have dv:=elim_inl bV;obtain rfl:=oi dv;obtain rfl:=be _ a1;have dw:=elim_inl a9;obtain rfl:=oi dw;exact AB func162 rfl rfl (a8 (((V.Ac a3).Ac cB).Ac b7) rfl ⟨f133,rfl,(by first | rfl | simp | (simp [Value.cells])),b8⟩ b9)
       ·exact JL.skip (Ay (b6 _ _ ⟨dm.2,dq,f133,(Option.some.inj du).symm,rfl,rfl,b7,b9,b8⟩) rfl)
      ·exact JL.skip (Ay (b6 _ _ ⟨Y.2.2,al,f56,(Option.some.inj dl).symm,rfl,rfl,Ar,bw,bU⟩) rfl)
    ·intro ca;refine AM cz (fun dx dy=>?_) (fun dx dz=>?_)
     ·obtain⟨ef,dA,dB⟩:=bs dy;refine zg 6 rfl (B8 0 (Tp (hW.Ai (V.Ac a3)) dA) rfl rfl (AV func182 rfl) bv rfl ?_);rintro _ dC _ dD ⟨f156,rfl,rfl,dE⟩ dF;obtain⟨eg,dG,dH⟩:=bs dB;refine zg 4 rfl (Cl dG rfl rfl rfl ?_);obtain⟨eh,dI,dJ⟩:=bs dH;refine zg 2 rfl (Cl dI rfl rfl rfl ?_);obtain⟨ei,dK,dL⟩:=bs dJ;refine Cl dK rfl rfl rfl (zg 5 rfl ?_);obtain rfl:=oi dL;exact Ay (ca _ _ ⟨dC,f156,rfl,rfl,dD,dF,dE⟩) rfl
     ·refine JL.skip ?_;obtain rfl:=oi dz;exact Ay (ca _ _ ⟨bo,a0,rfl,rfl,Ar,bv,(hW.Ai (V.Ac a3))⟩) rfl
def Hr(fuel:Nat)(p3:Int)(K:Int×Int×Bool×Bool×(List Bw)):Option (Bd (Int×Int×Bool×Bool×(List Bw)) (((List Bw))⊕(Unit))):= Option.bind ((As (K.2.1 - K.1)).bind fun al=> if al≤12 then((f178 fuel K.2.2.2.2 K.1 K.2.1).bind fun a0=> some (Sum.inl a0)) else(if p3=0 then(none) else(Option.bind (if(!K.2.2.1)=true then(none) else(some ())) fun bW=> (f181 fuel K.2.2.2.2 K.1 K.2.1).bind fun V=> Option.bind (if V.2=2 then((f182 fuel K.2.2.2.2 K.1 K.2.1).bind fun a1=> (As (K.2.1 - 1)).bind fun a2=> (As (V.1 - K.1)).bind fun a3=> (As (a2 - a3)).bind fun a4=> some (a4,1,a1)) else(some (V.1,V.2,K.2.2.2.2))) fun U=> Option.bind (if K.2.2.1=true then(some K.2.2.2.1) else(some false)) fun a5=> Option.bind (if a5=true then(some (decide (U.2.1=1))) else(some false)) fun a6=> Option.bind (if a6=true then((f183 fuel U.2.2 K.1 K.2.1).bind fun Z=> if Z.1=true then(some (Sum.inl Z.2)) else(some (Sum.inr Z.2))) else(some (Sum.inr U.2.2))) fun a7=>Sum.elim (fun r=>some (Sum.inl r)) (fun ag=> Option.bind (if 0<K.1 then((As (K.1 - 1)).bind fun a8=> (ix ag a8).bind fun a9=> (ix ag U.1).bind fun bb=> (f134 fuel a9 bb).bind fun bd=> some (decide (¬(bd<0)))) else(some false)) fun be=> if be=true then(none) else((f185 fuel ag K.1 K.2.1 U.1).bind fun O=> (As (O.1 - K.1)).bind fun am=> (As (K.2.1 - O.1)).bind fun ap=> (Hz al (8)).bind fun av=> Option.bind (if am<ap then((IF fuel O.2.2 K.1 O.1 p3).bind fun bi=> (As (O.1+1)).bind fun bo=> some (bo,K.2.1,decide (av≤am),bi)) else((As (O.1+1)).bind fun bv=> (IF fuel O.2.2 bv K.2.1 p3).bind fun bw=> some (K.1,O.1,decide (av≤ap),bw))) fun Y=> some (Sum.inr (Y.1,Y.2.1,Y.2.2.1,O.2.1,Y.2.2.2)))) a7))) fun bU=>Sum.elim (fun r=>some (.done (Sum.inl r))) (fun bV=> some (.more bV)) bU
def f162(fuel:Nat)(p0:List Bw)(p1:Int)(p2:Int)(p3:Int):Option ((List Bw)):= Option.bind (iter (Hr fuel p3) fuel (p1,p2,true,true,p0)) fun K=> Sum.elim (fun r=>some r) (fun O=> none) K
theorem ZN{O:Nat}{U:Nat}{V:Nat}{be:AD}{p0:List (Bw)}{p1:Int}{p2:Int}{p3:Int}(hW:WL 133 CB E O U V be p0){fuel:Nat}{r:(List Bw)}(bW:f162 fuel p0 p1 p2 p3=some r):AN J 162 [.slice (A0 O) V U,iV p1,iV p2,iV p3,(fV 134)] E [(O,.cells be 133 (0,0))] (fun w E' B'=>∃(bY:AD),w= .tuple #[]∧B'= [(O,.cells bY 133 (0,0))]∧WL 133 CB E' O U V bY r):=by
 refine A3 func162 fun Q e8 cs H cC bZ=>?_;unfold f162 at bW;obtain⟨e9,cD,b0⟩:=bs bW;refine zg 8 rfl (Bt (fun L s=>False) ?_ ?_)
 ·intro _ _ cE;exact cE.elim
 ·intro fa;refine JL.block (CV cD (fun L s K=>∃(a3:LH) (f22:AD),Jn E H a3 [bX O f22 133] [(0,.slice (A0 O) V U),(1,iV K.1),(2,iV K.2.1),(3,iV p3),(4,(fV 134)),(10,.bool K.2.2.1),(11,.bool K.2.2.2.1)] L s (WL 133 CB a3 O U V f22 K.2.2.2.2)) ⟨E,be,rfl,rfl,Ar,cC,hW⟩ ?_);rintro _ _ K ⟨a3,f22,rfl,rfl,bi,b1,a4⟩ b2 ⟨fb,a5⟩ cF;have b3:=a5;unfold Hr at b3;obtain⟨cG,cH,bo⟩:=bs b3;refine Bt (fun L s=>∃(Z:Int×Int×Bool×Bool×(List Bw)) (a6:LH) (f36:AD),cG=Sum.inr Z∧Jn a3 H a6 [bX O f36 133] [(0,.slice (A0 O) V U),(1,iV Z.1),(2,iV Z.2.1),(3,iV p3),(4,(fV 134)),(10,.bool Z.2.2.1),(11,.bool Z.2.2.2.1)] L s (WL 133 CB a6 O U V f36 Z.2.2.2.2)) ?_ ?_
  ·rintro _ _ ⟨Z,a6,f36,rfl,rfl,rfl,cI,cJ,cK⟩;have cM:=elim_inr bo;obtain rfl:=oi cM;exact Ay (cF _ _ Z ⟨a6,f36,rfl,rfl,(bi.Ac cI),cJ,cK⟩ a5) rfl
  ·intro cN;obtain⟨al,cO,cP⟩:=bs cH;refine zg 5 rfl (Cl cO rfl rfl rfl ?_);refine zg 8 rfl (AM cP (fun cQ cR=>?_) (fun cQ cT=>?_))
   ·obtain⟨fc,cV,cW⟩:=bs cR;refine zg 6 rfl (B8 0 (Tu a4 cV) rfl rfl Ox b1 rfl ?_);rintro _ fd _ cX ⟨f52,rfl,rfl,cY⟩ cZ;refine JL.done ?_;obtain rfl:=oi cW;have c0:=elim_inl bo;obtain rfl:=oi c0;obtain rfl:=b2 _ a5;have c1:=elim_inl b0;obtain rfl:=oi c1;exact AB func162 rfl rfl (bZ (bi.Ac cX) rfl ⟨f52,rfl,(by first | rfl | simp | (simp [Value.cells])),cY⟩ cZ)
   ·refine zg 7 rfl (AM cT (fun c2 c3=>?_) (fun c2 c4=>?_))
    ·refine zg 6 rfl ?_;cases c3
    ·refine zg 5 rfl (AF (v:= .bool (!K.2.2.1)) rfl (fun ρ h=>Yl.not (h _ _ rfl)) ?_);obtain⟨fe,c5,c6⟩:=bs c4;refine JL.done (CK [bX O f22 133] [(0,.slice (A0 O) V U),(1,iV K.1),(2,iV K.2.1),(3,iV p3),(4,(fV 134)),(10,.bool K.2.2.1),(11,.bool K.2.2.2.1),(12,iV al)] (fun ff av c7=>?_) (fun c8=>?_))
     ·obtain⟨fg,c9,da⟩:=bs c6;refine zg 6 rfl (B8 0 (S5 (a4.Ai av) c9) rfl rfl (AV func181 rfl) c7 rfl ?_);rintro _ b4 _ a7 ⟨rfl,rfl⟩ b5;obtain⟨Y,db,dc⟩:=bs da;refine zg 12 rfl (Bt (fun L s=>∃(bv:LH) (f84:AD),Jn b4 H bv [bX O f84 133] [(0,.slice (A0 O) V U),(1,iV K.1),(2,iV K.2.1),(3,iV p3),(4,(fV 134)),(10,.bool K.2.2.1),(11,.bool K.2.2.2.1),(12,iV al),(13,iV Y.1),(14,iV Y.2.1)] L s (WL 133 CB bv O U V f84 Y.2.2)) ?_ ?_)
      ·rintro _ _ ⟨bv,f84,rfl,rfl,b6,b7,b8⟩;obtain⟨dd,de,df⟩:=bs dc;refine zg 5 rfl (Dv 4 4 [bX O f84 133] [(0,.slice (A0 O) V U),(1,iV K.1),(2,iV K.2.1),(3,iV p3),(4,(fV 134)),(10,.bool K.2.2.1),(11,.bool K.2.2.2.1),(12,iV al),(13,iV Y.1),(14,iV Y.2.1),(71,.bool dd)] (fun bw a8 b9=>?_) (fun ca=>?_))
       ·obtain⟨dg,dh,di⟩:=bs df;refine zg 1 rfl (EY [] (fun L s=>∃(a9:LH),Jm bw H a9 [bX O f84 133] [(0,.slice (A0 O) V U),(1,iV K.1),(2,iV K.2.1),(3,iV p3),(4,(fV 134)),(10,.bool K.2.2.1),(11,.bool K.2.2.2.1),(12,iV al),(13,iV Y.1),(75,.bool dg)] L s) ?_ ?_)
        ·rintro _ _ ⟨a9,rfl,rfl,bb,cb⟩;obtain⟨dj,dk,cc⟩:=bs di;refine JL.done (Bt (fun L s=>∃(bU:(List Bw)) (a0:LH) (f105:AD),dj=Sum.inr bU∧Jn a9 H a0 [bX O f105 133] [(0,.slice (A0 O) V U),(1,iV K.1),(2,iV K.2.1),(3,iV p3),(4,(fV 134)),(10,.bool K.2.2.1),(11,.bool K.2.2.2.1),(12,iV al),(13,iV Y.1)] L s (WL 133 CB a0 O U V f105 bU)) ?_ ?_)
         ·rintro _ _ ⟨bU,a0,f105,rfl,rfl,rfl,dl,a1,a2⟩;have dm:=elim_inr cc;refine zg 2 rfl (Dq 17 [O] ⟨⟨0,_,rfl⟩,trivial⟩ a1 fun ht=>?_);refine AZ ht rfl [0,1,2] rfl ?_;obtain⟨dn,cd,dp⟩:=bs dm;refine Eg 0 #[true,true,true,true,true,true,true,true,true,true,true,true,true,true,true,true,true] (fun L s=>∃(ce:LH),Jm a0 H ce [bX O f105 133] [(0,.slice (A0 O) V U),(1,iV K.1),(2,iV K.2.1),(3,iV p3),(4,(fV 134)),(10,.bool K.2.2.1),(11,.bool K.2.2.2.1),(12,iV al),(13,iV Y.1),(97,.bool dn)] L s) ?_ ?_
          ·rintro _ _ ⟨ce,rfl,rfl,cf,dq⟩;refine AY.fin (by decide+kernel) (BI dp (fun dr dt=>?_) (fun dr du=>?_))
           ·refine zg 7 rfl ?_;cases dt
           ·obtain⟨cg,dv,dw⟩:=bs du;refine zg 8 rfl (B8 0 (Tk (a2.Ai cf) dv) rfl rfl (AV func185 rfl) dq rfl ?_);rintro _ dx _ dy ⟨f123,rfl,rfl,ci⟩ ck;obtain⟨fh,dz,dA⟩:=bs dw;refine zg 15 rfl (Cl dz rfl rfl rfl ?_);obtain⟨fj,dB,dC⟩:=bs dA;refine zg 2 rfl (Cl dB rfl rfl rfl ?_);obtain⟨dD,dE,dF⟩:=bs dC;refine zg 6 rfl (AF (v:=iV dD) rfl (fun ρ h=>K9 (h _ _ rfl) (h _ _ rfl) dE) ?_);obtain⟨ag,dG,dH⟩:=bs dF;refine zg 8 rfl (Bt (fun L s=>∃(bd:LH) (f138:AD),Jn dx H bd [bX O f138 133] [(0,.slice (A0 O) V U),(1,iV ag.1),(2,iV ag.2.1),(3,iV p3),(4,(fV 134)),(10,.bool ag.2.2.1),(11,.bool cg.2.1)] L s (WL 133 CB bd O U V f138 ag.2.2.2)) ?_ ?_)
            ·rintro _ _ ⟨bd,f138,rfl,rfl,dI,dJ,dK⟩;exact Mr (Ay (cN _ _ ⟨(ag.1,ag.2.1,ag.2.2.1,cg.2.1,ag.2.2.2),bd,f138,(Option.some.inj dH).symm,rfl,rfl,((((((((av.Ac a7).Ac b6).Ac a8).Ac bb).Ac dl).Ac cf).Ac dy).Ac dI),dJ,dK⟩) rfl)
            ·intro cm;refine AM dG (fun dL dM=>?_) (fun dL dN=>?_)
             ·obtain⟨fk,dO,dP⟩:=bs dM;refine zg 14 rfl (B8 0 (R7 ci dO) rfl rfl Mf ck rfl ?_);rintro _ dQ _ dR ⟨f150,rfl,rfl,dS⟩ dT;obtain⟨fm,dU,dV⟩:=bs dP;refine zg 3 rfl (Ba dU rfl rfl rfl ?_);refine zg 2 rfl ?_;obtain rfl:=oi dV;exact Ay (cm _ _ ⟨dQ,f150,rfl,rfl,dR,dT,dS⟩) rfl
             ·obtain⟨fo,dW,dX⟩:=bs dN;refine zg 11 rfl (Ba dW rfl rfl rfl ?_);obtain⟨fp,dY,dZ⟩:=bs dX;refine zg 3 rfl (B8 0 (R7 ci dY) rfl rfl Mf ck rfl ?_);rintro _ ea _ eb ⟨f165,rfl,rfl,ec⟩ ed;refine zg 5 rfl ?_;obtain rfl:=oi dZ;exact Ay (cm _ _ ⟨ea,f165,rfl,rfl,eb,ed,ec⟩) rfl
          ·intro cn;refine EW (q:=0<K.1) (i:=83) rfl (fun bV=>?_) (fun bV=>?_)
           ·have ee:=ip cd bV;refine AZ ht rfl [3,4,5] rfl ?_;obtain⟨fq,ef,eg⟩:=bs ee;refine BA 6 ht rfl rfl (fun ρ h s' hs=>Da (h _ _ rfl) (h _ _ rfl) ef) ?_;obtain⟨am,co,eh⟩:=bs eg;obtain⟨_,⟨_,_,rfl,rfl,⟨_,_,rfl,rfl,⟨cp,cq,rfl,ei⟩⟩⟩,ej⟩:=WL.at a2 co;refine Ga 7 ht (a2).2 co underlying130 AS ?_;refine D6 8 ht [iV am.1,iV am.2.1,sV cp am.2.2 cq] 0 a1 ej Cu AS ?_;refine AZ ht rfl [9,10] rfl ?_;obtain⟨ap,cr,ek⟩:=bs eh;obtain⟨_,⟨_,_,rfl,rfl,⟨_,_,rfl,rfl,⟨ct,cu,rfl,el⟩⟩⟩,em⟩:=WL.at a2 cr;refine Ga 11 ht (a2).2 cr underlying130 AS ?_;refine D6 12 ht [iV ap.1,iV ap.2.1,sV ct ap.2.2 cu] 0 a1 em Cu AS ?_;obtain⟨en,eo,ep⟩:=bs ek;refine HP (i:=13) ⟨⟨0,_,rfl⟩,trivial⟩ (vs:= [.agg #[iV am.1,iV am.2.1,sV cp am.2.2 cq],.agg #[iV ap.1,iV ap.2.1,sV ct ap.2.2 cu]]) (G7 ei el eo) (by decide+kernel) rfl rfl rfl rfl GX rfl a1 ?_;rintro _ eq _ er ⟨rfl,rfl⟩ et;refine Ck 14 ht rfl rfl ?_;refine BA (v:= .bool (decide (¬(en<0)))) 15 ht rfl rfl (fun ρ h s' hs=>I8 (h _ _ rfl)) ?_;refine Ck 16 ht rfl rfl ?_;obtain rfl:=oi ep;refine CH ?_ (cn _ _ ⟨eq,rfl,rfl,er,et⟩);exact⟨rfl,rfl,rfl,rfl,rfl,rfl,rfl,rfl,rfl,rfl,trivial⟩
           ·have eu:=im cd bV;refine AZ ht rfl [3,4,5,6,7,8,9,10,11,12,13,14,15,16] rfl ?_;obtain rfl:=oi eu;refine CH ?_ (cn _ _ ⟨a0,rfl,rfl,Ar,a1⟩);exact⟨rfl,rfl,rfl,rfl,rfl,rfl,rfl,rfl,rfl,rfl,trivial⟩
         ·intro cv;refine BI dk (fun ew ex=>?_) (fun ew ey=>?_)
          ·obtain⟨ez,eA,eB⟩:=bs ex;refine zg 6 rfl (B8 0 (Tt (b8.Ai (a8.Ac bb)) eA) rfl rfl (AV func183 rfl) cb rfl ?_);rintro _ eC _ cw ⟨f205,rfl,rfl,cy⟩ cz;refine JL.done (BI eB (fun eD eE=>?_) (fun eD eF=>?_))
           ·obtain rfl:=oi eE;have eG:=elim_inl cc;obtain rfl:=oi eG;have eH:=elim_inl bo;obtain rfl:=oi eH;obtain rfl:=b2 _ a5;have eI:=elim_inl b0;obtain rfl:=oi eI;exact AB func162 rfl rfl (bZ ((((((bi.Ac av).Ac a7).Ac b6).Ac a8).Ac bb).Ac cw) rfl ⟨f205,rfl,(by first | rfl | simp | (simp [Value.cells])),cy⟩ cz)
           ·exact JL.skip (Ay (cv _ _ ⟨ez.2,eC,f205,(Option.some.inj eF).symm,rfl,rfl,cw,cz,cy⟩) rfl)
          ·exact JL.skip (Ay (cv _ _ ⟨Y.2.2,a9,f84,(Option.some.inj ey).symm,rfl,rfl,Ar,cb,(b8.Ai (a8.Ac bb))⟩) rfl)
        ·intro cA;refine DU 72 dh (fun eJ eK=>?_) (fun eJ eL=>?_)
         ·refine zg 3 rfl ?_;obtain rfl:=oi eK;exact Ay (cA _ _ ⟨bw,rfl,rfl,Ar,b9⟩) rfl
         ·refine zg 3 rfl ?_;obtain rfl:=oi eL;exact Ay (cA _ _ ⟨bw,rfl,rfl,Ar,b9⟩) rfl
       ·refine DU 69 de (fun eM eN=>?_) (fun eM eO=>?_)
        ·refine zg 2 rfl ?_;obtain rfl:=oi eN;exact ca Ar b7 rfl
        ·refine zg 2 rfl ?_;obtain rfl:=oi eO;exact ca Ar b7 rfl
      ·intro cB;refine AM db (fun eP eQ=>?_) (fun eP eR=>?_)
       ·obtain⟨fs,eS,eT⟩:=bs eQ;refine zg 6 rfl (B8 0 (Tp (a4.Ai (av.Ac a7)) eS) rfl rfl (AV func182 rfl) b5 rfl ?_);rintro _ eU _ eV ⟨eW,rfl,rfl,eX⟩ eY;obtain⟨fu,eZ,e0⟩:=bs eT;refine zg 4 rfl (Cl eZ rfl rfl rfl ?_);obtain⟨fv,e1,e2⟩:=bs e0;refine zg 2 rfl (Cl e1 rfl rfl rfl ?_);obtain⟨fw,e3,e4⟩:=bs e2;refine Cl e3 rfl rfl rfl (zg 5 rfl ?_);obtain rfl:=oi e4;exact Ay (cB _ _ ⟨eU,eW,rfl,rfl,eV,eY,eX⟩) rfl
       ·refine JL.skip ?_;obtain rfl:=oi eR;exact Ay (cB _ _ ⟨b4,f22,rfl,rfl,Ar,b5,(a4.Ai (av.Ac a7))⟩) rfl
     ·refine BI c5 (fun e5 e6=>?_) (fun e5 e7=>?_)
      ·refine zg 6 rfl ?_;cases e6
      ·refine JL.skip ?_;obtain rfl:=oi e7;exact c8 Ar b1 rfl
def f133(fuel:Nat)(p0:List Bw):Option ((List Bw)):= (f163 fuel (Dl (p0.length:Int))).bind fun K=> (f162 fuel p0 0 (p0.length:Int) K).bind fun O=> some O
theorem Zn{K:Nat}{O:Nat}{U:Nat}{V:AD}{p0:List (Bw)}(hW:WL 133 CB E K O U V p0){fuel:Nat}{r:(List Bw)}(Y:f133 fuel p0=some r):AN J 133 [.slice (A0 K) U O,(fV 134)] E [(K,.cells V 133 (0,0))] (fun w E' B'=>∃(Z:AD),w= .tuple #[]∧B'= [(K,.cells Z 133 (0,0))]∧WL 133 CB E' K O U Z r):=by
 refine A3 func133 fun Q a6 cs H al am=>?_;unfold f133 at Y;refine zg 3 rfl (AF (v:=iV (p0.length:Int)) rfl (fun ρ h=>Sz (hW).2 rfl underlying130 (h _ _ rfl)) ?_);refine zg 6 rfl (AF (v:= .int .u64 ((Dl (p0.length:Int):Nat):Int)) rfl (fun ρ h=>Yl.Dl underlying3 underlying156 (h _ _ rfl)) ?_);obtain⟨a7,ap,av⟩:=bs Y;refine BH (S3 ap) rfl rfl (AV func163 rfl) al fun a8 ag a0=>?_;obtain⟨a9,a1,a2⟩:=bs av;refine zg 1 rfl (B8 0 (ZN (hW.Ai ag) a1) rfl rfl Mf a0 rfl ?_);rintro _ bb _ a3 ⟨f12,rfl,rfl,a4⟩ a5;refine JL.done ?_;obtain rfl:=oi a2;exact JL.fin (v:= .tuple #[]) rfl rfl (Cm.list func133 rfl (vs:= []) trivial) (am (ag.Ac a3) rfl ⟨f12,rfl,(by first | rfl | simp | (simp [Value.cells])),a4⟩ a5)
end Pal
namespace Pal
def A1{α:Type}(o:Option α)(Q:α→Prop):Prop:=∃a,o=some a∧Q a
section
variable {α β:Type}{Q R:α→Prop}
theorem Ak{a:α}(h:Q a):A1 (some a) Q:=⟨a,rfl,h⟩
theorem A1.Ai{o:Option α}(h:A1 o R)(k:∀a,R a→Q a):A1 o Q:=let ⟨a,K,O⟩:=h;⟨a,K,k a O⟩
theorem A1.of_eq{o:Option α}{a:α}(h:o=some a)(k:Q a):A1 o Q:=⟨a,h,k⟩
theorem AE{o:Option β}{f:β→Option α}{S:β→Prop}(h:A1 o S)(k:∀b,S b→A1 (f b) Q):A1 (o.bind f) Q:=by
 obtain⟨b,rfl,hb⟩:=h;obtain⟨a,K,O⟩:=k b hb;exact⟨a,K,O⟩
theorem AL{o:Option β}{f:β→Option α}{b:β}(h:o=some b)(k:A1 (f b) Q):A1 (o.bind f) Q:=by subst h;exact k
theorem A1.bR{f:Int→Option α}{x:Int}(K: -9223372036854775808≤x)(O:x≤9223372036854775807)(k:A1 (f x) Q):A1 ((As x).bind f) Q:=AL (if_pos ⟨K,O⟩) k
theorem Ed{xs:List β}{i:Int}{m:Nat}{b:β}(h:i=(m:Int))(hb:xs[m]? =some b):ix xs i=some b:=by subst h;simpa [ix] using hb
theorem Bp{f:β→Option α}{xs:List β}{i:Int}{m:Nat}(h:i=(m:Int))(hm:m<xs.length)(k:A1 (f xs[m]) Q):A1 ((ix xs i).bind f) Q:=AL (Ed h (List.getElem?_eq_getElem hm)) k
theorem JD{f:List β→Option α}{xs:List β}{x:β}(h:xs.length+1≤2 ^ 40)(k:A1 (f (xs++ [x])) Q):A1 ((room xs x).bind f) Q:=AL (if_pos h) k
theorem Bs{c:Prop} [Decidable c] {x y:Option α}(K:c→A1 x Q)(O:¬c→A1 y Q):A1 (if c then x else y) Q:=by
 by_cases h:c
 ·rw [if_pos h];exact K h
 ·rw [if_neg h];exact O h
theorem Bq{c:Prop} [Decidable c] {x y:Option α}(h:c)(k:A1 x Q):A1 (if c then x else y) Q:=by rw [if_pos h];exact k
theorem A6{c:Prop} [Decidable c] {x y:Option α}(h:¬c)(k:A1 y Q):A1 (if c then x else y) Q:=by rw [if_neg h];exact k
def Bd.sat{S A:Type}(I:S→Prop)(Q:A→Prop):Bd S A→Prop
 | .more s=>I s
 | .done a=>Q a
theorem ML{S:Type}{body:S→Option (Bd S α)}(I:Nat→S→Prop)(round:∀m s,I m s→A1 (body s) (Bd.sat (fun s'=>∃m',m'<m∧I m' s') Q)):
  ∀{m fuel:Nat} {s:S},I m s→m<fuel→A1 (iter body fuel s) Q:=by
 intro m
 induction m using Nat.strongRecOn with
 | _ m O=>
  intro fuel s U ag;obtain⟨fuel,rfl⟩:∃k,fuel=k+1:=⟨fuel - 1,by omega⟩;obtain⟨st,V,K⟩:=round m s U;unfold Pal.iter;rw [V];cases st with
  | more s'=>
   obtain⟨m',Y,Z⟩:=K;exact O m' Y Z (by omega)
  | done a=>exact⟨a,rfl,K⟩
end
end Pal
namespace Pal
open Go.Sort
abbrev PT:=Int×Int×(List (Int×(List Int)×Nat))
def AP(x y:PT):Bool:=decide (x.1<y.1)
theorem M5:SWO AP:=⟨fun x=>by simp [AP],fun x y z K O=>by simp [AP] at*;omega,fun x y z K O=>by simp [AP] at*;omega⟩
def KO(xs:List PT):Prop:=∀x∈xs,0≤x.1∧x.1≤1000
theorem Ll{fuel:Nat}{x y:PT}(K:0≤x.1∧x.1≤1000)(O:0≤y.1∧y.1≤1000):f134 fuel x y=some (x.1 - y.1):=by
 unfold f134;rw [show As (x.1 - y.1)=some (x.1 - y.1) from if_pos (by omega)];rfl
theorem J0(x y:PT):decide (x.1 - y.1<0)=AP x y:=by unfold AP;congr 1;apply propext;omega
theorem KO.get{xs:List PT}(h:KO xs){i:Nat}(hi:i<xs.length):0≤xs[i].1∧xs[i].1≤1000:=h _ (List.getElem_mem hi)
theorem KO.set{xs:List PT}(h:KO xs){i:Nat}{x:PT}(K:0≤x.1∧x.1≤1000):KO (xs.set i x):=fun y O=>by
 rcases List.mem_or_eq_of_mem_set O with q | q
 ·exact h y q
 ·subst q;exact K
theorem I1{xs:List PT}{i j:Nat}(hi:i<xs.length)(K:j<xs.length):((xs.set i xs[j]).set j xs[i]).toArray=swp xs.toArray i j:=by
 unfold swp;rw [show xs.toArray[j]! =xs[j] by simp [getElem!_pos,K],show xs.toArray[i]! =xs[i] by simp [getElem!_pos,hi]];simp
theorem GC{xs:List PT}{i:Nat}(hi:i<xs.length):xs.toArray[i]! =xs[i]:=by simp [getElem!_pos,hi]
section
variable {α:Type}{Q:α→Prop}
theorem AT{f:Int→Option α}{x:Int}(y:Int)(h:x=y)(K: -9223372036854775808≤y)(O:y≤9223372036854775807)(k:A1 (f y) Q):A1 ((As x).bind f) Q:=by subst h;exact A1.bR K O k
end
theorem XQ{F:Nat}(a:Nat):∀(j fuel:Nat) (xs:List PT),j<fuel→j<xs.length→xs.length<1000→KO xs→
  A1 (iter (J3 F (a:Int)) fuel ((j:Int),xs)) (fun ys=>ys.toArray=insInner AP a j xs.toArray∧KO ys∧ys.length=xs.length):=by
 intro j
 induction j with
 | zero=>
  intro fuel xs al U Z K;obtain⟨fuel,rfl⟩:∃k,fuel=k+1:=⟨fuel - 1,by omega⟩;refine⟨xs,?_,rfl,K,rfl⟩;have am:¬((a:Int)<0):=by omega
  simp [iter,J3,am]
 | succ j ap=>
  intro fuel xs al U Z K;obtain⟨fuel,rfl⟩:∃k,fuel=k+1:=⟨fuel - 1,by omega⟩;have O:j<xs.length:=by omega
  have av:A1 (J3 F (a:Int) (((j+1:Nat):Int),xs)) (fun st=>st=if(decide (j+1>a)&&AP xs[j+1] xs[j])=true then .more ((j:Int),(xs.set (j+1) xs[j]).set j xs[j+1]) else .done xs):=by
   unfold J3;refine AE (S:=fun c=>c=(decide (j+1>a)&&AP xs[j+1] xs[j])) ?_ ?_
   ·refine Bs (fun h=>?_) (fun h=>?_)
    ·have Y:a<j+1:=by simp at h;omega
     refine Bp (m:=j+1) rfl U (AT (j:Int) (by simp) (by omega) (by omega) ?_);refine Bp (m:=j) rfl O (AL (Ll (K.get U) (K.get O)) ?_);refine Ak ?_;rw [J0];simp [Y]
    ·have Y:¬a<j+1:=by simp at h;omega
     refine Ak ?_;simp [Y]
   ·rintro c rfl;refine Bs (fun h=>?_) (fun h=>?_)
    ·refine AT (j:Int) (by simp) (by omega) (by omega) (AT (j:Int) (by simp) (by omega) (by omega) ?_);refine Bp (m:=j) rfl O (Bp (m:=j+1) rfl U ?_);refine AL (b:=(xs.set (j+1) xs[j])[j]'(by simpa using O)) (Ed rfl (List.getElem?_eq_getElem _)) ?_;refine AT (j:Int) (by simp) (by omega) (by omega) (Ak ?_);rw [if_pos h];simp
    ·refine Ak ?_;rw [if_neg h]
  obtain⟨st,a0,rfl⟩:=av;unfold iter;rw [a0];have V:insInner AP a (j+1) xs.toArray=if(decide (j+1>a)&&AP xs[j+1] xs[j])=true then insInner AP a j (swp xs.toArray (j+1) j) else xs.toArray:=by
   rw [insInner,GC U,GC O]
  by_cases ag:(decide (j+1>a)&&AP xs[j+1] xs[j])=true
  ·rw [if_pos ag] at V ⊢;have a1:KO ((xs.set (j+1) xs[j]).set j xs[j+1]):=(K.set (K.get O)).set (K.get U);refine(ap fuel ((xs.set (j+1) xs[j]).set j xs[j+1]) (by omega) (by simpa using O) (by simpa using Z) a1).Ai ?_;rintro ys ⟨a2,a3,a4⟩;refine⟨?_,a3,by simpa using a4⟩;rw [a2,I1 U O,V]
  ·rw [if_neg ag] at V ⊢;exact⟨xs,rfl,V.symm,K,rfl⟩
theorem W7{F:Nat}(a b:Nat)(av:2000<F):∀(m i fuel:Nat) (xs:List PT),b - i=m→m<fuel→b≤xs.length→xs.length<1000→KO xs→
  A1 (iter (Jb F (a:Int) (b:Int)) fuel ((i:Int),xs)) (fun ys=>ys.toArray=insOuter AP a b i xs.toArray∧KO ys∧ys.length=xs.length):=by
 intro m
 induction m with
 | zero=>
  intro i fuel xs hm Y hb V O;obtain⟨fuel,rfl⟩:∃k,fuel=k+1:=⟨fuel - 1,by omega⟩;have U:¬i<b:=by omega
  have K:A1 (Jb F (a:Int) (b:Int) ((i:Int),xs)) (fun st=>st= .done xs):=by
   unfold Jb;exact A6 (show ¬(i:Int)<(b:Int) by omega) (Ak rfl)
  obtain⟨st,K,rfl⟩:=K;unfold iter;rw [K];refine⟨xs,rfl,?_,O,rfl⟩;rw [insOuter,if_neg U]
 | succ m Z=>
  intro i fuel xs hm Y hb V O;obtain⟨fuel,rfl⟩:∃k,fuel=k+1:=⟨fuel - 1,by omega⟩;have U:i<b:=by omega
  obtain⟨ys,ag,al,am,a0⟩:=XQ (F:=F) a i F xs (by omega) (by omega) V O;have K:A1 (Jb F (a:Int) (b:Int) ((i:Int),xs)) (fun st=>st= .more (((i+1:Nat):Int),ys)):=by
   unfold Jb;refine Bq (show(i:Int)<(b:Int) by omega) (AL ag ?_);exact AT ((i+1:Nat):Int) (by simp) (by omega) (by omega) (Ak rfl)
  obtain⟨st,K,rfl⟩:=K;unfold iter;rw [K];refine(Z (i+1) fuel ys (by omega) (by omega) (by omega) (by omega) am).Ai ?_;rintro a1 ⟨k1,ap,a2⟩;refine⟨?_,ap,by omega⟩;rw [k1,al,insOuter.eq_def AP a b i,if_pos U]
theorem Sk{F a b:Nat}{xs:List PT}(K:2000<F)(hb:b≤xs.length)(O:xs.length<1000)(U:KO xs)(ag:a≤b):
  A1 (f178 F xs (a:Int) (b:Int)) (fun ys=>ys.toArray=insertionSort AP xs.toArray a b∧KO ys∧ys.length=xs.length):=by
 unfold f178;refine AT ((a+1:Nat):Int) (by simp) (by omega) (by omega) (AE (W7 (F:=F) a b K (b - (a+1)) (a+1) F xs rfl (by omega) hb O U) ?_);rintro ys ⟨V,Y,Z⟩;exact⟨ys,rfl,V,Y,Z⟩
end Pal
namespace Pal
open Go.Sort
theorem Pe{F a b sw:Nat}{xs:List PT}(O:a<xs.length)(hb:b<xs.length)(hs:sw<1000)(V:xs.length<1000)(U:KO xs):
  f200 F xs (a:Int) (b:Int) (sw:Int)=some ((((order2 AP xs.toArray a b sw).1:Nat):Int),(((order2 AP xs.toArray a b sw).2.1:Nat):Int),(((order2 AP xs.toArray a b sw).2.2:Nat):Int)):=by
 have h:A1 (f200 F xs (a:Int) (b:Int) (sw:Int)) (fun r=>r=((((order2 AP xs.toArray a b sw).1:Nat):Int),(((order2 AP xs.toArray a b sw).2.1:Nat):Int),(((order2 AP xs.toArray a b sw).2.2:Nat):Int))):=by
  unfold f200;refine Bp (m:=b) rfl hb (Bp (m:=a) rfl O ?_);refine AL (Ll (U.get hb) (U.get O)) ?_;have e:order2 AP xs.toArray a b sw=if AP xs[b] xs[a] then(b,a,sw+1) else(a,b,sw):=by unfold order2;rw [GC O,GC hb]
  refine Bs (fun h=>?_) (fun h=>?_)
  ·have K:AP xs[b] xs[a]=true:=by rw [← J0];exact decide_eq_true h
   refine AT ((sw+1:Nat):Int) (by simp) (by omega) (by omega) (Ak ?_);rw [e,if_pos K]
  ·have K:¬AP xs[b] xs[a]=true:=by rw [← J0];simpa using h
   refine Ak ?_;rw [e,if_neg K]
 obtain⟨r,K,rfl⟩:=h;exact K
theorem Q2{n a b sw:Nat}{d:Array PT}(K:a<n)(hb:b<n):(order2 AP d a b sw).1<n∧(order2 AP d a b sw).2.1<n∧(order2 AP d a b sw).2.2≤sw+1:=by
 unfold order2;split
 ·exact⟨hb,K,Nat.le_refl _⟩
 ·exact⟨K,hb,Nat.le_succ _⟩
theorem Xm{F a b c sw:Nat}{xs:List PT}(U:a<xs.length)(hb:b<xs.length)(V:c<xs.length)(hs:sw<900)(K:xs.length<1000)(O:KO xs):
  f197 F xs (a:Int) (b:Int) (c:Int) (sw:Int)=some ((((median AP xs.toArray a b c sw).1:Nat):Int),(((median AP xs.toArray a b c sw).2:Nat):Int)):=by
 unfold f197 median;obtain⟨Z,Y,al⟩:=Q2 (sw:=sw) (d:=xs.toArray) U hb;rw [Pe U hb (by omega) K O];simp only [Option.bind_some];obtain⟨ag,am,ap⟩:=Q2 (sw:=(order2 AP xs.toArray a b sw).2.2) (d:=xs.toArray) Y V;rw [Pe Y V (by omega) K O];simp only [Option.bind_some];rw [Pe Z ag (by omega) K O];simp only [Option.bind_some]
def IH:Hint→Int | .unknown=>0 | .increasing=>1 | .decreasing=>2
theorem A1.quo{α:Type}{Q:α→Prop}{f:Int→Option α}{x:Int}(m k:Nat)(K:x=(m:Int))(hm:m<1000)(O:0<k)(h:A1 (f ((m / k:Nat):Int)) Q):A1 ((Hz x (k:Int)).bind f) Q:=by
 subst K;refine AL ?_ h;unfold Hz;rw [if_neg (by omega)];have e:((m:Int).tdiv (k:Int))=((m / k:Nat):Int):=by rw [Int.tdiv_eq_ediv_of_nonneg (by omega)];rfl
 have hle:m / k≤m:=Nat.div_le_self _ _;rw [e];generalize m / k=z at hle ⊢;exact if_pos (by omega)
theorem Xc{F a b:Nat}{xs:List PT}(av:a+8≤b)(a0:b<a+50)(hb:b≤xs.length)(Z:xs.length<1000)(ag:KO xs):
  f181 F xs (a:Int) (b:Int)=some ((((choosePivot AP xs.toArray a b).1:Nat):Int),IH (choosePivot AP xs.toArray a b).2):=by
 have h:A1 (f181 F xs (a:Int) (b:Int)) (fun r=>r=((((choosePivot AP xs.toArray a b).1:Nat):Int),IH (choosePivot AP xs.toArray a b).2)):=by
  unfold f181;have a1:(b - a) / 4≤b - a:=Nat.div_le_self _ _;have a2:(b - a) / 4*3<b - a:=by omega
  refine AT ((b - a:Nat):Int) (by omega) (by omega) (by omega) (A1.quo (b - a) 4 rfl (by omega) (by omega) ?_);refine AT (((b - a) / 4*1:Nat):Int) (by push_cast;rfl) (by omega) (by omega) (AT ((a+(b - a) / 4*1:Nat):Int) (by push_cast;rfl) (by omega) (by omega) ?_);refine A1.quo (b - a) 4 rfl (by omega) (by omega) (AT (((b - a) / 4*2:Nat):Int) (by push_cast;rfl) (by omega) (by omega) ?_);refine AT ((a+(b - a) / 4*2:Nat):Int) (by push_cast;rfl) (by omega) (by omega) (A1.quo (b - a) 4 rfl (by omega) (by omega) ?_);refine AT (((b - a) / 4*3:Nat):Int) (by push_cast;rfl) (by omega) (by omega) (AT ((a+(b - a) / 4*3:Nat):Int) (by push_cast;rfl) (by omega) (by omega) ?_);have al:choosePivot AP xs.toArray a b=((median AP xs.toArray (a+(b - a) / 4*1) (a+(b - a) / 4*2) (a+(b - a) / 4*3) 0).1,if(median AP xs.toArray (a+(b - a) / 4*1) (a+(b - a) / 4*2) (a+(b - a) / 4*3) 0).2=0 then .increasing else if(median AP xs.toArray (a+(b - a) / 4*1) (a+(b - a) / 4*2) (a+(b - a) / 4*3) 0).2=12 then .decreasing else .unknown):=by
   unfold choosePivot;simp only;rw [if_pos (by omega),if_neg (by omega)]
  rw [al];generalize am:median AP xs.toArray (a+(b - a) / 4*1) (a+(b - a) / 4*2) (a+(b - a) / 4*3) 0=K;refine AE (S:=fun r=>r=(((K.1:Nat):Int),((K.2:Nat):Int))) ?_ ?_
  ·refine Bq (by omega) (AE (S:=fun _=>True) (A6 (by omega) (Ak trivial)) fun _ _=>?_);have Y:=Xm (F:=F) (a:=a+(b - a) / 4*1) (b:=a+(b - a) / 4*2) (c:=a+(b - a) / 4*3) (sw:=0) (xs:=xs) (by omega) (by omega) (by omega) (by omega) Z ag;rw [am] at Y;exact AL Y (Ak rfl)
  ·rintro r rfl;refine Bs (fun h=>?_) (fun h=>?_)
   ·have O:K.2=0:=by simp at h;omega
    rw [if_pos O];exact Ak rfl
   ·have O:¬K.2=0:=by simp at h;omega
    rw [if_neg O];refine Bs (fun U=>?_) (fun U=>?_)
    ·have V:K.2=12:=by simp at U;omega
     rw [if_pos V];exact Ak rfl
    ·have V:¬K.2=12:=by simp at U;omega
     rw [if_neg V];exact Ak rfl
 obtain⟨r,ap,rfl⟩:=h;exact ap
theorem Yr{F:Nat}:∀(m i j fuel:Nat) (xs:List PT),j - i≤m→m<fuel→(i<j→j<xs.length)→i≤xs.length→j≤xs.length→xs.length<1000→KO xs→
  A1 (iter (HT F) fuel ((i:Int),(j:Int),xs)) (fun ys=>ys.toArray=reverseLoop i j xs.toArray∧KO ys∧ys.length=xs.length):=by
 intro m
 induction m with
 | zero=>
  intro i j fuel xs hm al Z hi am ag K;obtain⟨fuel,rfl⟩:∃k,fuel=k+1:=⟨fuel - 1,by omega⟩;have O:¬i<j:=by omega
  have U:A1 (HT F ((i:Int),(j:Int),xs)) (fun st=>st= .done xs):=by
   unfold HT;exact A6 (show ¬(i:Int)<(j:Int) by omega) (Ak rfl)
  obtain⟨st,hb,rfl⟩:=U;unfold iter;rw [hb];refine⟨xs,rfl,?_,K,rfl⟩;rw [reverseLoop,if_neg O]
 | succ m ap=>
  intro i j fuel xs hm al Z hi am ag K;obtain⟨fuel,rfl⟩:∃k,fuel=k+1:=⟨fuel - 1,by omega⟩;by_cases O:i<j
  ·have V:=Z O;have Y:i<xs.length:=by omega
   have U:A1 (HT F ((i:Int),(j:Int),xs)) (fun st=>st= .more (((i+1:Nat):Int),((j - 1:Nat):Int),(xs.set i xs[j]).set j xs[i])):=by
    unfold HT;refine Bq (show(i:Int)<(j:Int) by omega) (Bp (m:=j) rfl V ?_);refine Bp (m:=i) rfl Y (AT ((i+1:Nat):Int) (by simp) (by omega) (by omega) ?_);exact AT ((j - 1:Nat):Int) (by simp;omega) (by omega) (by omega) (Ak rfl)
   obtain⟨st,hb,rfl⟩:=U;unfold iter;rw [hb];refine(ap (i+1) (j - 1) fuel ((xs.set i xs[j]).set j xs[i]) (by omega) (by omega) (by simp;omega) (by simp;omega) (by simp;omega) (by simpa using ag) ((K.set (K.get V)).set (K.get Y))).Ai ?_;rintro ys ⟨av,a0,a1⟩;refine⟨?_,a0,by simpa using a1⟩;rw [av,I1 Y V,reverseLoop.eq_def i j,if_pos O]
  ·have U:A1 (HT F ((i:Int),(j:Int),xs)) (fun st=>st= .done xs):=by
    unfold HT;exact A6 (show ¬(i:Int)<(j:Int) by omega) (Ak rfl)
   obtain⟨st,hb,rfl⟩:=U;unfold iter;rw [hb];refine⟨xs,rfl,?_,K,rfl⟩;rw [reverseLoop,if_neg O]
theorem YL{F a b:Nat}{xs:List PT}(U:2000<F)(V:a<b)(hb:b≤xs.length)(K:xs.length<1000)(O:KO xs):
  A1 (f182 F xs (a:Int) (b:Int)) (fun ys=>ys.toArray=reverseRange xs.toArray a b∧KO ys∧ys.length=xs.length):=by
 unfold f182 reverseRange;refine AT ((b - 1:Nat):Int) (by omega) (by omega) (by omega) (AE (Yr (F:=F) (b - 1 - a) a (b - 1) F xs (by omega) (by omega) (by omega) (by omega) (by omega) K O) ?_);rintro ys h;exact⟨ys,rfl,h⟩
theorem YP{F b q1:Nat}{xs:List PT}(q2:Int)(hb:b≤xs.length)(ap:xs.length<1000)(Z:KO xs):∀(m i fuel:Nat),b - i≤m→m<fuel→1≤i→
  A1 (iter (I9 F (b:Int) (((q1:Nat):Int),q2,xs)) fuel (i:Int)) (fun r=>r=((scanSorted AP xs.toArray b i:Nat):Int)):=by
 intro m
 induction m with
 | zero=>
  intro i fuel hm am hi;obtain⟨fuel,rfl⟩:∃k,fuel=k+1:=⟨fuel - 1,by omega⟩;have K:¬i<b:=by omega
  have O:A1 (I9 F (b:Int) (((q1:Nat):Int),q2,xs) (i:Int)) (fun st=>st= .done (i:Int)):=by
   unfold I9;refine AE (S:=fun c=>c=false) (A6 (by omega) (Ak rfl)) ?_;rintro c rfl;exact A6 (by simp) (Ak rfl)
  obtain⟨st,U,rfl⟩:=O;unfold iter;rw [U];refine⟨_,rfl,?_⟩;rw [scanSorted,if_neg (by simp [K])]
 | succ m ag=>
  intro i fuel hm am hi;obtain⟨fuel,rfl⟩:∃k,fuel=k+1:=⟨fuel - 1,by omega⟩;by_cases K:i<b
  ·have V:i<xs.length:=by omega
   have Y:i - 1<xs.length:=by omega
   have O:A1 (I9 F (b:Int) (((q1:Nat):Int),q2,xs) (i:Int)) (fun st=>st=if(!AP xs[i] xs[i-1])=true then .more ((i+1:Nat):Int) else .done (i:Int)):=by
    unfold I9;refine AE (S:=fun c=>c= !AP xs[i] xs[i-1]) ?_ ?_
    ·refine Bq (by omega) (Bp (m:=i) rfl V ?_);refine AT ((i - 1:Nat):Int) (by omega) (by omega) (by omega) (Bp (m:=i - 1) rfl Y ?_);refine AL (Ll (Z.get V) (Z.get Y)) (Ak ?_);rw [← J0];exact decide_not
    ·rintro c rfl;refine Bs (fun h=>?_) (fun h=>?_)
     ·refine AT ((i+1:Nat):Int) (by simp) (by omega) (by omega) ?_;rw [if_pos h];exact Ak rfl
     ·rw [if_neg h];exact Ak rfl
   obtain⟨st,U,rfl⟩:=O;unfold iter;rw [U];have hs:scanSorted AP xs.toArray b i=if(!AP xs[i] xs[i-1])=true then scanSorted AP xs.toArray b (i+1) else i:=by
    rw [scanSorted.eq_def AP xs.toArray b i,GC V,GC Y];simp [K]
   by_cases al:(!AP xs[i] xs[i-1])=true
   ·rw [if_pos al] at hs ⊢;rw [hs];exact ag (i+1) fuel (by omega) (by omega) (by omega)
   ·rw [if_neg al] at hs ⊢;exact⟨_,rfl,by rw [hs]⟩
  ·exact ag i (fuel+1) (by omega) (by omega) hi
theorem XB{F a b:Nat}{xs:List PT}(ag:2000<F)(al:a<b)(am:b<a+50)(hb:b≤xs.length)(O:xs.length<1000)(U:KO xs):
  f183 F xs (a:Int) (b:Int)=some ((partialInsertionSort AP xs.toArray a b).2,xs)∧(partialInsertionSort AP xs.toArray a b).1=xs.toArray:=by
 have e:partialInsertionSort AP xs.toArray a b=if scanSorted AP xs.toArray b (a+1)=b then(xs.toArray,true) else(xs.toArray,false):=by
  unfold partialInsertionSort partialIns;simp only;split
  ·rfl
  ·rw [if_pos (by omega)]
 have h:A1 (f183 F xs (a:Int) (b:Int)) (fun r=>r=((partialInsertionSort AP xs.toArray a b).2,xs)):=by
  unfold f183;refine AT ((a+1:Nat):Int) (by simp) (by omega) (by omega) (AE (S:=fun r=>r=Sum.inl ((partialInsertionSort AP xs.toArray a b).2,xs)) ?_ ?_)
  ·obtain⟨K,rfl⟩:∃k,F=k+1:=⟨F - 1,by omega⟩;have V:A1 (M6 (K+1) (a:Int) (b:Int) (((a+1:Nat):Int),0,xs)) (fun st=>st= .done (Sum.inl ((partialInsertionSort AP xs.toArray a b).2,xs))):=by
    unfold M6;refine Bq (show(0:Int)<5 by omega) (AE (YP (F:=K+1) (q1:=a+1) 0 hb O U (b - (a+1)) (a+1) (K+1) (by omega) (by omega) (by omega)) ?_);rintro r rfl;rw [e];refine Bs (fun h=>?_) (fun h=>?_)
    ·rw [if_pos (by omega)];exact Ak rfl
    ·rw [if_neg (by omega)];exact AT ((b - a:Nat):Int) (by omega) (by omega) (by omega) (Bq (by omega) (Ak rfl))
   obtain⟨st,Y,rfl⟩:=V;unfold iter;rw [Y];exact⟨_,rfl,rfl⟩
  ·rintro r rfl;exact Ak rfl
 obtain⟨r,Z,rfl⟩:=h;refine⟨Z,?_⟩;rw [e];split <;> rfl
end Pal
namespace Pal
open Go.Sort
theorem QG{body:Int→Option (Bd Int Int)}{d:Array PT}{p:PT→Bool}{j:Nat}(V:j<900)
  (h:∀i:Nat,i≤j+2→body (i:Int)=some (if(decide (i≤j)&&p d[i]!)=true then .more ((i+1:Nat):Int) else .done (i:Int))):
  ∀(m i fuel:Nat),j+1 - i≤m→m<fuel→i≤j+2→iter body fuel (i:Int)=some ((scanUp p d j i:Nat):Int):=by
 intro m
 induction m with
 | zero=>
  intro i fuel hm O hi;obtain⟨fuel,rfl⟩:∃k,fuel=k+1:=⟨fuel - 1,by omega⟩;have K:¬(decide (i≤j)&&p d[i]!)=true:=by simp;omega
  unfold iter;rw [h i hi,if_neg K,scanUp,if_neg K]
 | succ m U=>
  intro i fuel hm O hi;obtain⟨fuel,rfl⟩:∃k,fuel=k+1:=⟨fuel - 1,by omega⟩;unfold iter;rw [h i hi,scanUp];by_cases K:(decide (i≤j)&&p d[i]!)=true
  ·rw [if_pos K,if_pos K];have:i≤j:=by simp at K;exact K.1
   exact U (i+1) fuel (by omega) (by omega) (by omega)
  ·rw [if_neg K,if_neg K]
theorem Qq{body:Int→Option (Bd Int Int)}{d:Array PT}{p:PT→Bool}{i:Nat}(hi:1≤i){n:Nat}
  (h:∀j:Nat,j<n→body (j:Int)=some (if(decide (i≤j)&&p d[j]!)=true then .more ((j - 1:Nat):Int) else .done (j:Int))):
  ∀(j fuel:Nat),j<n→j<fuel→iter body fuel (j:Int)=some ((scanDown p d i j:Nat):Int):=by
 intro j
 induction j with
 | zero=>
  intro fuel O U;obtain⟨fuel,rfl⟩:∃k,fuel=k+1:=⟨fuel - 1,by omega⟩;have K:¬(decide (i≤0)&&p d[0]!)=true:=by simp;omega
  unfold iter;rw [h 0 O,if_neg K];rfl
 | succ j V=>
  intro fuel O U;obtain⟨fuel,rfl⟩:∃k,fuel=k+1:=⟨fuel - 1,by omega⟩;unfold iter;rw [h (j+1) O,scanDown];by_cases K:(decide (i≤j+1)&&p d[j+1]!)=true
  ·rw [if_pos K,if_pos K];exact V fuel (by omega) (by omega)
  ·rw [if_neg K,if_neg K]
theorem A1.LX{α:Type}{o:Option α}{a:α}(h:A1 o (fun x=>x=a)):o=some a:=by obtain⟨x,K,rfl⟩:=h;exact K
theorem Sn{F a:Nat}{q2:Int}{j:Nat}{q1:Int}{ys:List PT}(K:a<ys.length)(Y:j<ys.length)(Z:ys.length<900)(V:KO ys)(i:Nat)(hi:i≤j+2):
  JZ F (a:Int) (q1,(j:Int),ys) (i:Int)=some (if(decide (i≤j)&&AP ys.toArray[i]! ys.toArray[a]!)=true then .more ((i+1:Nat):Int) else .done (i:Int)):=by
 refine A1.LX ?_;unfold JZ;refine AE (S:=fun c=>c=(decide (i≤j)&&AP ys.toArray[i]! ys.toArray[a]!)) ?_ ?_
 ·refine Bs (fun h=>?_) (fun h=>?_)
  ·have O:i≤j:=by simp at h;omega
   have U:i<ys.length:=by omega
   refine Bp (m:=i) rfl U (Bp (m:=a) rfl K ?_);refine AL (Ll (V.get U) (V.get K)) (Ak ?_);rw [J0,GC U,GC K];simp [O]
  ·have O:¬i≤j:=by simp at h;omega
   refine Ak ?_;simp [O]
 ·rintro c rfl;refine Bs (fun h=>?_) (fun h=>?_)
  ·refine AT ((i+1:Nat):Int) (by simp) (by omega) (by omega) ?_;rw [if_pos h];exact Ak rfl
  ·rw [if_neg h];exact Ak rfl
theorem QS{F a i:Nat}{q1 q2:Int}{ys:List PT}(O:a<ys.length)(Y:ys.length<900)(V:KO ys)(hi:1≤i)(j:Nat)(U:j<ys.length):
  JP F (a:Int) (q1,q2,ys) (i:Int) (j:Int)=some (if(decide (i≤j)&& !AP ys.toArray[j]! ys.toArray[a]!)=true then .more ((j - 1:Nat):Int) else .done (j:Int)):=by
 refine A1.LX ?_;unfold JP;refine AE (S:=fun c=>c=(decide (i≤j)&& !AP ys.toArray[j]! ys.toArray[a]!)) ?_ ?_
 ·refine Bs (fun h=>?_) (fun h=>?_)
  ·have K:i≤j:=by omega
   refine Bp (m:=j) rfl U (Bp (m:=a) rfl O ?_);refine AL (Ll (V.get U) (V.get O)) (Ak ?_);rw [GC U,GC O,← J0,← decide_not];simp [K]
  ·have K:¬i≤j:=by omega
   refine Ak ?_;simp [K]
 ·rintro c rfl;refine Bs (fun h=>?_) (fun h=>?_)
  ·have K:i≤j:=by simp at h;exact h.1
   refine AT ((j - 1:Nat):Int) (by omega) (by omega) (by omega) ?_;rw [if_pos h];exact Ak rfl
  ·rw [if_neg h];exact Ak rfl
theorem Ye{F a b:Nat}(be:2000<F)(bi:a<b):∀(m i j fuel:Nat) (ys:List PT),j+1 - i≤m→m<fuel→a<i→i≤j+2→j<b→b≤ys.length→ys.length<900→KO ys→
  A1 (iter (Ja F (a:Int)) fuel ((i:Int),(j:Int),ys)) (fun r=>r.1=(((partLoop AP a i j ys.toArray).1:Nat):Int)∧r.2.toArray=(partLoop AP a i j ys.toArray).2∧KO r.2∧r.2.length=ys.length):=by
 intro m
 induction m with
 | zero=>?_
 | succ m a2=>?_
 all_goals
  intro i j fuel ys hm bo bv a3 bw hb V U;obtain⟨fuel,rfl⟩:∃k,fuel=k+1:=⟨fuel - 1,by omega⟩;have ap:a<ys.length:=by omega
  have av:j<ys.length:=by omega
  have Y:iter (JZ F (a:Int) ((i:Int),(j:Int),ys)) F (i:Int)=some ((scanUp (fun x=>AP x ys.toArray[a]!) ys.toArray j i:Nat):Int):=
   QG (by omega) (fun a4 a5=>Sn (q2:=0) ap av V U a4 a5) (j+1 - i) i F (by omega) (by omega) a3
  have a6:=scanUp_ge (fun x=>AP x ys.toArray[a]!) ys.toArray j i;have a7:=scanUp_spec (fun x=>AP x ys.toArray[a]!) ys.toArray j _ i rfl;have O:=partLoop_eq AP a i j ys.toArray;generalize bU:scanUp (fun x=>AP x ys.toArray[a]!) ys.toArray j i=i2 at Y a6 a7 O;have Z:iter (JP F (a:Int) ((i:Int),(j:Int),ys) (i2:Int)) F (j:Int)=some ((scanDown (fun x=> !AP x ys.toArray[a]!) ys.toArray i2 j:Nat):Int):=
   Qq (n:=ys.length) (by omega) (fun a8 a9=>QS ap V U (by omega) a8 a9) j F av (by omega)
  have hle:=scanDown_le (fun x=> !AP x ys.toArray[a]!) ys.toArray i2 j;generalize bV:scanDown (fun x=> !AP x ys.toArray[a]!) ys.toArray i2 j=K at Z hle O;by_cases a0:i2>K
  ·have ag:Ja F (a:Int) ((i:Int),(j:Int),ys)=some (.done ((K:Int),ys)):=by
    refine A1.LX ?_;unfold Ja;refine AL Y (AL Z ?_);exact Bq (by omega) (Ak rfl)
   unfold iter;rw [ag];rw [if_pos a0] at O;exact⟨_,rfl,by rw [O],by rw [O],U,rfl⟩
  ·first
    | (exfalso;omega)
    | (
     have al:i2<ys.length:=by omega
     have am:K<ys.length:=by omega
     have ag:Ja F (a:Int) ((i:Int),(j:Int),ys)=some (.more (((i2+1:Nat):Int),((K - 1:Nat):Int),(ys.set i2 ys[K]).set K ys[i2])):=by
      refine A1.LX ?_
      unfold Ja
      refine AL Y ?_
      refine AL Z ?_
      refine A6 (by omega) ?_
      refine Bp (m:=K) rfl am ?_
      refine Bp (m:=i2) rfl al ?_
      refine AT ((i2+1:Nat):Int) (by simp) (by omega) (by omega) ?_
      refine AT ((K - 1:Nat):Int) (by omega) (by omega) (by omega) ?_
      exact Ak rfl
     unfold iter;rw [ag]
     rw [if_neg a0] at O
     refine(a2 (i2+1) (K - 1) fuel ((ys.set i2 ys[K]).set K ys[i2]) (by omega) (by omega) (by omega) (by omega) (by omega) (by simpa using hb) (by simpa using V) ((U.set (U.get am)).set (U.get al))).Ai ?_
     rintro r ⟨k1,a1,bb,bd⟩
     rw [I1 al am,← O] at k1 a1
     exact⟨k1,a1,bb,by simpa using bd⟩)
theorem Wn{F a:Nat}{j p3:Nat}{xs ys:List PT}{K O:PT}(he:(xs.set a K).set p3 O=ys)(U:a<ys.length)(V:j<ys.length)(Y:ys.length<900)(Z:KO ys)(i:Nat)(hi:i≤j+2):
  Lf F xs (a:Int) (p3:Int) K O (j:Int) (i:Int)=some (if(decide (i≤j)&&AP ys.toArray[i]! ys.toArray[a]!)=true then .more ((i+1:Nat):Int) else .done (i:Int)):=by
 rw [← Sn (F:=F) (q1:=0) (q2:=0) U V Y Z i hi];unfold Lf JZ;simp only [Int.toNat_natCast,he]
theorem UU{F a i p3:Nat}{xs ys:List PT}{K O:PT}(he:(xs.set a K).set p3 O=ys)(U:a<ys.length)(V:ys.length<900)(Y:KO ys)(hi:1≤i)(j:Nat)(Z:j<ys.length):
  Lh F xs (a:Int) (p3:Int) K O (i:Int) (j:Int)=some (if(decide (i≤j)&& !AP ys.toArray[j]! ys.toArray[a]!)=true then .more ((j - 1:Nat):Int) else .done (j:Int)):=by
 rw [← QS (F:=F) (q1:=0) (q2:=0) U V Y hi j Z];unfold Lh JP;simp only [Int.toNat_natCast,he]
theorem Us(a:Nat):∀(n i j:Nat) (d:Array PT),j+1 - i≤n→(partLoop AP a i j d).1≤j:=by
  intro n
  induction n with
  | zero=>?_
  | succ n V=>?_
  all_goals
    intro i j d Z;have K:=partLoop_eq AP a i j d;have Y:=scanUp_ge (fun x=>AP x d[a]!) d j i;generalize ag:scanUp (fun x=>AP x d[a]!) d j i=i2 at Y K;have hle:=scanDown_le (fun x=> !AP x d[a]!) d i2 j;generalize al:scanDown (fun x=> !AP x d[a]!) d i2 j=O at hle K;by_cases U:i2>O
    ·rw [K,if_pos U];exact hle
    ·first
        | (exfalso;omega)
        | (rw [K,if_neg U]
           have:=V (i2+1) (O - 1) (swp d i2 O) (by omega)
           omega)
theorem YD{F a b pv:Nat}(a8:2000<F){xs:List PT}(bV:a≤pv)(bW:pv<b)(hb:b≤xs.length)(bY:xs.length<900)(al:KO xs):
  A1 (f185 F xs (a:Int) (b:Int) (pv:Int)) (fun r=>r.1=(((partition AP xs.toArray a b pv).1:Nat):Int)∧r.2.1=(partition AP xs.toArray a b pv).2.1∧r.2.2.toArray=(partition AP xs.toArray a b pv).2.2∧KO r.2.2∧r.2.2.length=xs.length):=by
 have am:a<xs.length:=by omega
 have ap:pv<xs.length:=by omega
 obtain⟨ys,V⟩:∃ys,(xs.set a xs[pv]).set pv xs[a]=ys:=⟨_,rfl⟩;have O:KO ys:=by rw [← V];exact(al.set (al.get ap)).set (al.get am)
 have a5:ys.length=xs.length:=by rw [← V];simp
 have a9:ys.toArray=swp xs.toArray a pv:=by rw [← V,I1 am ap]
 have Z:a<ys.length:=by omega
 have a6:b - 1<ys.length:=by omega
 unfold f185;refine Bp (m:=pv) rfl ap (Bp (m:=a) rfl am ?_);refine AT ((a+1:Nat):Int) (by simp) (by omega) (by omega) (AT ((b - 1:Nat):Int) (by omega) (by omega) (by omega) ?_);have bb:iter (Lf F xs (a:Int) (pv:Int) xs[pv] xs[a] ((b - 1:Nat):Int)) F ((a+1:Nat):Int)=some ((scanUp (fun x=>AP x ys.toArray[a]!) ys.toArray (b - 1) (a+1):Nat):Int):=
  QG (by omega) (fun bd be=>Wn V Z a6 (by omega) O bd be) (b - 1+1 - (a+1)) (a+1) F (by omega) (by omega) (by omega)
 refine AL bb ?_;have bi:=scanUp_ge (fun x=>AP x ys.toArray[a]!) ys.toArray (b - 1) (a+1);have U:partition AP xs.toArray a b pv=if scanUp (fun x=>AP x ys.toArray[a]!) ys.toArray (b - 1) (a+1)>scanDown (fun x=> !AP x ys.toArray[a]!) ys.toArray (scanUp (fun x=>AP x ys.toArray[a]!) ys.toArray (b - 1) (a+1)) (b - 1) then
   (scanDown (fun x=> !AP x ys.toArray[a]!) ys.toArray (scanUp (fun x=>AP x ys.toArray[a]!) ys.toArray (b - 1) (a+1)) (b - 1),true,swp ys.toArray (scanDown (fun x=> !AP x ys.toArray[a]!) ys.toArray (scanUp (fun x=>AP x ys.toArray[a]!) ys.toArray (b - 1) (a+1)) (b - 1)) a) else
   ((partLoop AP a (scanUp (fun x=>AP x ys.toArray[a]!) ys.toArray (b - 1) (a+1)+1) (scanDown (fun x=> !AP x ys.toArray[a]!) ys.toArray (scanUp (fun x=>AP x ys.toArray[a]!) ys.toArray (b - 1) (a+1)) (b - 1) - 1) (swp ys.toArray (scanUp (fun x=>AP x ys.toArray[a]!) ys.toArray (b - 1) (a+1)) (scanDown (fun x=> !AP x ys.toArray[a]!) ys.toArray (scanUp (fun x=>AP x ys.toArray[a]!) ys.toArray (b - 1) (a+1)) (b - 1)))).1,false,
    swp (partLoop AP a (scanUp (fun x=>AP x ys.toArray[a]!) ys.toArray (b - 1) (a+1)+1) (scanDown (fun x=> !AP x ys.toArray[a]!) ys.toArray (scanUp (fun x=>AP x ys.toArray[a]!) ys.toArray (b - 1) (a+1)) (b - 1) - 1) (swp ys.toArray (scanUp (fun x=>AP x ys.toArray[a]!) ys.toArray (b - 1) (a+1)) (scanDown (fun x=> !AP x ys.toArray[a]!) ys.toArray (scanUp (fun x=>AP x ys.toArray[a]!) ys.toArray (b - 1) (a+1)) (b - 1)))).2
     (partLoop AP a (scanUp (fun x=>AP x ys.toArray[a]!) ys.toArray (b - 1) (a+1)+1) (scanDown (fun x=> !AP x ys.toArray[a]!) ys.toArray (scanUp (fun x=>AP x ys.toArray[a]!) ys.toArray (b - 1) (a+1)) (b - 1) - 1) (swp ys.toArray (scanUp (fun x=>AP x ys.toArray[a]!) ys.toArray (b - 1) (a+1)) (scanDown (fun x=> !AP x ys.toArray[a]!) ys.toArray (scanUp (fun x=>AP x ys.toArray[a]!) ys.toArray (b - 1) (a+1)) (b - 1)))).1 a):=by
  rw [a9];rfl
 generalize bZ:scanUp (fun x=>AP x ys.toArray[a]!) ys.toArray (b - 1) (a+1)=i2 at bi U ⊢;have bo:iter (Lh F xs (a:Int) (pv:Int) xs[pv] xs[a] (i2:Int)) F ((b - 1:Nat):Int)=some ((scanDown (fun x=> !AP x ys.toArray[a]!) ys.toArray i2 (b - 1):Nat):Int):=
  Qq (n:=ys.length) (by omega) (fun bv bw=>UU V Z (by omega) O (by omega) bv bw) (b - 1) F a6 (by omega)
 refine AL bo ?_;have hle:=scanDown_le (fun x=> !AP x ys.toArray[a]!) ys.toArray i2 (b - 1);generalize b0:scanDown (fun x=> !AP x ys.toArray[a]!) ys.toArray i2 (b - 1)=K at hle U ⊢;have Y:K<ys.length:=by omega
 simp only [Int.toNat_natCast,V];refine Bs (fun h=>?_) (fun h=>?_)
 ·have av:i2>K:=by omega
  rw [if_pos av] at U;refine Bp (m:=a) rfl Z (Bp (m:=K) rfl Y ?_);refine Ak ?_;rw [U];exact⟨rfl,rfl,I1 Y Z,(O.set (O.get Z)).set (O.get Y),by simp [a5]⟩
 ·have av:¬i2>K:=by omega
  have a0:i2<ys.length:=by omega
  rw [if_neg av] at U;refine Bp (m:=K) rfl Y (Bp (m:=i2) rfl a0 ?_);refine AT ((i2+1:Nat):Int) (by simp) (by omega) (by omega) (AT ((K - 1:Nat):Int) (by omega) (by omega) (by omega) ?_);refine AE (Ye (F:=F) a8 (show a<b by omega) (K - 1+1 - (i2+1)) (i2+1) (K - 1) F ((ys.set i2 ys[K]).set K ys[i2]) (by omega) (by omega) (by omega) (by omega) (by omega) (by simp;omega) (by simp;omega) ((O.set (O.get Y)).set (O.get a0))) ?_;rintro r ⟨k1,a1,ag,a7⟩;rw [I1 a0 Y] at k1 a1;have bU:=Us a _ (i2+1) (K - 1) (swp ys.toArray i2 K) (Nat.le_refl _);obtain⟨b1,a2⟩:=r;simp only at k1 a1 ag a7 ⊢;subst k1;rw [← a1] at U;have hlen:a2.length=ys.length:=by simpa using a7
  generalize (partLoop AP a (i2+1) (K - 1) (swp ys.toArray i2 K)).1=pm at bU U ⊢;have a3:pm<a2.length:=by omega
  have a4:a<a2.length:=by omega
  refine Bp (m:=a) rfl a4 (Bp (m:=pm) rfl a3 ?_);refine Ak ?_;rw [U];exact⟨rfl,rfl,I1 a3 a4,(ag.set (ag.get a4)).set (ag.get a3),by simp [hlen,a5]⟩
end Pal
namespace Pal
open Go.Sort
theorem XX(F:Nat):∀n:Nat,n<13→∃l,f163 F (Dl (n:Int))=some l:=by
 intro n K
 match n,K with
 | 0,_=>exact⟨_,rfl⟩
 | 1,_=>exact⟨_,rfl⟩
 | 2,_=>exact⟨_,rfl⟩
 | 3,_=>exact⟨_,rfl⟩
 | 4,_=>exact⟨_,rfl⟩
 | 5,_=>exact⟨_,rfl⟩
 | 6,_=>exact⟨_,rfl⟩
 | 7,_=>exact⟨_,rfl⟩
 | 8,_=>exact⟨_,rfl⟩
 | 9,_=>exact⟨_,rfl⟩
 | 10,_=>exact⟨_,rfl⟩
 | 11,_=>exact⟨_,rfl⟩
 | 12,_=>exact⟨_,rfl⟩
 | n+13,h=>omega
theorem Wr(F:Nat):f163 F (Dl ((13:Nat):Int))=some 4:=rfl
def Is(xs:List PT)(d:Array PT)(ys:List PT):Prop:=ys.toArray=d∧KO ys∧ys.length=xs.length
theorem Qy{F a b:Nat}{l:Int}{xs:List PT}(K:2000<F)(O:a≤b)(ap:b≤a+12)(hb:b≤xs.length)(av:xs.length<900)(U:KO xs):
  A1 (IF F xs (a:Int) (b:Int) l) (Is xs (insertionSort AP xs.toArray a b)):=by
 unfold IF;refine AE (S:=fun r=>∃ys,r=Sum.inl ys∧Is xs (insertionSort AP xs.toArray a b) ys) ?_ ?_
 ·obtain⟨V,rfl⟩:∃k,F=k+1:=⟨F - 1,by omega⟩;obtain⟨ys,Y,Z,ag,al⟩:=Sk K hb (by omega) U O;have am:MG (V+1) xs (a:Int) (b:Int) l ()=some (.done (Sum.inl ys)):=by
   refine A1.LX ?_;unfold MG;refine AT ((b - a:Nat):Int) (by omega) (by omega) (by omega) (Bq (by omega) ?_);exact AL Y (Ak rfl)
  unfold iter;rw [am];exact⟨_,rfl,ys,rfl,Z,ag,al⟩
 ·rintro r ⟨ys,rfl,h⟩;exact Ak h
theorem OE{F a b:Nat}{l:Int}{wb wp:Bool}{xs:List PT}(K:2000<F)(O:a≤b)(al:b≤a+12)(hb:b≤xs.length)(am:xs.length<900)(U:KO xs):
  A1 (Hr F l ((a:Int),(b:Int),wb,wp,xs)) (fun st=>∃ys,st= .done (Sum.inl ys)∧Is xs (insertionSort AP xs.toArray a b) ys):=by
 obtain⟨ys,V,Y,Z,ag⟩:=Sk K hb (by omega) U O;unfold Hr;refine AE (S:=fun r=>r=Sum.inl ys) ?_ ?_
 ·refine AT ((b - a:Nat):Int) (by dsimp only;omega) (by omega) (by omega) (Bq (by omega) ?_);exact AL V (Ak rfl)
 ·rintro r rfl;exact Ak ⟨ys,rfl,Y,Z,ag⟩
theorem UH{F n:Nat}{l:Int}{xs:List PT}(O:2000<F)(ag:n=xs.length)(al:n≤12)(U:KO xs):
  A1 (f162 F xs 0 (n:Int) l) (Is xs (insertionSort AP xs.toArray 0 n)):=by
 unfold f162;refine AE (S:=fun r=>∃ys,r=Sum.inl ys∧Is xs (insertionSort AP xs.toArray 0 n) ys) ?_ ?_
 ·obtain⟨K,rfl⟩:∃k,F=k+1:=⟨F - 1,by omega⟩;obtain⟨st,V,ys,rfl,Y⟩:=OE (F:=K+1) (a:=0) (b:=n) (l:=l) (wb:=true) (wp:=true) (xs:=xs) O (by omega) (by omega) (by omega) (by omega) U;have Z:Hr (K+1) l (0,(n:Int),true,true,xs)=some (.done (Sum.inl ys)):=V;unfold iter;rw [Z];exact⟨_,rfl,ys,rfl,Y⟩
 ·rintro r ⟨ys,rfl,h⟩;exact Ak h
theorem Wu{S A:Type}{body:S→Option (Bd S A)}{F:Nat}{s s':S}(h:body s=some (.more s')){Q:A→Prop}(k:A1 (iter body F s') Q):A1 (iter body (F+1) s) Q:=by
 unfold iter;rw [h];exact k
theorem Wz{S A:Type}{body:S→Option (Bd S A)}{F:Nat}{s:S}{Q:A→Prop}(h:A1 (body s) (fun st=>∃a,st= .done a∧Q a)):A1 (iter body (F+1) s) Q:=by
 obtain⟨st,K,a,rfl,O⟩:=h;unfold iter;rw [K];exact⟨a,rfl,O⟩
set_option maxHeartbeats 1000000 in
theorem Xw{F:Nat}{xs:List PT}(cA:3000<F)(b2:xs.length=13)(a7:KO xs):
  A1 (f162 F xs 0 ((13:Nat):Int) 4) (Is xs (pdq AP xs.toArray 0 13 4 true true)):=by
 have b3:xs.toArray.size=13:=by simpa using b2
 obtain⟨s1,B1,cB,s2,cC,a8,cD,cE⟩:=rd_facts (lt:=AP) (d:=xs.toArray) (a:=0) (b:=13) (limit:=4) (wb:=true) (wp:=true) M5 partialInsertionSort_holds reverseRange_holds (by omega) (by rw [b3];omega) (.inl rfl);have a9:¬(13 - 0≤12):=by omega
 have bU:=Xc (F:=F) (a:=0) (b:=13) (xs:=xs) (by omega) (by omega) (by omega) (by omega) a7;have b4:choosePivot AP xs.toArray 0 13=(rd AP xs.toArray 0 13 4 true true).c:=rfl;rw [b4] at bU;generalize K:rd AP xs.toArray 0 13 4 true true=R at*;have b5:R.lim=4:=by rw [← K];rfl
 have b6:R.c.2= .decreasing→R.d2=reverseRange xs.toArray 0 13∧R.pivot=(13 - 1) - (R.c.1 - 0)∧R.hint= .increasing:=by
  intro h;rw [← K] at h ⊢;exact rd_dec h
 have b7:R.c.2≠ .decreasing→R.d2=xs.toArray∧R.pivot=R.c.1∧R.hint=R.c.2:=by
  intro h;rw [← K] at h ⊢;exact rd_not h
 have b8:R.hint= .increasing→R.pi=partialInsertionSort AP R.d2 0 13:=by
  intro h;rw [← K] at h ⊢;exact rd_pi_yes (by simp [h])
 have b9:R.hint≠ .increasing→R.pi=(R.d2,false):=by
  intro h;rw [← K] at h ⊢;exact rd_pi_no (by simp [h])
 have ca:A1 (if IH R.c.2=2 then(f182 F xs 0 ((13:Nat):Int)).bind fun cb=>(As (((13:Nat):Int) - 1)).bind fun cc=>(As (((R.c.1:Nat):Int) - 0)).bind fun cd=>(As (cc - cd)).bind fun ce=>some (ce,(1:Int),cb) else some (((R.c.1:Nat):Int),IH R.c.2,xs))
   (fun q=>q.1=((R.pivot:Nat):Int)∧q.2.1=IH R.hint∧Is xs R.d2 q.2.2):=by
  by_cases a1:R.c.2= .decreasing
  ·obtain⟨am,ap,Y⟩:=b6 a1;refine Bq (by rw [a1];rfl) (AE (YL (F:=F) (a:=0) (b:=13) (xs:=xs) (by omega) (by omega) (by omega) (by omega) a7) ?_);rintro ys ⟨k1,U,V⟩;refine AT 12 (by omega) (by omega) (by omega) (AT ((R.c.1:Nat):Int) (by omega) (by omega) (by omega) ?_);refine AT ((12 - R.c.1:Nat):Int) (by omega) (by omega) (by omega) (Ak ⟨?_,?_,?_,U,V⟩)
   ·rw [ap];rfl
   ·rw [Y];rfl
   ·rw [am];exact k1
  ·obtain⟨am,ap,Y⟩:=b7 a1;refine A6 (by intro h;cases bb:R.c.2 <;> rw [bb] at h a1 <;> first | (exact a1 rfl) | (cases h)) ?_
   refine Ak ⟨?_,?_,?_,a7,rfl⟩
   ·rw [ap]
   ·rw [Y]
   ·rw [am]
 unfold f162;refine AE (S:=fun r=>∃ys,r=Sum.inl ys∧Is xs (pdq AP xs.toArray 0 13 4 true true) ys) ?_ (by rintro r ⟨ys,rfl,h⟩;exact Ak h);have cf:∀(Z:List PT),Is xs R.pi.1 Z→R.pi.2=false→
   A1 ((f185 F Z 0 ((13:Nat):Int) ((R.pivot:Nat):Int)).bind fun O=>(As (O.1 - 0)).bind fun bV=>(As (((13:Nat):Int) - O.1)).bind fun bW=>(Hz (13:Int) (8)).bind fun bY=>
     Option.bind (
      if bV<bW then(
       (IF F O.2.2 0 O.1 4).bind fun cg=>
       (As (O.1+1)).bind fun ci=>
       some (ci,((13:Nat):Int),decide (bY≤bV),cg)
      ) else(
       (As (O.1+1)).bind fun ck=>
       (IF F O.2.2 ck ((13:Nat):Int) 4).bind fun cm=>
       some ((0:Int),O.1,decide (bY≤bW),cm)
      )
     ) fun a5=>
     some (a5.1,a5.2.1,a5.2.2.1,O.2.1,a5.2.2.2))
    (fun st=>A1 (Hr F 4 st) (fun q=>∃a,q= .done a∧∃ys,a=Sum.inl ys∧Is xs (pdq AP xs.toArray 0 13 4 true true) ys)):=by
  intro Z cn bZ;obtain⟨z1,co,cF⟩:=cn;have cG:Z.length=13:=by omega
  refine AE (YD (F:=F) (a:=0) (b:=13) (pv:=R.pivot) (xs:=Z) (by omega) (by omega) a8.2 (by omega) (by omega) co) ?_;rw [z1];have ag:=partition_holds AP M5 R.pi.1 0 13 R.pivot a8.1 a8.2 (by omega);have a2:=fun bd=>pdq_left (lt:=AP) (d:=xs.toArray) (a:=0) (b:=13) (limit:=4) (wb:=true) (wp:=true) a9 (by omega) (by rw [K];exact bZ) (by simp) (by rw [K];exact⟨ag.1,ag.2.1⟩) bd;have a3:=fun bd=>pdq_right (lt:=AP) (d:=xs.toArray) (a:=0) (b:=13) (limit:=4) (wb:=true) (wp:=true) a9 (by omega) (by rw [K];exact bZ) (by simp) (by rw [K];exact⟨ag.1,ag.2.1⟩) bd;rw [K] at a2 a3;rw [b5] at a2 a3;generalize partition AP R.pi.1 0 13 R.pivot=PA at ag a2 a3 ⊢;obtain⟨m,cH,d4⟩:=PA;rintro⟨cI,cp,al⟩ ⟨k1,U,V,be,cq⟩;simp only at k1 U V be cq ag a2 a3 ⊢;subst k1 U;have hm:m<13:=ag.2.1;have cJ:al.length=13:=by omega
  refine AT (m:Int) (by omega) (by omega) (by omega) (AT ((13 - m:Nat):Int) (by omega) (by omega) (by omega) ?_);refine AL (b:=1) rfl ?_;by_cases b0:m - 0<13 - m
  ·refine AE (S:=fun q=>∃us,q=(((m+1:Nat):Int),((13:Nat):Int),decide ((1:Int)≤(m:Int)),us)∧Is al (insertionSort AP al.toArray 0 m) us) ?_ ?_
   ·refine Bq (by omega) (AE (Qy (F:=F) (a:=0) (b:=m) (l:=4) (xs:=al) (by omega) (by omega) (by omega) (by omega) (by omega) be) ?_);intro us bi;exact AT ((m+1:Nat):Int) (by simp) (by omega) (by omega) (Ak ⟨us,rfl,bi⟩)
   ·rintro q ⟨us,rfl,u1,u2,cr⟩;refine Ak ?_;refine(OE (F:=F) (a:=m+1) (b:=13) (l:=4) (xs:=us) (by omega) (by omega) (by omega) (by omega) (by omega) u2).Ai ?_;rintro st ⟨ys,rfl,v1,v2,ct⟩;refine⟨_,rfl,ys,rfl,?_,v2,by omega⟩;rw [v1,u1,V,a2 b0,pdq_small (by omega),pdq_small (by omega)]
  ·refine AE (S:=fun q=>∃us,q=((0:Int),(m:Int),decide ((1:Int)≤((13 - m:Nat):Int)),us)∧Is al (insertionSort AP al.toArray (m+1) 13) us) ?_ ?_
   ·refine A6 (by omega) (AT ((m+1:Nat):Int) (by simp) (by omega) (by omega) ?_);refine AE (Qy (F:=F) (a:=m+1) (b:=13) (l:=4) (xs:=al) (by omega) (by omega) (by omega) (by omega) (by omega) be) ?_;intro us bi;exact Ak ⟨us,rfl,bi⟩
   ·rintro q ⟨us,rfl,u1,u2,cr⟩;refine Ak ?_;have:=OE (F:=F) (a:=0) (b:=m) (l:=4) (wb:=decide ((1:Int)≤((13 - m:Nat):Int))) (wp:=cp) (xs:=us) (by omega) (by omega) (by omega) (by omega) (by omega) u2;refine A1.Ai this ?_;rintro st ⟨ys,rfl,v1,v2,ct⟩;refine⟨_,rfl,ys,rfl,?_,v2,by omega⟩;rw [v1,u1,V,a3 b0,pdq_small (by omega),pdq_small (by omega)]
 have cu:A1 (Hr F 4 (0,((13:Nat):Int),true,true,xs)) (fun st=>(∃a,st= .done a∧∃ys,a=Sum.inl ys∧Is xs (pdq AP xs.toArray 0 13 4 true true) ys)∨
   ∃s',st= .more s'∧A1 (Hr F 4 s') (fun q=>∃a,q= .done a∧∃ys,a=Sum.inl ys∧Is xs (pdq AP xs.toArray 0 13 4 true true) ys)):=by
  unfold Hr;refine AE (S:=fun r=>(∃ys,r=Sum.inl ys∧Is xs (pdq AP xs.toArray 0 13 4 true true) ys)∨∃s',r=Sum.inr s'∧A1 (Hr F 4 s') (fun q=>∃a,q= .done a∧∃ys,a=Sum.inl ys∧Is xs (pdq AP xs.toArray 0 13 4 true true) ys)) ?_ ?_
  ·refine AT 13 (by dsimp only;omega) (by omega) (by omega) (A6 (by omega) ?_);refine A6 (by omega) (AE (S:=fun _=>True) (A6 (by simp) (Ak trivial)) fun _ _=>?_);refine AL bU (AE ca ?_);rintro⟨q1,q2,av⟩ ⟨am,ap,Y⟩;simp only at am ap Y ⊢;subst am ap;refine AL (b:=true) (by simp) (AL (b:=decide (IH R.hint=1)) (by simp) ?_);have cv:A1 (if(decide (IH R.hint=1))=true then(f183 F av 0 ((13:Nat):Int)).bind fun bo=>if bo.1=true then some (Sum.inl bo.2) else some (Sum.inr bo.2) else some (Sum.inr av))
     (fun r=>(R.pi.2=true∧∃ys,r=Sum.inl ys∧Is xs R.pi.1 ys)∨(R.pi.2=false∧∃ys,r=Sum.inr ys∧Is xs R.pi.1 ys)):=by
    by_cases hh:R.hint= .increasing
    ·refine Bq (by rw [hh];rfl) ?_;obtain⟨k1,U,V⟩:=Y;obtain⟨bv,g2⟩:=XB (F:=F) (a:=0) (b:=13) (xs:=av) (by omega) (by omega) (by omega) (by omega) (by omega) U;rw [k1] at bv g2;rw [← b8 hh] at bv g2;refine AL bv (Bs (fun h=>?_) (fun h=>?_))
     ·exact Ak (.inl ⟨h,av,rfl,by rw [g2];exact k1,U,V⟩)
     ·exact Ak (.inr ⟨by simpa using h,av,rfl,by rw [g2];exact k1,U,V⟩)
    ·refine A6 (by intro h;cases bb:R.hint <;> rw [bb] at h hh <;> first | (exact hh rfl) | (simp [IH] at h)) ?_
     rw [b9 hh];exact Ak (.inr ⟨rfl,av,rfl,Y⟩)
   refine AE cv ?_;rintro r (⟨p2,ys,rfl,bw⟩ | ⟨p2,Z,rfl,cw⟩)
   ·refine Ak (.inl ⟨ys,rfl,?_⟩);rw [pdq_done a9 (by omega) (by rw [K];exact p2),K];exact bw
   ·rw [Sum.elim_inr];refine AE (S:=fun c=>c=false) (A6 (by omega) (Ak rfl)) ?_;rintro c rfl;refine A6 (by simp) ?_;obtain⟨s',a0,a4⟩:=cf Z cw p2;have cK:∀{α β:Type} (o:Option α) (f:α→Option β) (g:β→(List PT)⊕(Int×Int×Bool×Bool×List PT)),True:=fun _ _ _=>trivial;refine A1.of_eq (a:=Sum.inr s') ?_ (.inr ⟨s',rfl,a4⟩);have key:∀(o:Option (Int×Int×Bool×Bool×List PT)),o=some s'→(o.bind fun x=>some (Sum.inr x:List PT⊕(Int×Int×Bool×Bool×List PT)))=some (Sum.inr s'):=fun o cy=>by rw [cy];rfl
    refine Eq.trans ?_ (key _ a0);simp only [Option.bind_assoc,Option.bind_some]
  ·rintro r (⟨ys,rfl,bw⟩ | ⟨s',rfl,cz⟩)
   ·exact Ak (.inl ⟨_,rfl,ys,rfl,bw⟩)
   ·exact Ak (.inr ⟨s',rfl,cz⟩)
 obtain⟨cM,b1⟩:∃k,F=k+2:=⟨F - 2,by omega⟩;obtain⟨st,a0,a4 | a4⟩:=cu
 ·obtain⟨a,rfl,a6⟩:=a4;rw [b1] at a0 ⊢;unfold iter;rw [a0];exact⟨a,rfl,a6⟩
 ·obtain⟨s',rfl,a6⟩:=a4;rw [b1] at a0 a6 ⊢;exact Wu a0 (Wz a6)
end Pal
namespace Pal
open Go Go.Conc Go.Proofs
open Go.Proofs.Tryz
variable {J:Judge Tryz.prog}{E:LH}
def RS(fuel:Nat)(p1:Int)(K:Int)(U:Unit):Option (Bd Unit Unit):= Option.bind (if p1<K then(none) else(some false)) fun O=> if O=true then((As (K - 1)).bind fun V=> (As (K - 1)).bind fun Y=> none) else(some (.done ()))
def R0(fuel:Nat)(p1:Int)(p2:Int)(K:Int):Option (Bd Int Unit):= if K<p2 then(Option.bind (iter (RS fuel p1 K) fuel ()) fun U=> (As (K+1)).bind fun O=> some (.more O)) else(some (.done ()))
def PY(fuel:Nat)(p1:Int)(p2:Int):Option Unit:= (As (p1+1)).bind fun K=> Option.bind (iter (R0 fuel p1 p2) fuel K) fun O=> some ()
theorem Yn{p1:Int}{p2:Int}{fuel:Nat}{r:Unit}(V:PY fuel p1 p2=some r):AN J 178 [nS,iV p1,iV p2,(fV 134)] E [] (fun w E' B'=>w= .tuple #[]∧B'= []):=by
 refine A3 func178 fun Q cm cs H a2 a3=>?_;unfold PY at V;obtain⟨cn,a4,a5⟩:=bs V;refine zg 3 rfl (Ba a4 rfl rfl rfl ?_);obtain⟨co,a6,a7⟩:=bs a5;refine zg 2 rfl (CK [] [] (fun cp a8 a9=>?_) (fun bb=>?_))
 ·obtain rfl:=oi a7;exact JL.fin (v:= .tuple #[]) rfl rfl (Cm.list func178 rfl (vs:= []) trivial) (a3 a8 rfl ⟨rfl,rfl⟩ a9)
 ·refine JL.block (Cp a6 (fun K=> []) (fun K=> [(0,.slice none 0 0),(1,iV p1),(2,iV p2),(3,(fV 134)),(8,iV K)]) Ar a2 ?_);rintro K cq Y Z bd ⟨cr,O⟩ be;have ag:=O;unfold R0 at ag;refine zg 7 rfl (AM ag (fun bi bo=>?_) (fun bi bv=>?_))
  ·obtain⟨ct,bw,bU⟩:=bs bo;refine zg 8 rfl (CK [] [(0,.slice none 0 0),(1,iV p1),(2,iV p2),(3,(fV 134)),(8,iV K)] (fun cu bV bW=>?_) (fun bY=>?_))
   ·obtain⟨bZ,b0,b1⟩:=bs bU;refine zg 3 rfl (Ba b0 rfl rfl rfl ?_);refine zg 2 rfl ?_;obtain rfl:=oi b1;exact be bZ (Y.Ac bV) bW rfl O
   ·refine JL.block (Cp bw (fun al=> []) (fun al=> [(0,.slice none 0 0),(1,iV p1),(2,iV p2),(3,(fV 134)),(8,iV K),(9,iV K)]) Ar Z ?_);rintro al am b2 b3 b4 ⟨cv,ap⟩ cw;have av:=ap;unfold RS at av;refine zg 2 rfl (C5 17 fun ht=>?_);refine AZ ht rfl [0,1,2,3] rfl ?_;obtain⟨b5,a0,b6⟩:=bs av;refine Eg 0 #[true,true,true,true,true,true,true,true,true,true,true,true,true,true,true,true,true] (fun L s=>∃(a1:LH),Jm am H a1 [] [(0,.slice none 0 0),(1,iV p1),(2,iV p2),(3,(fV 134)),(8,iV K),(9,iV K),(34,.bool b5)] L s) ?_ ?_
    ·rintro _ _ ⟨a1,rfl,rfl,b7,b8⟩;refine AY.fin (by decide+kernel) (BI b6 (fun b9 ca=>?_) (fun b9 cb=>?_))
     ·refine zg 3 rfl (C5 16 fun ht=>?_);refine AZ ht rfl [0,1,2,3] rfl ?_;obtain⟨cy,cc,cd⟩:=bs ca;refine BA 4 ht rfl rfl (fun ρ h s' hs=>Da (h _ _ rfl) (h _ _ rfl) cc) (AZ ht rfl [5,6] rfl ?_);obtain⟨cz,ce,cf⟩:=bs cd;refine BA 7 ht rfl rfl (fun ρ h s' hs=>Da (h _ _ rfl) (h _ _ rfl) ce) ?_;cases cf
     ·refine JL.exit rfl ?_;obtain rfl:=oi cb;obtain rfl:=b4 _ ap;exact bY (b2.Ac b7) b8 rfl
    ·intro cg;refine EW (q:=p1<K) (i:=21) rfl (fun U=>?_) (fun U=>?_)
     ·have ci:=ip a0 U;refine AZ ht rfl [4,5,6] rfl ?_;cases ci
     ·have ck:=im a0 U;refine AZ ht rfl [4,5,6,7,8,9,10,11,12,13,14,15,16] rfl ?_;obtain rfl:=oi ck;refine CH ?_ (cg _ _ ⟨am,rfl,rfl,Ar,b3⟩);exact⟨rfl,rfl,rfl,rfl,rfl,rfl,rfl,trivial⟩
  ·refine JL.exit rfl ?_;obtain rfl:=oi bv;obtain rfl:=bd _ O;exact bb Y Z rfl
def Ri(fuel:Nat)(p1:Int)(p2:Int)(p3:Int)(O:Unit):Option (Bd Unit ((Unit)⊕(Unit))):= (As (p2 - p1)).bind fun K=> if K≤12 then((PY fuel p1 p2).bind fun U=> some (.done (Sum.inl ()))) else(if p3=0 then(none) else(none))
def PX(fuel:Nat)(p1:Int)(p2:Int)(p3:Int):Option Unit:= Option.bind (iter (Ri fuel p1 p2 p3) fuel ()) fun K=> Sum.elim (fun r=>some r) (fun O=> none) K
theorem Yk{p1:Int}{p2:Int}{p3:Int}{fuel:Nat}{r:Unit}(K:PX fuel p1 p2 p3=some r):AN J 162 [nS,iV p1,iV p2,iV p3,(fV 134)] E [] (fun w E' B'=>w= .tuple #[]∧B'= []):=by
 refine A3 func162 fun Q bo cs H Y Z=>?_;unfold PX at K;obtain⟨bv,ag,al⟩:=bs K;refine zg 8 rfl (Bt (fun L s=>False) ?_ ?_)
 ·intro _ _ am;exact am.elim
 ·intro bw;refine JL.block (Cp ag (fun O=> []) (fun O=> [(0,.slice none 0 0),(1,iV p1),(2,iV p2),(3,iV p3),(4,(fV 134)),(10,.bool true),(11,.bool true)]) Ar Y ?_);rintro O bU ap av a0 ⟨bV,U⟩ bW;have V:=U;unfold Ri at V;obtain⟨bY,a1,a2⟩:=bs V;refine zg 5 rfl (Cl a1 rfl rfl rfl ?_);refine zg 8 rfl (AM a2 (fun a3 a4=>?_) (fun a3 a5=>?_))
  ·obtain⟨bZ,a6,a7⟩:=bs a4;refine zg 6 rfl (BH (Yn a6) rfl rfl Ox av fun b0 a8 a9=>?_);refine JL.done ?_;obtain rfl:=oi a7;obtain rfl:=a0 _ U;have bb:=elim_inl al;obtain rfl:=oi bb;exact AB func162 rfl rfl (Z (ap.Ac a8) rfl ⟨rfl,rfl⟩ a9)
  ·refine zg 7 rfl (AM a5 (fun bd be=>?_) (fun bd bi=>?_))
   ·refine zg 6 rfl ?_;cases be
   ·refine zg 5 rfl (AF (v:= .bool false) rfl (fun ρ h=>Yl.not (c:=true) (h _ _ rfl)) ?_);refine zg 9 rfl ?_;cases bi
def Ty(fuel:Nat):Option Unit:= (f163 fuel (Dl ((0:Nat):Int))).bind fun K=> (PX fuel 0 ((0:Nat):Int) K).bind fun O=> some ()
theorem Xd{fuel:Nat}{r:Unit}(K:Ty fuel=some r):AN J 133 [nS,(fV 134)] E [] (fun w E' B'=>w= .tuple #[]∧B'= []):=by
 refine A3 func133 fun Q a0 cs H O U=>?_;unfold Ty at K;refine zg 3 rfl (Bh underlying130 rfl rfl rfl ?_);refine zg 6 rfl (AF (v:= .int .u64 ((Dl ((0:Nat):Int):Nat):Int)) rfl (fun ρ h=>Yl.Dl underlying3 underlying156 (h _ _ rfl)) ?_);obtain⟨a1,V,Y⟩:=bs K;refine BH (S3 V) rfl rfl (AV func163 rfl) O fun a2 Z ag=>?_;obtain⟨a3,al,am⟩:=bs Y;refine zg 1 rfl (BH (Yk al) rfl rfl Mf ag fun a4 ap av=>?_);refine JL.done ?_;obtain rfl:=oi am;exact JL.fin (v:= .tuple #[]) rfl rfl (Cm.list func133 rfl (vs:= []) trivial) (U (Z.Ac ap) rfl ⟨rfl,rfl⟩ av)
end Pal
namespace Pal
open Go Go.Conc Go.Proofs Go.Sort
theorem VF:∀(ys K:List PT),K.Perm ys→ys.Pairwise (fun p q=>p.1<q.1)→K.Pairwise (fun p q=>p.1≤q.1)→K=ys:=by
 intro ys
 induction ys with
 | nil=>intro K h _ _;exact h.eq_nil
 | cons y ys Z=>
  intro K h O U;cases K with
  | nil=>exact absurd h.symm.eq_nil (by simp)
  | cons z K=>
   rw [List.pairwise_cons] at O U;have V:z∈y::ys:=h.mem_iff.1 (by simp);have Y:y∈z::K:=h.mem_iff.2 (by simp);have e:z=y:=by
    rcases List.mem_cons.1 V with e | V
    ·exact e
    ·rcases List.mem_cons.1 Y with e | Y
     ·exact e.symm
     ·have:=O.1 z V;have:=U.1 y Y;omega
   subst e;rw [Z K ((List.perm_cons z).1 h) O.2 U.2]
theorem YM{F:Nat}{xs ys:List PT}(av:3000<F)(a7:xs.length≤13)(Y:KO xs)(a0:ys.Perm xs)(hs:ys.Pairwise (fun p q=>p.1<q.1)):f133 F xs=some ys:=by
 have fin:∀(d:Array PT) (K:List PT),PermIn 0 xs.toArray.size xs.toArray d→SortedIn AP 0 xs.toArray.size d→K.toArray=d→K=ys:=by
  rintro d K Z a1 rfl;have ag:K.Perm xs:=by
   have al:=Z.2.2;have O:=Z.1;simp only [List.size_toArray] at O al;have a2:(K.toArray.extract 0 xs.length).toList=K:=by simp [← O]
   have a3:(xs.toArray.extract 0 xs.length).toList=xs:=by simp
   rwa [a2,a3] at al
  refine VF ys K (ag.trans a0.symm) hs ?_;rw [List.pairwise_iff_getElem];intro i j hi am a4;have h:=a1 i j (Nat.zero_le _) a4 (by simpa using (ag.length_eq▸am));rw [GC hi,GC am] at h;simpa [AP] using h
 have h:A1 (f133 F xs) (fun K=>K=ys):=by
  unfold f133;rcases Nat.lt_or_ge xs.length 13 with ap | ap
  ·obtain⟨l,O⟩:=XX F xs.length ap;refine AL O (AE (UH (F:=F) (n:=xs.length) (l:=l) (by omega) rfl (by omega) Y) ?_);rintro K ⟨k1,a5,a6⟩;obtain⟨V,g2⟩:=insertionSort_holds M5 xs.toArray 0 xs.length (Nat.zero_le _) (by simp);exact Ak (fin _ K (by simpa using V) (by simpa using g2) k1)
  ·have U:xs.length=13:=by omega
   refine AL (b:=4) (by rw [U];exact Wr F) ?_;rw [U];refine AE (Xw (F:=F) (xs:=xs) av U Y) ?_;rintro K ⟨k1,a5,a6⟩;obtain⟨V,g2⟩:=pdq_sorts AP M5 xs.toArray 0 13 4 true true (Nat.zero_le _) (by simp [U]) (.inl rfl);have e:xs.toArray.size=13:=by simpa using U
   exact Ak (fin _ K (by rw [e];exact V) (by rw [e];exact g2) k1)
 obtain⟨K,O,rfl⟩:=h;exact O
theorem ZD{J:Judge Tryz.prog}{E:LH}{a:Option Addr}{c:Nat}{g:Seg}{xs ys:List PT}(U:xs.length≤13)(V:KO xs)(O:ys.Perm xs)(hs:ys.Pairwise (fun p q=>p.1<q.1))(Y:OL 133 (rP rI (rP rI (rL (rP rI (rP (rL rI) (rN .u16)))))) E a c g xs):
  AN J 133 [.slice a xs.length c,.func (.func 134) #[] #[]] E g (fun w E' B'=>w= .tuple #[]∧OL 133 (rP rI (rP rI (rL (rP rI (rP (rL rI) (rN .u16)))))) E' a c B' ys):=by
 rcases Y.cases with⟨rfl,rfl,rfl,rfl⟩ | ⟨bk,f,rfl,rfl,hW⟩
 ·obtain rfl:ys= []:=O.eq_nil;refine(Xd (fuel:=10) (r:=()) rfl).Ai ?_;rintro w E' B' hle ⟨K,rfl⟩;exact⟨K,OL.nil⟩
 ·refine(Zn hW (fuel:=4000) (YM (by omega) U V O hs)).Ai ?_;rintro w E' B' hle ⟨ag,K,rfl,Z⟩;exact⟨K,Z.1⟩
end Pal
namespace Pal
open Go Go.Conc Go.Proofs
open Go.Proofs.Tryz
open Go.Conc.Lib Go.ConcR.Gen
def D5(qs:Nat→Int×List (Cf)):List (Bw):=((List.range 13).filter (fun j=>decide (0<(qs j).2.length))).map (partOf qs)
theorem XH
  {E:LH} {k1 o2:Nat} {a4 a5 a6:Ap} {a7 a8 a9:Nat} {bb:Lv_} {U:BY} {lk:AJ} (al:At E k1 o2 (([sV a4 U.1 a7,sV a5 U.2.1 a8]:Lv_)++bb)) (bv:Al (rL rI) E a4 a7 U.1) (bw:Al (rL rI) E a5 a8 U.2.1) (bU:(rA 13 (rN .u16)).r E bb U.2.2) (bV:Al Bg E a6 a9 lk) {fuel:Nat} {qs:Nat→Int×List (Cf)} (bW:∀j,j<13→GJ fuel U lk ((j:Nat):Int)=some (qs j)):
  AN (D4 Tryz.prog) 102 [pV k1 o2,.slice a6 lk.length a9] E [] (fun w E' B'=>∃a c,w= .slice a (D5 qs).length c∧B'= []∧Al CB E' a c (D5 qs)):=by
 refine Ka func102 rfl rfl fun Q cC cs H bY bZ=>zg 2 rfl (Ca bY fun b0 cD b1 am b2=>?_);refine Ca b2 fun b3 cE bd b4 b5=>?_;refine DN (S':= []) (by simp) b5 fun b6=>zg 4 rfl (JS.makeChan rfl rfl rfl underlying162 (Cy type133) b6 fun ch b7=>?_);refine CW b7 (DG type162) fun rc b8=>?_;refine JS.store (v:= .chan (some ch)) (off:=0) 1 rfl rfl rfl b8 rfl rfl (Bv type162) (by simp [Value.cells,CY]) rfl (Nat.le_of_ble_eq_true rfl) fun b9=>C8 1 b9 rfl fun V ap av ca=>zg 3 rfl (CW ca (DG type171) fun wg cb=>?_);refine DN (S':= [[(ch,.chan 0 #[] false 0 0 false)],[(wg,.cells #[.int .u64 0,.int .u32 0] 171 (0,0))]]) (by simp [Value.cells]) cb fun ag=>zg 7 rfl (IY ?_);refine IJ [(2,pV b0 0),(3,pV b3 0),(5,pV rc 0),(6,pV wg 0),(11,iV ((0:Nat):Int))] rfl ?_;have cc:=b1.Ac bd;have Y:=cc.Ac ap;have a0:=Nd.iff.1 ag;intro T cd;let F:Fam:=⟨wg,ch,171,13,fun j=>decide (0<(qs j).2.length),fun kk v E=>kk<13∧∃a c,v= .agg #[iV ((kk:Nat):Int),iV (qs kk).1,.slice a (qs kk).2.length c]∧Al Dx E a c (qs kk).2,fun g s=>(D4 Tryz.prog).ok Q g s⟩;refine YR F (Nat.le_of_ble_eq_true rfl) (show 13<2147483647 by omega) ?_ ?_ (Ol (j:=1) ag rfl) (Ol (j:=0) ag rfl) ?_ (fun g s h=>h)
 ·rintro kk v cF cG a1 ⟨Z,a,c,ce,al⟩;exact⟨Z,a,c,ce,al.Ai a1⟩
 ·intro e;have:=a0.1;simp at this;exact this e.symm
 have cf:=UC ag;show Way Tryz.prog true (Stop Tryz.prog F (.FE 0)) _ (⟨(An V H [[(ch,.chan 0 #[] false 0 0 false)],[(wg,.cells #[.int .u64 0,.int .u32 0] 171 (0,0))]]).E,IB (An V H [[(ch,.chan 0 #[] false 0 0 false)],[(wg,.cells #[.int .u64 0,.int .u32 0] 171 (0,0))]]).H wg ch,false⟩:St);rw [show(An V H [[(ch,.chan 0 #[] false 0 0 false)],[(wg,.cells #[.int .u64 0,.int .u32 0] 171 (0,0))]]).E=V from rfl,cf];have cg:Ax V H []:=trivial;refine VV (F:=F) rfl (al.Ai Y) (bv.Ai Y) (bw.Ai Y) (Rp.Ai _ Y bU) (bV.Ai Y) (am.Ai (bd.Ac ap)) (b4.Ai ap) av bW (fun j _=>rfl) (fun j ci E' a c ck=>⟨ci,a,c,rfl,ck⟩) (fun be a2 cH=>?_) 13 0 rfl (by decide) V Ar cg T cd;refine zg 9 rfl ?_;refine AF (v:= .func (.func 131) #[] ([.pointer (some F.sA),pV rc 0]:Lv_).toArray) rfl (fun ρ h=>IZ (by simp) (by simp [h (.tmp 6) _ rfl,h (.tmp 5) _ rfl])) ?_;have bi:=W0 (F:=F) (show 13<2147483648 by omega) (av.Ai a2);refine JL.GU (fi:= #[]) rfl rfl rfl rfl rfl rfl rfl (by first | exact bi | (simp only [List.append_toArray,List.nil_append,Array.append_empty,Array.empty_append];exact bi)) ?_
 refine zg 8 rfl (AF (v:= .chan (some ch)) rfl (fun ρ h=>Yl.load L9 (h _ _ rfl) (At.Kf (j:=0) (av.Ai a2) rfl)) ?_);refine zg 2 rfl (IY ?_);refine IJ [(8,.slice none 0 0),(18,.chan (some ch))] rfl ?_;have cm:Ax be H [[]]:=trivial;refine Vi (F:=F) (Q:=Q) rfl (fun g s h=>h) (qs:=qs) (fun kk v E' h=>h.2) (fun K cI a c g cn a0 bo co cp cq=>?_) 13 [] [] be none 0 [] rfl List.nodup_nil (by simp) (by decide) Ar OL.nil cm;have a3:(D5 qs).Perm (K.map (partOf qs)):=by
  unfold D5;refine List.Perm.map _ ?_;refine(List.perm_ext_iff_of_nodup (List.nodup_range.filter _) a0).2 fun x=>?_;constructor
  ·intro O;simp at O;exact co x O.1 (by simpa [F] using O.2)
  ·intro O;have Z:=bo x O;simp;exact⟨Z.1,by simpa [F] using Z.2⟩
 have cr:(D5 qs).Pairwise (fun p q=>p.1<q.1):=by
  unfold D5;rw [List.pairwise_map];refine List.Pairwise.filter _ (List.Pairwise.imp ?_ List.pairwise_lt_range);intro a b a1;exact Int.ofNat_lt.2 a1
 have hlen:(K.map (partOf qs)).length≤13:=by
  rw [← a3.length_eq];unfold D5;rw [List.length_map];exact Nat.le_trans (List.length_filter_le _ _) (by simp)
 have ct:KO (K.map (partOf qs)):=by
  intro x O;obtain⟨j,am,rfl⟩:=List.mem_map.1 O;have Z:=(bo j am).1;simp only [partOf];omega
 have cu:(K.map (partOf qs)).length=(D5 qs).length:=a3.length_eq.symm;refine zg 3 rfl ?_;refine O7 (vs:= [.slice a (K.map (partOf qs)).length c,.func (.func 134) #[] #[]]) 0 (ZD hlen ct a3 cr cp) rfl rfl rfl (AV func133 rfl) rfl cq rfl ?_;rintro _ cJ g' cv ⟨rfl,cw⟩ cy;refine zg 6 rfl ?_;refine BU 0 cw cy rfl fun cK cz cA cB=>?_;refine JL.ret (v:= .slice a (K.map (partOf qs)).length c) rfl rfl (Cm.list func102 rfl (vs:= [.slice a (K.map (partOf qs)).length c]) ⟨rfl,trivial⟩) ?_;exact bZ _ _ _ [] ((((Y.Ac a2).Ac cn).Ac cv).Ac cz) (by simp) ⟨a,c,by rw [cu],rfl,cA⟩ cB
end Pal
namespace Pal
open Go Go.Conc Go.Proofs
open Go.Proofs.Tryz
open Go.Conc.Lib Go.ConcR.Gen
def Ke(fuel:Nat)(K:BY)(lk:AJ):Option (List (Bw)):=
 if(List.range 13).all (fun j=>(GJ fuel K lk ((j:Nat):Int)).isSome)=true then some (D5 fun j=>(GJ fuel K lk ((j:Nat):Int)).getD (0,[])) else none
theorem R3
  {E:LH} {k1 o2:Nat} {U V Y:Ap} {Z ag al:Nat} {am:Lv_} {K:BY} {lk:AJ} (a1:At E k1 o2 (([sV U K.1 Z,sV V K.2.1 ag]:Lv_)++am)) (a2:Al (rL rI) E U Z K.1) (a3:Al (rL rI) E V ag K.2.1) (a4:(rA 13 (rN .u16)).r E am K.2.2) (a5:Al Bg E Y al lk) {fuel:Nat} {r:List (Bw)} (O:Ke fuel K lk=some r):
  AN (D4 Tryz.prog) 102 [pV k1 o2,.slice Y lk.length al] E [] (fun w E' B'=>∃(ap:Ap) (av:Nat),w= .slice ap r.length av∧B'= []∧Al CB E' ap av r):=by
 unfold Ke at O;split at O
 ·rename_i a0;cases O;refine(XH a1 a2 a3 a4 a5 (fuel:=fuel) (qs:=fun j=>(GJ fuel K lk ((j:Nat):Int)).getD (0,[])) fun j a6=>?_).Ai ?_
  ·rw [List.all_eq_true] at a0;obtain⟨q,a7⟩:=Option.isSome_iff_exists.1 (a0 j (List.mem_range.2 a6));rw [a7];rfl
  ·rintro w E' B' _ ⟨a,c,a8,a9,bb⟩;exact⟨a,c,a8,a9,bb⟩
 ·cases O
end Pal
namespace Pal
open Go Go.Conc Go.Proofs
open Go.Proofs.Tryz
def Lw(fuel:Nat)(O:Bw)(K:Int×(List Cf)×Int):Option (Bd (Int×(List Cf)×Int) (Int×(List Cf))):= if K.2.2<(O.2.2.length:Int) then((ix O.2.2 K.2.2).bind fun V=> (IK fuel K.1 K.2.1 V O.2.1).bind fun U=> (As (K.2.2+1)).bind fun Y=> some (.more (U.1,U.2,Y))) else(some (.done (K.1,K.2.1)))
def NA(fuel:Nat)(O:(List Bw))(K:Int×(List Cf)×Int):Option (Bd (Int×(List Cf)×Int) (Int×(List Cf))):= if K.2.2<(O.length:Int) then((ix O K.2.2).bind fun V=> Option.bind (iter (Lw fuel V) fuel (K.1,K.2.1,0)) fun U=> (As (K.2.2+1)).bind fun Y=> some (.more (U.1,U.2,Y))) else(some (.done (K.1,K.2.1)))
def f93(fuel:Nat)(p0:BY)(p1:AJ):Option ((Int×(List Cf))):= (Ke fuel p0 p1).bind fun K=> Option.bind (iter (NA fuel K) fuel (0,[],0)) fun O=> some O
theorem N4{E:LH}{k1:Nat}{o2:Nat}{b0:Ap}{b1:Nat}{b2:Ap}{b3:Nat}{b4:Lv_}{b5:Ap}{b6:Nat}{p0:BY}{p1:AJ}(co:At E k1 o2 (([sV b0 p0.1 b1,sV b2 p0.2.1 b3]:Lv_)++b4))(cp:Al (rL rI) E b0 b1 p0.1)(cq:Al (rL rI) E b2 b3 p0.2.1)(cr:(rA 13 (rN .u16)).r E b4 p0.2.2)(ct:Al Bg E b5 b6 p1){fuel:Nat}{r:(Int×(List Cf))}(b7:f93 fuel p0 p1=some r):AN (D4 Tryz.prog) 93 [pV k1 o2,sV b5 p1 b6] E [] (fun w E' B'=>∃(b8:Ap) (b9:Nat),w= .agg #[iV r.1,sV b8 r.2 b9]∧B'= []∧Al Dx E' b8 b9 r.2):=by
 refine A3 func93 fun Q dJ cs H cu cv=>?_;unfold f93 at b7;refine zg 2 rfl (CW cu Gi fun O cw=>?_);refine zg 3 rfl (CW cw Gi fun U cy=>?_);obtain⟨ag,cz,cA⟩:=bs b7;refine zg 6 rfl (BN (R3 co cp cq cr ct cz) rfl rfl (AV func102 rfl) cy ?_);rintro _ be _ cB ⟨bi,bo,rfl,rfl,cC⟩ cD;refine Bh underlying130 rfl rfl rfl ?_;obtain⟨K,cE,cF⟩:=bs cA;refine zg 2 rfl (Bt (fun L s=>∃(bv:LH) (V:Ap) (Y:Nat) (bw:Seg),Jn be H bv [bX O #[iV 0,nS] 97,bX U #[iV K.1,sV V K.2 Y] 97,bw] [(4,pV O 0),(5,pV U 0)] L s (OL 104 Dx bv V Y bw K.2)) ?_ ?_)
 ·rintro _ _ ⟨bv,V,Y,bw,rfl,rfl,cG,ca,cH⟩;refine zg 2 rfl (AF rfl (fun ρ h=>F5 (vs:= [iV K.1,sV V K.2 Y]) Ik Dy (h _ _ rfl) (F2 (off:=0) 1 ca rfl rfl)) ?_);refine BW 0 ca Dy fun cI=>?_;refine JL.done (BU 2 cH cI rfl fun dK cJ cK cM=>?_);refine JS.drop 1 cM rfl fun cb=>?_;obtain rfl:=oi cF;refine JL.ret (v:= .agg #[iV K.1,sV V K.2 Y]) rfl rfl (Cm.list func93 rfl (vs:= [.agg #[iV K.1,sV V K.2 Y]]) ⟨⟨_,rfl,Ld.many (vs:= [iV K.1,sV V K.2 Y]) Ik Dy (F2 (off:=0) 0 cb rfl rfl)⟩,trivial⟩) (IA 0 cb rfl fun cN=>?_);exact cv ((cB.Ac cG).Ac cJ) rfl ⟨V,Y,rfl,rfl,cK⟩ cN
 ·intro cO;refine JL.block (CV cE (fun L s Z=>∃(a1:LH) (al:Ap) (am:Nat) (ap:Seg),Jn be H a1 [bX O #[iV 0,nS] 97,bX U #[iV Z.1,sV al Z.2.1 am] 97,ap] [(4,pV O 0),(5,pV U 0),(12,sV bi ag bo),(13,iV (ag.length:Int)),(14,iV Z.2.2)] L s (OL 104 Dx a1 al am ap Z.2.1)) ⟨be,none,0,[],rfl,rfl,Ar,cD,OL.nil⟩ ?_);rintro _ _ Z ⟨a1,al,am,ap,rfl,rfl,bU,cc,cd⟩ cP ⟨dL,bV⟩ cQ;have ce:=bV;unfold NA at ce;refine zg 5 rfl (AM ce (fun cR cT=>?_) (fun cR cV=>?_))
  ·obtain⟨cf,cW,cX⟩:=bs cT;refine zg 5 rfl (Ce (cC.Ai bU) cW underlying130 AS ?_);rintro dM dN _ ⟨_,_,rfl,rfl,⟨_,_,rfl,rfl,⟨cY,cZ,rfl,c0⟩⟩⟩ c1;refine BX c1 Cu AS rfl rfl (CW cc Il fun c2 c3=>?_);refine BW 3 c3 AS fun c4=>?_;refine C8 3 c4 rfl fun bW bY cg c5=>zg 3 rfl (BL underlying133 Dy rfl rfl rfl ?_);refine JL.fl 2 cg underlying97 DF EV ?_;refine Bh underlying95 rfl rfl rfl ?_;obtain⟨av,c6,c7⟩:=bs cX;refine zg 2 rfl (Bt (fun L s=>∃(a2:LH) (a3:Ap) (a4:Nat) (a5:Seg),Jn bW H a2 [bX O #[iV 0,nS] 97,bX U #[iV av.1,sV a3 av.2 a4] 97,a5] [(4,pV O 0),(5,pV U 0),(12,sV bi ag bo),(13,iV (ag.length:Int)),(14,iV Z.2.2)] L s (OL 104 Dx a2 a3 a4 a5 av.2)) ?_ ?_)
   ·rintro _ _ ⟨a2,a3,a4,a5,rfl,rfl,c8,c9,da⟩;obtain⟨db,dc,dd⟩:=bs c7;refine zg 2 rfl (Ba dc rfl rfl rfl ?_);refine zg 2 rfl ?_;obtain rfl:=oi dd;exact Ay (cQ _ _ (av.1,av.2,db) ⟨a2,a3,a4,a5,rfl,rfl,((bU.Ac bY).Ac c8),c9,da⟩ bV) rfl
   ·intro de;refine JL.block (CV c6 (fun L s a0=>∃(a6:LH) (a7:Ap) (a8:Nat) (a9:Seg),Jn bW H a6 [bX O #[iV 0,nS] 97,bX U #[iV a0.1,sV a7 a0.2.1 a8] 97,a9] [(4,pV O 0),(5,pV U 0),(7,pV c2 0),(12,sV bi ag bo),(13,iV (ag.length:Int)),(14,iV Z.2.2),(20,sV cY cf.2.2 cZ),(21,iV (cf.2.2.length:Int)),(22,iV a0.2.2)] L s (OL 104 Dx a6 a7 a8 a9 a0.2.1)) ⟨bW,al,am,ap,rfl,rfl,Ar,c5,(cd.Ai bY)⟩ ?_);rintro _ _ a0 ⟨a6,a7,a8,a9,rfl,rfl,bb,ci,ck⟩ df ⟨dO,bZ⟩ dg;have cm:=bZ;unfold Lw at cm;refine zg 5 rfl (AM cm (fun dh di=>?_) (fun dh dj=>?_))
    ·obtain⟨dk,dl,dm⟩:=bs di;refine zg 5 rfl (Ce (c0.Ai (bY.Ac bb)) dl underlying95 Cx ?_);rintro dP dQ _ ⟨_,_,rfl,rfl,⟨_,_,rfl,⟨dR,dS,rfl,dn⟩,rfl⟩⟩ dp;refine BX dp F1 Cx rfl rfl (CW ci GY fun dT dq=>?_);refine BW 3 dq Cx fun dr=>?_;refine C8 3 dr rfl fun dU bd dt du=>zg 2 rfl (BX dt F1 Cx rfl rfl ?_);refine BL underlying133 Dy rfl rfl rfl (JL.fl 1 (cg.Ai (bb.Ac bd)) underlying97 AX By ?_);obtain⟨cn,dv,dw⟩:=bs dm;refine K1 1 2 rfl rfl du fun dx=>B8 1 (Y4 (age:=0) (ck.Ai bd) (tr:=dk) (dn.Ai bd) dv) rfl rfl (AV func122 rfl) dx rfl ?_;rintro _ dy _ dz ⟨dA,dB,dC,rfl,rfl,dD⟩ dE;refine Ep 1 rfl dE fun dF=>?_;obtain⟨dG,dH,dI⟩:=bs dw;refine zg 3 rfl (Ba dH rfl rfl rfl ?_);refine zg 2 rfl ?_;obtain rfl:=oi dI;exact Ay (dg _ _ (cn.1,cn.2,dG) ⟨dy,dA,dB,dC,rfl,rfl,((bb.Ac bd).Ac dz),dF,dD⟩ bZ) rfl
    ·refine JL.exit rfl ?_;obtain rfl:=oi dj;obtain rfl:=df _ bZ;exact Ay (de _ _ ⟨a6,a7,a8,a9,rfl,rfl,bb,ci,ck⟩) rfl
  ·refine JL.exit rfl ?_;obtain rfl:=oi cV;obtain rfl:=cP _ bV;exact Ay (cO _ _ ⟨a1,al,am,ap,rfl,rfl,bU,cc,cd⟩) rfl
def f78(fuel:Nat)(p0:A9)(p1:AJ)(p2:Int)(p3:Bool):Option ((Option BY)×(Int×(List Cf))×Int):= (f69 fuel p0 p1).bind fun O=> if O≠0 then(some (none,(0,[]),O)) else((As ((p1.length:Int) - 1)).bind fun V=> (f101 fuel p2 (-1) V).bind fun Y=> if Y=true then(some (none,(0,[]),3)) else((f92 fuel p0).bind fun Z=> (Z).bind fun U=> (f93 fuel U p1).bind fun K=> Option.bind (if(K.2.length:Int)=0 then(some (!p3)) else(some false)) fun ag=> if ag=true then(some (none,K,11)) else(some (some U,K,0))))
end Pal
namespace Pal
open Go Go.Conc Go.Proofs
open Go.Proofs.Tryz
variable {J:Judge Tryz.prog}{E:LH}
def N1(fuel:Nat)(p0:AJ):Option ((AJ)):= (CQ ([]:AJ) p0).bind fun K=> some K
theorem YI{ad:Addr}{c2:Nat}{p0:AJ}(V:Al Bg E (some ad) c2 p0){fuel:Nat}{r:(AJ)}(K:N1 fuel p0=some r):AN J 123 [.slice (some ad) p0.length c2] E [] (fun w E' B'=>∃(O:Ap) (U:Nat) (g0:Seg),w= sV O r U∧B'=g0∧OL 27 Bg E' O U g0 r):=by
 refine A3 func123 fun Q a4 cs H Y Z=>?_;unfold N1 at K;refine zg 8 rfl (AF (v:= .bool false) rfl (fun ρ h=>ME (a:=(some ad)) underlying25 (h _ _ rfl) (h _ _ rfl)) ?_);refine zg 5 rfl (Lj (pp:=Bg) rfl rfl rfl underlying25 BF Y fun a5 g2 ag al=>?_);obtain⟨a6,am,ap⟩:=bs K;refine zg 1 rfl (G6 (pp:=Bg) 1 am rfl rfl rfl rfl rfl rfl rfl underlying25 underlying25 BF (Cy type27) C7 rfl (by decide) (by decide) ag V al rfl fun av a0 a1 a2 a3=>?_);refine zg 2 rfl ?_;obtain rfl:=oi ap;exact AB func123 rfl rfl (Z Ar rfl ⟨av,a0,a1,rfl,(by first | rfl | simp | (simp [Value.cells])),a2⟩ a3)
def TF(fuel:Nat)(p0:AJ):Option ((AJ)):= some ([])
theorem Yi{c2:Nat}{p0:AJ}(Z:Al Bg E none c2 p0){fuel:Nat}{r:(AJ)}(K:TF fuel p0=some r):AN J 123 [sV none p0 c2] E [] (fun w E' B'=>∃(O:Ap) (U:Nat) (g0:Seg),w= sV O r U∧B'=g0∧OL 27 Bg E' O U g0 r):=by
 refine A3 func123 fun Q ag cs H V Y=>?_;unfold TF at K;refine zg 8 rfl (AF (v:= .bool true) rfl (fun ρ h=>ME (a:=none) underlying25 (h _ _ rfl) (h _ _ rfl)) ?_);refine zg 6 rfl ?_;obtain rfl:=oi K;exact AB func123 rfl rfl (Y Ar rfl ⟨none,0,[],rfl,rfl,OL.nil⟩ V)
def f123(fuel:Nat)(p0:AJ):Option AJ:=N1 fuel p0
theorem Zv{O:Ap}{c2:Nat}{p0:AJ}(U:Al Bg E O c2 p0){fuel:Nat}{r:AJ}(K:f123 fuel p0=some r):AN J 123 [.slice O p0.length c2] E [] (fun w E' B'=>∃(V:Ap) (Y:Nat) (g0:Seg),w= .slice V r.length Y∧B'=g0∧OL 27 Bg E' V Y g0 r):=by
 cases O with
 | some ad=>exact YI U K
 | none=>
  have Z:p0= []:=by
   rcases U.2 with h | ⟨_,_,h,_⟩
   ·exact h.1
   ·cases h
  subst Z;have ag:r= []:=by
   have al:N1 fuel []=some []:=rfl;unfold f123 at K;rw [al] at K;exact(Option.some.inj K).symm
  subst ag;exact Yi (fuel:=fuel) U rfl
end Pal
namespace Pal
open Go Go.Conc Go.Proofs
open Go.Proofs.Tryz
variable {J:Judge Tryz.prog}{E:LH}
def f125(fuel:Nat)(p0:Int×Int)(p1:Int×Int):Option Int:= (As (p0.1 - p1.1)).bind fun K=> some K
theorem ZZ{p0:Int×Int}{p1:Int×Int}{fuel:Nat}{r:Int}(K:f125 fuel p0 p1=some r):AN J 125 [.agg #[iV p0.1,iV p0.2],.agg #[iV p1.1,iV p1.2]] E [] (fun w E' B'=>w=iV r∧B'= []):=by
 refine A3 func125 fun Q a0 cs H U V=>?_;unfold f125 at K;refine zg 2 rfl (Ca U fun a1 a2 Y Z ag=>?_);refine Ca ag fun a3 a4 O al am=>?_;refine zg 4 rfl (JL.fl 0 (Z.Ai O) underlying27 AX By ?_);refine JL.fl 0 al underlying27 AX By ?_;obtain⟨a5,ap,av⟩:=bs K;refine Cl ap rfl rfl rfl (zg 2 rfl ?_);obtain rfl:=oi av;exact AB func125 rfl rfl (V (Y.Ac O) rfl ⟨rfl,rfl⟩ am)
def SG(fuel:Nat)(p1:Int)(K:Int×(AJ)):Option (Bd (Int×(AJ)) ((AJ))):= Option.bind (if p1<K.1 then((ix K.2 K.1).bind fun V=> (As (K.1 - 1)).bind fun Y=> (ix K.2 Y).bind fun Z=> (f125 fuel V Z).bind fun ag=> some (decide (ag<0))) else(some false)) fun al=> if al=true then((As (K.1 - 1)).bind fun O=> (As (K.1 - 1)).bind fun am=> (ix K.2 am).bind fun U=> (ix K.2 K.1).bind fun ap=> (ix (K.2.set (Int.toNat K.1) U) O).bind fun a0=> (As (K.1 - 1)).bind fun av=> some (.more (av,((K.2.set (Int.toNat K.1) U).set (Int.toNat O) ap)))) else(some (.done K.2))
def SK(fuel:Nat)(p1:Int)(p2:Int)(K:Int×(AJ)):Option (Bd (Int×(AJ)) ((AJ))):= if K.1<p2 then(Option.bind (iter (SG fuel p1) fuel K) fun O=> (As (K.1+1)).bind fun U=> some (.more (U,O))) else(some (.done K.2))
def f168(fuel:Nat)(p0:AJ)(p1:Int)(p2:Int):Option ((AJ)):= (As (p1+1)).bind fun K=> Option.bind (iter (SK fuel p1 p2) fuel (K,p0)) fun O=> some O
theorem Te{K:Nat}{U:Nat}{V:Nat}{a8:AD}{p0:AJ}{p1:Int}{p2:Int}(hW:WL 27 Bg E K U V a8 p0){fuel:Nat}{r:(AJ)}(bo:f168 fuel p0 p1 p2=some r):AN J 168 [.slice (A0 K) V U,iV p1,iV p2,(fV 125)] E [(K,.cells a8 27 (0,0))] (fun w E' B'=>∃(bv:AD),w= .tuple #[]∧B'= [(K,.cells bv 27 (0,0))]∧WL 27 Bg E' K U V bv r):=by
 refine A3 func168 fun Q dd cs H b8 b9=>?_;unfold f168 at bo;obtain⟨de,ca,cb⟩:=bs bo;refine zg 3 rfl (Ba ca rfl rfl rfl ?_);obtain⟨cc,cd,ce⟩:=bs cb;refine zg 2 rfl (Bt (fun L s=>∃(a9:LH) (f17:AD),Jn E H a9 [bX K f17 27] [] L s (WL 27 Bg a9 K U V f17 cc)) ?_ ?_)
 ·rintro _ _ ⟨a9,f17,rfl,rfl,cf,cg,ci⟩;obtain rfl:=oi ce;exact JL.fin (v:= .tuple #[]) rfl rfl (Cm.list func168 rfl (vs:= []) trivial) (b9 cf rfl ⟨f17,rfl,(by first | rfl | simp | (simp [Value.cells])),ci⟩ cg)
 ·intro ck;refine JL.block (CV cd (fun L s am=>∃(al:LH) (f25:AD),Jn E H al [bX K f25 27] [(0,.slice (A0 K) V U),(1,iV p1),(2,iV p2),(3,(fV 125)),(8,iV am.1)] L s (WL 27 Bg al K U V f25 am.2)) ⟨E,a8,rfl,rfl,Ar,b8,hW⟩ ?_);rintro _ _ am ⟨al,f25,rfl,rfl,bw,bU,bV⟩ cm ⟨df,bb⟩ cn;have bW:=bb;unfold SK at bW;refine zg 7 rfl (AM bW (fun co cp=>?_) (fun co cq=>?_))
  ·obtain⟨bY,cr,ct⟩:=bs cp;refine zg 8 rfl (Bt (fun L s=>∃(a2:LH) (f48:AD),Jn al H a2 [bX K f48 27] [(0,.slice (A0 K) V U),(1,iV p1),(2,iV p2),(3,(fV 125)),(8,iV am.1)] L s (WL 27 Bg a2 K U V f48 bY)) ?_ ?_)
   ·rintro _ _ ⟨a2,f48,rfl,rfl,cu,cv,cw⟩;obtain⟨cy,cz,cA⟩:=bs ct;refine zg 3 rfl (Ba cz rfl rfl rfl ?_);refine zg 2 rfl ?_;obtain rfl:=oi cA;exact Ay (cn _ _ (cy,bY) ⟨a2,f48,rfl,rfl,(bw.Ac cu),cv,cw⟩ bb) rfl
   ·intro cB;refine JL.block (CV cr (fun L s Y=>∃(av:LH) (f58:AD),Jn al H av [bX K f58 27] [(0,.slice (A0 K) V U),(1,iV p1),(2,iV p2),(3,(fV 125)),(8,iV am.1),(9,iV Y.1)] L s (WL 27 Bg av K U V f58 Y.2)) ⟨al,f25,rfl,rfl,Ar,bU,bV⟩ ?_);rintro _ _ Y ⟨av,f58,rfl,rfl,bZ,a0,O⟩ cC ⟨dg,bd⟩ cD;have b0:=bd;unfold SG at b0;refine zg 2 rfl (Dq 17 [K] ⟨⟨0,_,rfl⟩,trivial⟩ a0 fun ht=>?_);refine AZ ht rfl [0,1,2,3] rfl ?_;obtain⟨cE,b1,cF⟩:=bs b0;refine Eg 0 #[true,true,true,true,true,true,true,true,true,true,true,true,true,true,true,true,true] (fun L s=>∃(a3:LH),Jm av H a3 [bX K f58 27] [(0,.slice (A0 K) V U),(1,iV p1),(2,iV p2),(3,(fV 125)),(8,iV am.1),(9,iV Y.1),(34,.bool cE)] L s) ?_ ?_
    ·rintro _ _ ⟨a3,rfl,rfl,ap,a4⟩;refine AY.fin (by decide+kernel) (BI cF (fun cG cH=>?_) (fun cG cI=>?_))
     ·refine zg 3 rfl (G4 [15,17] [K] mixed rfl ?_);refine Bu 0 rfl rfl (Bu 1 rfl rfl ?_);refine Bu 2 rfl rfl (Bu 3 rfl rfl ?_);obtain⟨b2,cJ,cK⟩:=bs cH;refine GM 4 true rfl rfl (fun ρ h s' hs=>Da (h _ _ rfl) (h _ _ rfl) cJ) (Bu 5 rfl rfl ?_);refine Bu 6 rfl rfl ?_;obtain⟨dh,cM,cN⟩:=bs cK;refine GM 7 true rfl rfl (fun ρ h s' hs=>Da (h _ _ rfl) (h _ _ rfl) cM) ?_;obtain⟨Z,b3,cO⟩:=bs cN;obtain⟨_,⟨_,_,rfl,rfl,rfl⟩,cP⟩:=WL.at (O.Ai ap) b3;refine CC 8 O.2 b3 underlying25 BF ?_;refine Ei 9 [iV Z.1,iV Z.2] 0 a4 cP Gh BF ?_;refine Bu 10 rfl rfl (Bu 11 rfl rfl ?_);obtain⟨ag,a5,cQ⟩:=bs cO;obtain⟨_,⟨_,_,rfl,rfl,rfl⟩,cR⟩:=WL.at (O.Ai ap) a5;refine CC 12 O.2 a5 underlying25 BF ?_;refine Ei 13 [iV ag.1,iV ag.2] 0 a4 cR Gh BF ?_;refine CC 14 O.2 a5 underlying25 BF ?_;have a1:=WL.put (x':=Z) (ws':= [iV Z.1,iV Z.2]) (O.Ai ap) O.2 a5 ⟨_,_,rfl,rfl,rfl⟩;refine Ej 15 0 a4 BF a1.2 fun cT=>?_;obtain⟨di,be,cV⟩:=bs cQ;obtain⟨_,⟨_,_,rfl,rfl,rfl⟩,dj⟩:=WL.at a1.1 be;refine CC 16 (a1.1).2 be underlying25 BF ?_;have b4:=WL.put (x':=ag) (ws':= [iV ag.1,iV ag.2]) a1.1 (a1.1).2 be ⟨_,_,rfl,rfl,rfl⟩;refine Ej 17 0 cT BF b4.2 fun cW=>?_;refine JB.fin (by decide+kernel) ?_;obtain⟨cX,cY,cZ⟩:=bs cV;refine zg 3 rfl (Cl cY rfl rfl rfl ?_);refine zg 2 rfl ?_;obtain rfl:=oi cZ;exact Ay (cD _ _ (cX,((Y.2.set (Int.toNat Y.1) Z).set (Int.toNat b2) ag)) ⟨a3,(A2 (A2 f58 (Int.toNat (Y.1)*2) [iV Z.1,iV Z.2]) (Int.toNat (b2)*2) [iV ag.1,iV ag.2]),rfl,rfl,(bZ.Ac ap),cW,b4.1⟩ bd) rfl
     ·refine JL.exit rfl ?_;obtain rfl:=oi cI;obtain rfl:=cC _ bd;exact Ay (cB _ _ ⟨a3,f58,rfl,rfl,(bZ.Ac ap),a4,(O.Ai ap)⟩) rfl
    ·intro b5;refine EW (q:=p1<Y.1) (i:=21) rfl (fun bi=>?_) (fun bi=>?_)
     ·have c0:=ip b1 bi;refine AZ ht rfl [4,5,6] rfl ?_;obtain⟨a6,b6,c1⟩:=bs c0;obtain⟨_,⟨_,_,rfl,rfl,rfl⟩,c2⟩:=WL.at O b6;refine Ga 7 ht (O).2 b6 underlying25 BF ?_;refine D6 8 ht [iV a6.1,iV a6.2] 0 a0 c2 Gh BF ?_;refine AZ ht rfl [9,10] rfl ?_;obtain⟨dk,c3,c4⟩:=bs c1;refine BA 11 ht rfl rfl (fun ρ h s' hs=>Da (h _ _ rfl) (h _ _ rfl) c3) ?_;obtain⟨a7,b7,c5⟩:=bs c4;obtain⟨_,⟨_,_,rfl,rfl,rfl⟩,c6⟩:=WL.at O b7;refine Ga 12 ht (O).2 b7 underlying25 BF ?_;refine D6 13 ht [iV a7.1,iV a7.2] 0 a0 c6 Gh BF ?_;obtain⟨dl,c7,c8⟩:=bs c5;refine HP (i:=14) ⟨⟨0,_,rfl⟩,trivial⟩ (vs:= [.agg #[iV a6.1,iV a6.2],.agg #[iV a7.1,iV a7.2]]) (ZZ c7) (by decide+kernel) rfl rfl rfl rfl (AV func125 rfl) rfl a0 ?_;rintro _ c9 _ da ⟨rfl,rfl⟩ db;refine AZ ht rfl [15,16] rfl ?_;obtain rfl:=oi c8;refine CH ?_ (b5 _ _ ⟨c9,rfl,rfl,da,db⟩);exact⟨rfl,rfl,rfl,rfl,rfl,rfl,rfl,trivial⟩
     ·have dc:=im b1 bi;refine AZ ht rfl [4,5,6,7,8,9,10,11,12,13,14,15,16] rfl ?_;obtain rfl:=oi dc;refine CH ?_ (b5 _ _ ⟨av,rfl,rfl,Ar,a0⟩);exact⟨rfl,rfl,rfl,rfl,rfl,rfl,rfl,trivial⟩
  ·refine JL.exit rfl ?_;obtain rfl:=oi cq;obtain rfl:=cm _ bb;exact Ay (ck _ _ ⟨al,f25,rfl,rfl,bw,bU,bV⟩) rfl
def Si(fuel:Nat)(p1:Int)(K:Int×Int×(AJ)):Option (Bd (Int×Int×(AJ)) (Int×(AJ))):= if K.2.1≤p1 then((f168 fuel K.2.2 K.1 K.2.1).bind fun O=> (As (K.2.1+20)).bind fun U=> some (.more (K.2.1,U,O))) else(some (.done (K.1,K.2.2)))
def R9(fuel:Nat)(p1:Int)(K:Int)(O:Int)(U:Unit):Option (Bd Unit Unit):= if O≤p1 then((As (0+K)).bind fun V=> none) else(some (.done ()))
def SA(fuel:Nat)(p1:Int)(K:Int):Option (Bd Int Unit):= if K<p1 then((As (2*K)).bind fun O=> Option.bind (iter (R9 fuel p1 K O) fuel ()) fun Y=> (As (0+K)).bind fun U=> Option.bind (if U<p1 then(none) else(some ())) fun Z=> (As (K*2)).bind fun V=> some (.more V)) else(some (.done ()))
def f138(fuel:Nat)(p0:AJ)(p1:Int):Option ((AJ)):= Option.bind (iter (Si fuel p1) fuel (0,20,p0)) fun K=> (f168 fuel K.2 K.1 p1).bind fun O=> Option.bind (iter (SA fuel p1) fuel 20) fun U=> some O
theorem aa{K:Nat}{O:Nat}{U:Nat}{ag:AD}{p0:AJ}{p1:Int}(hW:WL 27 Bg E K O U ag p0){fuel:Nat}{r:(AJ)}(av:f138 fuel p0 p1=some r):AN J 138 [.slice (A0 K) U O,iV p1,(fV 125)] E [(K,.cells ag 27 (0,0))] (fun w E' B'=>∃(a0:AD),w= .tuple #[]∧B'= [(K,.cells a0 27 (0,0))]∧WL 27 Bg E' K O U a0 r):=by
 refine A3 func138 fun Q c3 cs H bi bo=>?_;unfold f138 at av;obtain⟨a1,bv,bw⟩:=bs av;refine zg 11 rfl (Bt (fun L s=>∃(al:LH) (f15:AD),Jn E H al [bX K f15 27] [(0,.slice (A0 K) U O),(1,iV p1),(2,(fV 125)),(6,iV 20),(7,iV a1.1)] L s (WL 27 Bg al K O U f15 a1.2)) ?_ ?_)
 ·rintro _ _ ⟨al,f15,rfl,rfl,bU,bV,bW⟩;obtain⟨c4,bY,bZ⟩:=bs bw;refine zg 6 rfl (B8 0 (Te bW bY) rfl rfl Me bV rfl ?_);rintro _ c5 _ b0 ⟨f23,rfl,rfl,b1⟩ b2;obtain⟨c6,b3,b4⟩:=bs bZ;refine JL.done (CK [bX K f23 27] [] (fun c7 a2 b5=>?_) (fun b6=>?_))
  ·obtain rfl:=oi b4;exact JL.fin (v:= .tuple #[]) rfl rfl (Cm.list func138 rfl (vs:= []) trivial) (bo ((bU.Ac b0).Ac a2) rfl ⟨f23,rfl,(by first | rfl | simp | (simp [Value.cells])),(b1.Ai a2)⟩ b5)
  ·refine JL.block (Cp b3 (fun V=> [bX K f23 27]) (fun V=> [(0,.slice (A0 K) U O),(1,iV p1),(2,(fV 125)),(6,iV V)]) Ar b2 ?_);rintro V c8 a3 a4 b7 ⟨c9,am⟩ b8;have a5:=am;unfold SA at a5;refine zg 7 rfl (AM a5 (fun b9 ca=>?_) (fun b9 cb=>?_))
   ·obtain⟨cc,cd,ce⟩:=bs ca;refine zg 5 rfl (AF rfl (fun ρ h=>I6 (h _ _ rfl) (h _ _ rfl) cd) ?_);obtain⟨da,cf,cg⟩:=bs ce;refine zg 4 rfl (CK [bX K f23 27] [(0,.slice (A0 K) U O),(1,iV p1),(2,(fV 125)),(6,iV V),(7,iV 0)] (fun db ci ck=>?_) (fun cm=>?_))
    ·obtain⟨dc,cn,co⟩:=bs cg;refine zg 5 rfl (Ba cn rfl rfl rfl ?_);obtain⟨dd,cp,cq⟩:=bs co;refine zg 8 rfl (CK [bX K f23 27] [(0,.slice (A0 K) U O),(1,iV p1),(2,(fV 125)),(6,iV V)] (fun de cr ct=>?_) (fun cu=>?_))
     ·obtain⟨cv,cw,cy⟩:=bs cq;refine zg 2 rfl (AF rfl (fun ρ h=>I6 (h _ _ rfl) (h _ _ rfl) cw) ?_);refine zg 3 rfl ?_;obtain rfl:=oi cy;exact b8 cv ((a3.Ac ci).Ac cr) ct rfl am
     ·refine AM cp (fun cz cA=>?_) (fun cz cB=>?_)
      ·refine zg 6 rfl ?_;cases cA
      ·refine JL.skip ?_;obtain rfl:=oi cB;exact cu Ar ck rfl
    ·refine JL.block (Cp cf (fun a6=> [bX K f23 27]) (fun a6=> [(0,.slice (A0 K) U O),(1,iV p1),(2,(fV 125)),(6,iV V),(7,iV 0),(8,iV cc)]) Ar a4 ?_);rintro a6 df cC cD cE ⟨dg,a7⟩ dh;have a8:=a7;unfold R9 at a8;refine zg 7 rfl (AM a8 (fun cF cG=>?_) (fun cF cH=>?_))
     ·obtain⟨di,cI,cJ⟩:=bs cG;refine zg 8 rfl (Ba cI rfl rfl rfl ?_);refine zg 2 rfl ?_;cases cJ
     ·refine JL.exit rfl ?_;obtain rfl:=oi cH;obtain rfl:=cE _ a7;exact cm cC cD rfl
   ·refine JL.exit rfl ?_;obtain rfl:=oi cb;obtain rfl:=b7 _ am;exact b6 a3 a4 rfl
 ·intro cK;refine JL.block (CV bv (fun L s Y=>∃(Z:LH) (f104:AD),Jn E H Z [bX K f104 27] [(0,.slice (A0 K) U O),(1,iV p1),(2,(fV 125)),(6,iV 20),(7,iV Y.1),(8,iV Y.2.1)] L s (WL 27 Bg Z K O U f104 Y.2.2)) ⟨E,ag,rfl,rfl,Ar,bi,hW⟩ ?_);rintro _ _ Y ⟨Z,f104,rfl,rfl,a9,bb,bd⟩ cM ⟨dj,ap⟩ cN;have be:=ap;unfold Si at be;refine zg 7 rfl (AM be (fun cO cP=>?_) (fun cO cQ=>?_))
  ·obtain⟨cR,cT,cV⟩:=bs cP;refine zg 8 rfl (B8 0 (Te bd cT) rfl rfl Me bb rfl ?_);rintro _ cW _ cX ⟨f119,rfl,rfl,cY⟩ cZ;obtain⟨c0,c1,c2⟩:=bs cV;refine zg 9 rfl (Ba c1 rfl rfl rfl ?_);refine zg 3 rfl ?_;obtain rfl:=oi c2;exact Ay (cN _ _ (Y.2.1,c0,cR) ⟨cW,f119,rfl,rfl,(a9.Ac cX),cZ,cY⟩ ap) rfl
  ·refine JL.exit rfl ?_;obtain rfl:=oi cQ;obtain rfl:=cM _ ap;exact Ay (cK _ _ ⟨Z,f104,rfl,rfl,a9,bb,bd⟩) rfl
def f124(fuel:Nat)(p0:AJ):Option ((AJ)):= (f138 fuel p0 (p0.length:Int)).bind fun K=> some K
theorem Y6{K:Nat}{O:Nat}{U:Nat}{V:AD}{p0:AJ}(hW:WL 27 Bg E K O U V p0){fuel:Nat}{r:(AJ)}(Y:f124 fuel p0=some r):AN J 124 [.slice (A0 K) U O,(fV 125)] E [(K,.cells V 27 (0,0))] (fun w E' B'=>∃(Z:AD),w= .tuple #[]∧B'= [(K,.cells Z 27 (0,0))]∧WL 27 Bg E' K O U Z r):=by
 refine A3 func124 fun Q a2 cs H ag al=>?_;unfold f124 at Y;refine zg 3 rfl (AF (v:=iV (p0.length:Int)) rfl (fun ρ h=>Sz (hW).2 rfl underlying25 (h _ _ rfl)) ?_);obtain⟨a3,am,ap⟩:=bs Y;refine zg 1 rfl (B8 0 (aa hW am) rfl rfl (AV func138 rfl) ag rfl ?_);rintro _ a4 _ av ⟨f7,rfl,rfl,a0⟩ a1;refine JL.done ?_;obtain rfl:=oi ap;exact JL.fin (v:= .tuple #[]) rfl rfl (Cm.list func124 rfl (vs:= []) trivial) (al av rfl ⟨f7,rfl,(by first | rfl | simp | (simp [Value.cells])),a0⟩ a1)
def Rv(fuel:Nat)(p1:Int)(K:Int)(U:Unit):Option (Bd Unit Unit):= Option.bind (if p1<K then(none) else(some false)) fun O=> if O=true then((As (K - 1)).bind fun V=> (As (K - 1)).bind fun Y=> none) else(some (.done ()))
def RA(fuel:Nat)(p1:Int)(p2:Int)(K:Int):Option (Bd Int Unit):= if K<p2 then(Option.bind (iter (Rv fuel p1 K) fuel ()) fun U=> (As (K+1)).bind fun O=> some (.more O)) else(some (.done ()))
def NX(fuel:Nat)(p1:Int)(p2:Int):Option Unit:= (As (p1+1)).bind fun K=> Option.bind (iter (RA fuel p1 p2) fuel K) fun O=> some ()
theorem SB{p1:Int}{p2:Int}{fuel:Nat}{r:Unit}(V:NX fuel p1 p2=some r):AN J 168 [nS,iV p1,iV p2,(fV 125)] E [] (fun w E' B'=>w= .tuple #[]∧B'= []):=by
 refine A3 func168 fun Q cm cs H a2 a3=>?_;unfold NX at V;obtain⟨cn,a4,a5⟩:=bs V;refine zg 3 rfl (Ba a4 rfl rfl rfl ?_);obtain⟨co,a6,a7⟩:=bs a5;refine zg 2 rfl (CK [] [] (fun cp a8 a9=>?_) (fun bb=>?_))
 ·obtain rfl:=oi a7;exact JL.fin (v:= .tuple #[]) rfl rfl (Cm.list func168 rfl (vs:= []) trivial) (a3 a8 rfl ⟨rfl,rfl⟩ a9)
 ·refine JL.block (Cp a6 (fun K=> []) (fun K=> [(0,.slice none 0 0),(1,iV p1),(2,iV p2),(3,(fV 125)),(8,iV K)]) Ar a2 ?_);rintro K cq Y Z bd ⟨cr,O⟩ be;have ag:=O;unfold RA at ag;refine zg 7 rfl (AM ag (fun bi bo=>?_) (fun bi bv=>?_))
  ·obtain⟨ct,bw,bU⟩:=bs bo;refine zg 8 rfl (CK [] [(0,.slice none 0 0),(1,iV p1),(2,iV p2),(3,(fV 125)),(8,iV K)] (fun cu bV bW=>?_) (fun bY=>?_))
   ·obtain⟨bZ,b0,b1⟩:=bs bU;refine zg 3 rfl (Ba b0 rfl rfl rfl ?_);refine zg 2 rfl ?_;obtain rfl:=oi b1;exact be bZ (Y.Ac bV) bW rfl O
   ·refine JL.block (Cp bw (fun al=> []) (fun al=> [(0,.slice none 0 0),(1,iV p1),(2,iV p2),(3,(fV 125)),(8,iV K),(9,iV K)]) Ar Z ?_);rintro al am b2 b3 b4 ⟨cv,ap⟩ cw;have av:=ap;unfold Rv at av;refine zg 2 rfl (C5 17 fun ht=>?_);refine AZ ht rfl [0,1,2,3] rfl ?_;obtain⟨b5,a0,b6⟩:=bs av;refine Eg 0 #[true,true,true,true,true,true,true,true,true,true,true,true,true,true,true,true,true] (fun L s=>∃(a1:LH),Jm am H a1 [] [(0,.slice none 0 0),(1,iV p1),(2,iV p2),(3,(fV 125)),(8,iV K),(9,iV K),(34,.bool b5)] L s) ?_ ?_
    ·rintro _ _ ⟨a1,rfl,rfl,b7,b8⟩;refine AY.fin (by decide+kernel) (BI b6 (fun b9 ca=>?_) (fun b9 cb=>?_))
     ·refine zg 3 rfl (C5 16 fun ht=>?_);refine AZ ht rfl [0,1,2,3] rfl ?_;obtain⟨cy,cc,cd⟩:=bs ca;refine BA 4 ht rfl rfl (fun ρ h s' hs=>Da (h _ _ rfl) (h _ _ rfl) cc) (AZ ht rfl [5,6] rfl ?_);obtain⟨cz,ce,cf⟩:=bs cd;refine BA 7 ht rfl rfl (fun ρ h s' hs=>Da (h _ _ rfl) (h _ _ rfl) ce) ?_;cases cf
     ·refine JL.exit rfl ?_;obtain rfl:=oi cb;obtain rfl:=b4 _ ap;exact bY (b2.Ac b7) b8 rfl
    ·intro cg;refine EW (q:=p1<K) (i:=21) rfl (fun U=>?_) (fun U=>?_)
     ·have ci:=ip a0 U;refine AZ ht rfl [4,5,6] rfl ?_;cases ci
     ·have ck:=im a0 U;refine AZ ht rfl [4,5,6,7,8,9,10,11,12,13,14,15,16] rfl ?_;obtain rfl:=oi ck;refine CH ?_ (cg _ _ ⟨am,rfl,rfl,Ar,b3⟩);exact⟨rfl,rfl,rfl,rfl,rfl,rfl,rfl,trivial⟩
  ·refine JL.exit rfl ?_;obtain rfl:=oi bv;obtain rfl:=bd _ O;exact bb Y Z rfl
def RY(fuel:Nat)(p1:Int)(K:Int×Int):Option (Bd (Int×Int) Int):= if K.2≤p1 then((NX fuel K.1 K.2).bind fun U=> (As (K.2+20)).bind fun O=> some (.more (K.2,O))) else(some (.done K.1))
def RP(fuel:Nat)(p1:Int)(K:Int)(O:Int)(U:Unit):Option (Bd Unit Unit):= if O≤p1 then((As (0+K)).bind fun V=> none) else(some (.done ()))
def Rm(fuel:Nat)(p1:Int)(K:Int):Option (Bd Int Unit):= if K<p1 then((As (2*K)).bind fun O=> Option.bind (iter (RP fuel p1 K O) fuel ()) fun Y=> (As (0+K)).bind fun U=> Option.bind (if U<p1 then(none) else(some ())) fun Z=> (As (K*2)).bind fun V=> some (.more V)) else(some (.done ()))
def PU(fuel:Nat)(p1:Int):Option Unit:= Option.bind (iter (RY fuel p1) fuel (0,20)) fun K=> (NX fuel K p1).bind fun O=> Option.bind (iter (Rm fuel p1) fuel 20) fun U=> some ()
theorem XU{p1:Int}{fuel:Nat}{r:Unit}(Y:PU fuel p1=some r):AN J 138 [nS,iV p1,(fV 125)] E [] (fun w E' B'=>w= .tuple #[]∧B'= []):=by
 refine A3 func138 fun Q cO cs H a3 a4=>?_;unfold PU at Y;obtain⟨a5,a6,a7⟩:=bs Y;refine zg 11 rfl (CK [] [(0,.slice none 0 0),(1,iV p1),(2,(fV 125)),(6,iV 20),(7,iV a5)] (fun cP a8 a9=>?_) (fun bb=>?_))
 ·obtain⟨cQ,bd,be⟩:=bs a7;refine zg 6 rfl (BH (SB bd) rfl rfl Me a9 fun cR bi bo=>?_);obtain⟨cT,bv,bw⟩:=bs be;refine JL.done (CK [] [] (fun cV bU bV=>?_) (fun bW=>?_))
  ·obtain rfl:=oi bw;exact JL.fin (v:= .tuple #[]) rfl rfl (Cm.list func138 rfl (vs:= []) trivial) (a4 ((a8.Ac bi).Ac bU) rfl ⟨rfl,rfl⟩ bV)
  ·refine JL.block (Cp bv (fun K=> []) (fun K=> [(0,.slice none 0 0),(1,iV p1),(2,(fV 125)),(6,iV K)]) Ar bo ?_);rintro K cW Z ag bY ⟨cX,U⟩ bZ;have al:=U;unfold Rm at al;refine zg 7 rfl (AM al (fun b0 b1=>?_) (fun b0 b2=>?_))
   ·obtain⟨b3,b4,b5⟩:=bs b1;refine zg 5 rfl (AF rfl (fun ρ h=>I6 (h _ _ rfl) (h _ _ rfl) b4) ?_);obtain⟨cY,b6,b7⟩:=bs b5;refine zg 4 rfl (CK [] [(0,.slice none 0 0),(1,iV p1),(2,(fV 125)),(6,iV K),(7,iV 0)] (fun cZ b8 b9=>?_) (fun ca=>?_))
    ·obtain⟨c0,cb,cc⟩:=bs b7;refine zg 5 rfl (Ba cb rfl rfl rfl ?_);obtain⟨c1,cd,ce⟩:=bs cc;refine zg 8 rfl (CK [] [(0,.slice none 0 0),(1,iV p1),(2,(fV 125)),(6,iV K)] (fun c2 cf cg=>?_) (fun ci=>?_))
     ·obtain⟨ck,cm,cn⟩:=bs ce;refine zg 2 rfl (AF rfl (fun ρ h=>I6 (h _ _ rfl) (h _ _ rfl) cm) ?_);refine zg 3 rfl ?_;obtain rfl:=oi cn;exact bZ ck ((Z.Ac b8).Ac cf) cg rfl U
     ·refine AM cd (fun co cp=>?_) (fun co cq=>?_)
      ·refine zg 6 rfl ?_;cases cp
      ·refine JL.skip ?_;obtain rfl:=oi cq;exact ci Ar b9 rfl
    ·refine JL.block (Cp b6 (fun am=> []) (fun am=> [(0,.slice none 0 0),(1,iV p1),(2,(fV 125)),(6,iV K),(7,iV 0),(8,iV b3)]) Ar ag ?_);rintro am c3 cr ct cu ⟨c4,ap⟩ c5;have av:=ap;unfold RP at av;refine zg 7 rfl (AM av (fun cv cw=>?_) (fun cv cy=>?_))
     ·obtain⟨c6,cz,cA⟩:=bs cw;refine zg 8 rfl (Ba cz rfl rfl rfl ?_);refine zg 2 rfl ?_;cases cA
     ·refine JL.exit rfl ?_;obtain rfl:=oi cy;obtain rfl:=cu _ ap;exact ca cr ct rfl
   ·refine JL.exit rfl ?_;obtain rfl:=oi b2;obtain rfl:=bY _ U;exact bW Z ag rfl
 ·refine JL.block (Cp a6 (fun O=> []) (fun O=> [(0,.slice none 0 0),(1,iV p1),(2,(fV 125)),(6,iV 20),(7,iV O.1),(8,iV O.2)]) Ar a3 ?_);rintro O c7 a0 a1 cB ⟨c8,V⟩ cC;have a2:=V;unfold RY at a2;refine zg 7 rfl (AM a2 (fun cD cE=>?_) (fun cD cF=>?_))
  ·obtain⟨c9,cG,cH⟩:=bs cE;refine zg 8 rfl (BH (SB cG) rfl rfl Me a1 fun da cI cJ=>?_);obtain⟨cK,cM,cN⟩:=bs cH;refine zg 9 rfl (Ba cM rfl rfl rfl ?_);refine zg 3 rfl ?_;obtain rfl:=oi cN;exact cC (O.2,cK) (a0.Ac cI) cJ rfl V
  ·refine JL.exit rfl ?_;obtain rfl:=oi cF;obtain rfl:=cB _ V;exact bb a0 a1 rfl
def TG(fuel:Nat):Option Unit:= (PU fuel ((0:Nat):Int)).bind fun K=> some ()
theorem Xx{fuel:Nat}{r:Unit}(K:TG fuel=some r):AN J 124 [nS,(fV 125)] E [] (fun w E' B'=>w= .tuple #[]∧B'= []):=by
 refine A3 func124 fun Q al cs H O U=>?_;unfold TG at K;refine zg 3 rfl (Bh underlying25 rfl rfl rfl ?_);obtain⟨am,V,Y⟩:=bs K;refine zg 1 rfl (BH (XU V) rfl rfl (AV func138 rfl) O fun ap Z ag=>?_);refine JL.done ?_;obtain rfl:=oi Y;exact JL.fin (v:= .tuple #[]) rfl rfl (Cm.list func124 rfl (vs:= []) trivial) (U Z rfl ⟨rfl,rfl⟩ ag)
theorem XO{J:Judge Tryz.prog}{E:LH}{a:Ap}{c:Nat}{g:Seg}{p0:AJ}(V:OL 27 Bg E a c g p0){fuel:Nat}{r:AJ}(K:f124 fuel p0=some r):
  AN J 124 [.slice a p0.length c,.func (.func 125) #[] #[]] E g (fun w E' B'=>w= .tuple #[]∧OL 27 Bg E' a c B' r∧r.length=p0.length):=by
 rcases V.cases with⟨rfl,rfl,rfl,rfl⟩ | ⟨bk,f,rfl,rfl,hW⟩
 ·have Y:r= []:=by
   cases fuel with
   | zero=>exact absurd K (by simp [f124,f138,iter])
   | succ fuel=>
    cases fuel with
    | zero=>exact(Option.some.inj (K.symm.trans (by rfl:f124 1 []=some []))).trans rfl
    | succ fuel=>exact(Option.some.inj (K.symm.trans (by rfl:f124 (fuel+2) []=some []))).trans rfl
  subst Y;refine(Xx (fuel:=10) (r:=()) rfl).Ai ?_;rintro w E' B' hle ⟨O,rfl⟩;exact⟨O,OL.nil,rfl⟩
 ·refine(Y6 hW K).Ai ?_;rintro w E' B' hle ⟨Z,O,rfl,U⟩;exact⟨O,U.1,U.2⟩
end Pal
namespace Pal
open Go Go.Conc Go.Proofs
open Go.Proofs.Tryz
def f94(fuel:Nat)(p0:AJ)(p1:AJ):Option ((AJ)):= (CQ p0 p1).bind fun K=> (f123 fuel K).bind fun O=> (f124 fuel O).bind fun U=> some U
theorem aT{E:LH}{K:Ap}{c2:Nat}{O:Ap}{U:Nat}{p0:AJ}{p1:AJ}(Z:Al Bg E K c2 p0)(a3:Al Bg E O U p1){fuel:Nat}{r:(AJ)}(am:f94 fuel p0 p1=some r):AN (D4 Tryz.prog) 94 [sV K p0 c2,sV O p1 U] E [] (fun w E' B'=>∃(ap:Ap) (av:Nat),w= sV ap r av∧B'= []∧Al Bg E' ap av r):=by
 refine A3 func94 fun Q b2 cs H a4 a5=>?_;unfold f94 at am;refine zg 8 rfl (Bh underlying25 rfl rfl rfl ?_);refine zg 1 rfl (Bh underlying25 rfl rfl rfl ?_);refine AF (v:= .slice K p0.length p0.length) rfl (fun ρ h=>UO (Al.spot Z) (And.left Z) underlying25 BF (h _ _ rfl) (h _ _ rfl) (h _ _ rfl)) ?_;obtain⟨a0,a6,a7⟩:=bs am;refine zg 1 rfl (UL (pp:=Bg) a6 rfl rfl rfl rfl rfl rfl rfl underlying25 underlying25 BF (Cy type27) C7 rfl (by decide) (by decide) Z a3 a4 fun b3 a1 a2 a8 a9 bb=>?_);obtain⟨b4,bd,be⟩:=bs a7;refine zg 5 rfl (BN (Zv a9 bd) rfl rfl (AV func123 rfl) bb ?_);rintro _ b5 _ bi ⟨V,Y,b6,rfl,rfl,bo⟩ bv;obtain⟨ag,bw,bU⟩:=bs be;refine zg 5 rfl (B8 2 (XO bo bw) rfl rfl (AV func124 rfl) bv rfl ?_);rintro _ b7 b8 bV ⟨rfl,bW,al⟩ bY;refine Gn (L':= [(17,.tuple #[]),(0,.slice K p0.length c2),(1,.slice O p1.length U),(4,.slice none 0 0),(6,.slice K p0.length c2),(7,.slice K p0.length c2),(8,iV (p0.length:Int)),(9,.slice K p0.length c2),(10,iV (p0.length:Int)),(11,.slice K p0.length p0.length),(12,.slice O p1.length U),(13,.slice a1 a0.length a2),(5,.slice V ag.length Y),(14,.slice a1 a0.length a2),(15,.slice V ag.length Y),(16,.slice V ag.length Y)]) ⟨rfl,rfl,rfl,rfl,rfl,rfl,rfl,rfl,rfl,rfl,rfl,rfl,by rw [al];rfl,rfl,by rw [al];rfl,by rw [al];rfl,trivial⟩ ?_;refine zg 6 rfl (BU 2 bW bY rfl fun b9 bZ b0 b1=>?_);obtain rfl:=oi bU;exact AB func94 rfl rfl (a5 (((a8.Ac bi).Ac bV).Ac bZ) rfl ⟨V,Y,rfl,rfl,b0⟩ b1)
end Pal
namespace Pal
open Go Go.Conc Go.Proofs
open Go.Proofs.Tryz
def Ob:List Nat:= [0,1,1,2,1,2,2,3,1,2,2,3,2,3,3,4,1,2,2,3,2,3,3,4,2,3,3,4,3,4,4,5,1,2,2,3,2,3,3,4,2,3,3,4,3,4,4,5,2,3,3,4,3,4,4,5,3,4,4,5,4,5,5,6,1,2,2,3,2,3,3,4,2,3,3,4,3,4,4,5,2,3,3,4,3,4,4,5,3,4,4,5,4,5,5,6,2,3,3,4,3,4,4,5,3,4,4,5,4,5,5,6,3,4,4,5,4,5,5,6,4,5,5,6,5,6,6,7,1,2,2,3,2,3,3,4,2,3,3,4,3,4,4,5,2,3,3,4,3,4,4,5,3,4,4,5,4,5,5,6,2,3,3,4,3,4,4,5,3,4,4,5,4,5,5,6,3,4,4,5,4,5,5,6,4,5,5,6,5,6,6,7,2,3,3,4,3,4,4,5,3,4,4,5,4,5,5,6,3,4,4,5,4,5,5,6,4,5,5,6,5,6,6,7,3,4,4,5,4,5,5,6,4,5,5,6,5,6,6,7,4,5,5,6,5,6,6,7,5,6,6,7,6,7,7,8]
def f86(fuel:Nat)(p0:Nat):Option Int:= (LP Ob ((((p0>>>8):Nat):Int))).bind fun K=> (Kk p0 (255)).bind fun O=> (LP Ob ((((O):Nat):Int))).bind fun U=> (As ((((K+U) % 256):Nat):Int)).bind fun V=> some V
theorem aX{E:LH}{p0:Nat}{fuel:Nat}{r:Int}(K:f86 fuel p0=some r):AN (D4 Tryz.prog) 86 [uV p0] E [] (fun w E' B'=>w=iV r∧B'= []):=by
 refine A3 func86 fun Q a4 cs H V Y=>?_;unfold f86 at K;refine zg 5 rfl (C5 6 fun ht=>?_);refine Ck 0 ht rfl rfl (BA (v:= .int .u16 ((p0>>>8:Nat):Int)) 1 ht rfl rfl (fun ρ h s' hs=>WK 8 (h _ _ rfl) (h _ _ rfl) (by decide)) ?_);obtain⟨O,Z,ag⟩:=bs K;refine BA (v:= .int .u8 ((O:Nat):Int)) 2 ht rfl rfl (fun ρ h s' hs=>OV (l:=Ob) (by decide+kernel) underlying9 (h _ _ rfl) (h _ _ rfl) Z) (Ck 3 ht rfl rfl ?_);obtain⟨al,am,ap⟩:=bs ag;refine BA (v:= uV al) 4 ht rfl rfl (fun ρ h s' hs=>OT (h _ _ rfl) (h _ _ rfl) am) ?_;obtain⟨U,av,a0⟩:=bs ap;refine BA (v:= .int .u8 ((U:Nat):Int)) 5 ht rfl rfl (fun ρ h s' hs=>OV (l:=Ob) (by decide+kernel) underlying9 (h _ _ rfl) (h _ _ rfl) av) (Cj [6,7,8] ?_);refine AF (v:= .int .u8 (((O+U) % 256:Nat):Int)) rfl (fun ρ h=>Wx (h _ _ rfl) (h _ _ rfl)) ?_;obtain⟨a1,a2,a3⟩:=bs a0;refine AF (v:=iV a1) rfl (fun ρ h=>SH underlying5 underlying3 (h _ _ rfl) a2) (zg 2 rfl ?_);obtain rfl:=oi a3;exact AB func86 rfl rfl (Y Ar rfl ⟨rfl,rfl⟩ V)
end Pal
namespace Pal
open Go Go.Conc Go.Proofs
open Go.Proofs.Tryz
def f85(fuel:Nat)(p0:Nat):Option Int:= (f86 fuel p0).bind fun K=> some K
theorem TP{E:LH}{p0:Nat}{fuel:Nat}{r:Int}(K:f85 fuel p0=some r):AN (D4 Tryz.prog) 85 [uV p0] E [] (fun w E' B'=>w=iV r∧B'= []):=by
 refine A3 func85 fun Q al cs H O U=>?_;unfold f85 at K;obtain⟨am,V,Y⟩:=bs K;refine zg 7 rfl (BH (aX V) rfl rfl (AV func86 rfl) O fun ap Z ag=>?_);refine zg 2 rfl ?_;obtain rfl:=oi Y;exact AB func85 rfl rfl (U Z rfl ⟨rfl,rfl⟩ ag)
end Pal
namespace Pal
open Go Go.Conc Go.Proofs
open Go.Proofs.Tryz
end Pal
namespace Pal
open Go Go.Conc Go.Proofs
open Go.Proofs.Tryz
end Pal
namespace Pal
open Go Go.Conc Go.Proofs
open Go.Proofs.Tryz
end Pal
namespace Pal
open Go Go.Conc Go.Proofs
open Go.Proofs.Tryz
variable {J:Judge Tryz.prog}{E:LH}
def Nl(fuel:Nat)(V:Int×(B7))(Y:(List (List Int))×(List (List Int))×(List Int)×Int×Nat×Int)(K:(List Int)×Int×Nat×(List Int)×Int):Option (Bd ((List Int)×Int×Nat×(List Int)×Int) ((List Int)×B7)):= Option.bind (if 0<K.2.2.2.2 then(some (decide (1<V.1))) else(some false)) fun ag=> if ag=true then((As (Y.2.2.2.2.2 - 1)).bind fun al=> (f41 fuel (K.1,K.2.1,K.2.2.1) (max (0) al)).bind fun Z=> (f97 fuel Z.2 6).bind fun O=> Option.bind (if O.1=true then((As (V.1 - 1)).bind fun am=> (f41 fuel O.2 am).bind fun ap=> some ap) else(some (Z.1,O.2.1,O.2.2.1,O.2.2.2))) fun U=> Option.bind (if U.1≠Y.2.2.2.2.2 then((f98 fuel K.2.2.2.1 U.1).bind fun av=> some av) else(some K.2.2.2.1)) fun a0=> (As (K.2.2.2.2 - 1)).bind fun a1=> some (.more (U.2.1,U.2.2.1,U.2.2.2,a0,a1))) else(some (.done (K.2.2.2.1,K.1,K.2.1,K.2.2.1)))
def ND(fuel:Nat)(O:Int×(B7))(K:(List (List Int))×(List (List Int))×(List Int)×Int×Nat×Int):Option (Bd ((List (List Int))×(List (List Int))×(List Int)×Int×Nat×Int) ((List Int)×Int×Nat×A9)):= if K.2.2.2.2.2<O.1 then((As (O.1 - 1)).bind fun am=> (As (K.2.2.2.2.2+1)).bind fun ap=> (f97 fuel (K.2.2.1,K.2.2.2.1,K.2.2.2.2.1) 3).bind fun U=> Option.bind (if U.1=true then((As (O.1 - 1)).bind fun a1=> (f96 fuel U.2 K.2.2.2.2.2 a1).bind fun Y=> (f98 fuel ([min am ap]:List Int) Y.1).bind fun a2=> some (a2,Y.2.1,Y.2.2.1,Y.2.2.2)) else(some (([min am ap]:List Int),U.2.1,U.2.2.1,U.2.2.2))) fun av=> (f97 fuel av.2 8).bind fun V=> Option.bind (if V.1=true then((As (O.1 - 1)).bind fun a3=> (f41 fuel V.2 a3).bind fun Z=> some (([Z.1]:List Int),Z.2.1,Z.2.2.1,Z.2.2.2)) else(some (av.1,V.2.1,V.2.2.1,V.2.2.2))) fun a0=> (f99 fuel a0.2 ([0,1,1,2]:List Int)).bind fun ag=> Option.bind (iter (Nl fuel O K) fuel (ag.2.1,ag.2.2.1,ag.2.2.2,[],ag.1)) fun al=> (CQ K.1 ([a0.1]:List (List Int))).bind fun a4=> (CQ K.2.1 ([al.1]:List (List Int))).bind fun a5=> (As (K.2.2.2.2.2+1)).bind fun a6=> some (.more (a4,a5,al.2.1,al.2.2.1,al.2.2.2,a6))) else(some (.done (K.2.2.1,K.2.2.2.1,K.2.2.2.2.1,K.1,K.2.1)))
def f39(fuel:Nat)(p0:B7)(p1:Int):Option ((A9)×(B7)):= (f96 fuel p0 1 p1).bind fun K=> Option.bind (iter (ND fuel K) fuel ([],[],K.2.1,K.2.2.1,K.2.2.2,0)) fun O=> some (O.2.2.2,(O.1,O.2.1,O.2.2.1))
theorem aW{bk:Nat}{c8:Ap}{c2:Nat}{p0:B7}{p1:Int}(el:Al rI E c8 c2 p0.1){fuel:Nat}{r:(A9)×(B7)}(c9:f39 fuel p0 p1=some r):AN J 39 [pV bk 0,iV p1] E [(bk,.cells #[sV c8 p0.1 c2,iV p0.2.1,.int .u64 ((p0.2.2:Nat):Int)] 92 (0,0))] (fun w E' B'=>∃(da:Ap) (db:Nat) (dc:Ap) (dd:Nat) (de:Ap) (df:Nat),w= .agg #[sV da r.1.1 db,sV dc r.1.2 dd]∧B'= [(bk,.cells #[sV de r.2.1 df,iV r.2.2.1,.int .u64 ((r.2.2.2:Nat):Int)] 92 (0,0))]∧Al (rL rI) E' da db r.1.1∧Al (rL rI) E' dc dd r.1.2∧Al rI E' de df r.2.1):=by
 refine A3 func39 fun Q iD cs H em en=>?_;unfold f39 at c9;refine zg 2 rfl (CW em GZ fun U eo=>?_);refine zg 3 rfl (CW eo GZ fun O ep=>?_);obtain⟨a4,eq,er⟩:=bs c9;refine zg 5 rfl (B8 0 (PV el eq) rfl rfl OA ep rfl ?_);rintro _ cy _ et ⟨dg,dh,rfl,rfl,eu⟩ ew;refine Cw (S':= [[(bk,.cells #[sV dg a4.2.1 dh,iV a4.2.2.1,.int .u64 ((a4.2.2.2:Nat):Int)] 92 (0,0))],[(U,.cells #[nS,nS] 24 (0,0))],[(O,.cells #[nS,nS] 24 (0,0))]]) rfl ew fun ex=>?_;obtain⟨Y,ey,ez⟩:=bs er;refine zg 7 rfl (Bt (fun L s=>∃(b8:LH) (b9:Ap) (ca:Nat) (a8:Ap) (a9:Nat) (cz:Seg) (bb:Ap) (bd:Nat) (cA:Seg),Jn cy H b8 [bX bk #[sV b9 Y.1 ca,iV Y.2.1,.int .u64 ((Y.2.2.1:Nat):Int)] 92,bX U #[nS,nS] 24,bX O #[sV a8 Y.2.2.2.1 a9,sV bb Y.2.2.2.2 bd] 24,cz,cA] [(4,pV U 0),(5,pV O 0)] L s (Al rI b8 b9 ca Y.1∧OL 28 (rL rI) b8 a8 a9 cz Y.2.2.2.1∧OL 28 (rL rI) b8 bb bd cA Y.2.2.2.2)) ?_ ?_)
 ·rintro _ _ ⟨b8,b9,ca,a8,a9,cz,bb,bd,cA,rfl,rfl,eA,di,eB,eC,eD⟩;refine zg 2 rfl (AF rfl (fun ρ h=>F5 (vs:= [sV a8 Y.2.2.2.1 a9,sV bb Y.2.2.2.2 bd]) Cd BJ (h _ _ rfl) (F2 (off:=0) 2 di rfl rfl)) ?_);refine BW 1 di BJ fun eE=>?_;refine JL.done (BU 3 eC eE rfl fun iE cB eF eG=>?_);refine BU 4 (eD.Ai cB) eG rfl fun iF cC eH eI=>Cw (S':= [[(bk,.cells #[sV b9 Y.1 ca,iV Y.2.1,.int .u64 ((Y.2.2.1:Nat):Int)] 92 (0,0))],[(U,.cells #[sV a8 Y.2.2.2.1 a9,sV bb Y.2.2.2.2 bd] 24 (0,0))],[(O,.cells #[sV a8 Y.2.2.2.1 a9,sV bb Y.2.2.2.2 bd] 24 (0,0))],[],[]]) rfl eI fun eJ=>JS.drop 2 eJ rfl fun dj=>?_;obtain rfl:=oi ez;refine JL.ret (v:= .agg #[sV a8 Y.2.2.2.1 a9,sV bb Y.2.2.2.2 bd]) rfl rfl (Cm.list func39 rfl (vs:= [.agg #[sV a8 Y.2.2.2.1 a9,sV bb Y.2.2.2.2 bd]]) ⟨⟨_,rfl,Ld.many (vs:= [sV a8 Y.2.2.2.1 a9,sV bb Y.2.2.2.2 bd]) Cd BJ (F2 (off:=0) 1 dj rfl rfl)⟩,trivial⟩) (IA 1 dj rfl fun eK=>?_);exact en (((et.Ac eA).Ac cB).Ac cC) rfl ⟨a8,a9,bb,bd,b9,ca,rfl,rfl,(eF.Ai cC),eH,(eB.Ai (cB.Ac cC))⟩ eK
 ·intro eL;refine JL.block (CV ey (fun L s K=>∃(b2:LH) (Z:Ap) (ag:Nat) (ap:Seg) (al:Ap) (am:Nat) (av:Seg) (ci:Ap) (ck:Nat),Jn cy H b2 [bX bk #[sV ci K.2.2.1 ck,iV K.2.2.2.1,.int .u64 ((K.2.2.2.2.1:Nat):Int)] 92,bX U #[nS,nS] 24,bX O #[sV Z K.1 ag,sV al K.2.1 am] 24,ap,av] [(0,pV bk 0),(4,pV U 0),(5,pV O 0),(6,iV a4.1),(7,iV K.2.2.2.2.2)] L s (OL 28 (rL rI) b2 Z ag ap K.1∧OL 28 (rL rI) b2 al am av K.2.1∧Al rI b2 ci ck K.2.2.1)) ⟨cy,none,0,[],none,0,[],dg,dh,rfl,rfl,Ar,ex,OL.nil,OL.nil,eu⟩ ?_);rintro _ _ K ⟨b2,Z,ag,ap,al,am,av,ci,ck,rfl,rfl,cm,dk,cn,co,dl⟩ eM ⟨iG,cb⟩ cD;have dm:=cb;unfold ND at dm;refine zg 7 rfl (AM dm (fun eN eO=>?_) (fun eN eP=>?_))
  ·obtain⟨cE,eQ,eR⟩:=bs eO;refine zg 6 rfl (Cl eQ rfl rfl rfl ?_);obtain⟨cF,eS,eT⟩:=bs eR;refine zg 1 rfl (Ba eS rfl rfl rfl ?_);refine AF (v:=iV (min cE cF)) rfl (fun ρ h=>Yl.min2 (h _ _ rfl) (h _ _ rfl)) (DK (pp:=rI) [iV (min cE cF)] [min cE cF] rfl rfl rfl underlying28 AX CU (by decide) rfl rfl rfl ⟨rfl,trivial⟩ dk fun eU eV dn eW=>?_);obtain⟨cG,eX,eY⟩:=bs eT;refine zg 6 rfl (B8 0 (LI dl eX) rfl rfl Kz eW rfl ?_);rintro _ eZ _ a5 ⟨dp,dq,rfl,rfl,dr⟩ dt;obtain⟨b3,e0,e1⟩:=bs eY;refine JL.done (Bt (fun L s=>∃(cp:LH) (cq:Ap) (cr:Nat) (cH:Ap) (cI:Nat),Jn eZ H cp [bX bk #[sV cH b3.2.1 cI,iV b3.2.2.1,.int .u64 ((b3.2.2.2:Nat):Int)] 92,bX U #[nS,nS] 24,bX O #[sV Z K.1 ag,sV al K.2.1 am] 24,ap,av] [(0,pV bk 0),(4,pV U 0),(5,pV O 0),(6,iV a4.1),(7,iV K.2.2.2.2.2),(8,sV cq b3.1 cr)] L s (Al rI cp cq cr b3.1∧Al rI cp cH cI b3.2.1)) ?_ ?_)
   ·rintro _ _ ⟨cp,cq,cr,cH,cI,rfl,rfl,bv,e2,e3,e4⟩;obtain⟨cJ,e5,e6⟩:=bs e1;refine zg 4 rfl (B8 0 (LI e4 e5) rfl rfl Kz e2 rfl ?_);rintro _ du _ be ⟨dv,dw,rfl,rfl,dx⟩ e7;refine Cw (S':= [[(bk,.cells #[sV dv cJ.2.1 dw,iV cJ.2.2.1,.int .u64 ((cJ.2.2.2:Nat):Int)] 92 (0,0))],[(U,.cells #[nS,nS] 24 (0,0))],[(O,.cells #[sV Z K.1 ag,sV al K.2.1 am] 24 (0,0))],ap,av]) rfl e7 fun dy=>?_;obtain⟨a1,e8,e9⟩:=bs e6;refine JL.done (Bt (fun L s=>∃(ct:LH) (bi:Ap) (bo:Nat) (cK:Ap) (cM:Nat),Jn du H ct [bX bk #[sV cK a1.2.1 cM,iV a1.2.2.1,.int .u64 ((a1.2.2.2:Nat):Int)] 92,bX U #[nS,nS] 24,bX O #[sV Z K.1 ag,sV al K.2.1 am] 24,ap,av] [(0,pV bk 0),(4,pV U 0),(5,pV O 0),(6,iV a4.1),(7,iV K.2.2.2.2.2),(8,sV bi a1.1 bo)] L s (Al rI ct bi bo a1.1∧Al rI ct cK cM a1.2.1)) ?_ ?_)
    ·rintro _ _ ⟨ct,bi,bo,cK,cM,rfl,rfl,bw,fa,dz,fb⟩;refine zg 8 rfl (DK (pp:=rI) [iV 0,iV 1,iV 1,iV 2] [0,1,1,2] rfl rfl rfl underlying28 AX CU (by decide) rfl rfl rfl ⟨rfl,rfl,rfl,rfl,trivial⟩ fa fun iH iI fc fd=>?_);refine BU 5 fc fd rfl fun iJ a3 fe ff=>?_;obtain⟨cN,fg,fh⟩:=bs e9;refine B8 0 (NY (fb.Ai a3) fe fg) rfl rfl Mi ff rfl ?_;rintro _ cO _ a6 ⟨dA,dB,rfl,rfl,fj⟩ fk;refine Cw (S':= [[(bk,.cells #[sV dA cN.2.1 dB,iV cN.2.2.1,.int .u64 ((cN.2.2.2:Nat):Int)] 92 (0,0))],[(U,.cells #[nS,nS] 24 (0,0))],[(O,.cells #[sV Z K.1 ag,sV al K.2.1 am] 24 (0,0))],ap,av,[]]) rfl fk fun fm=>?_;obtain⟨V,fo,fp⟩:=bs fh;refine zg 2 rfl (Bt (fun L s=>∃(bW:LH) (b4:Ap) (b5:Nat) (bU:Ap) (bV:Nat),Jn cO H bW [bX bk #[sV bU V.2.1 bV,iV V.2.2.1,.int .u64 ((V.2.2.2:Nat):Int)] 92,bX U #[nS,nS] 24,bX O #[sV Z K.1 ag,sV al K.2.1 am] 24,ap,av] [(0,pV bk 0),(4,pV U 0),(5,pV O 0),(6,iV a4.1),(7,iV K.2.2.2.2.2),(8,sV bi a1.1 bo),(9,sV b4 V.1 b5)] L s (Al rI bW b4 b5 V.1∧Al rI bW bU bV V.2.1)) ?_ ?_)
     ·rintro _ _ ⟨bW,b4,b5,bU,bV,rfl,rfl,a7,cc,cP,cQ⟩;refine Dq 11 [O] ⟨⟨2,_,rfl⟩,trivial⟩ cc fun ht=>B9 0 ht underlying24 BR rfl rfl rfl rfl (Fj 1 ht 0 2 cc Cv ?_);refine Ck 2 ht rfl rfl (B9 5 ht underlying24 BR rfl rfl rfl rfl ?_);refine Fj 6 ht 1 2 cc Cv ?_;refine Ck 7 ht rfl rfl ?_;obtain⟨cR,cT,fq⟩:=bs fp;obtain⟨cV,cW,cX⟩:=bs fq;refine HX (i:=3) (j:=8) rfl (by decide+kernel) ?_ ?_
      ·refine Take.lit (pp:=(rL rI)) (jp:=2) [sV bi a1.1 bo] ([a1.1]:List (List Int)) cc rfl rfl rfl rfl underlying22 BZ Fx (by decide) rfl rfl rfl ⟨⟨_,_,rfl,(dz.Ai ((a3.Ac a6).Ac a7))⟩,trivial⟩ fun iK dC dD dE=>HX (i:=4) (j:=8) rfl (by decide+kernel) ?_ ?_
       ·refine Take.app (pp:=(rL rI)) (jp:=2) 3 5 dE rfl cT rfl rfl rfl rfl rfl rfl rfl underlying22 underlying22 BZ (Cy type28) Fx rfl (by decide) (by decide) (cn.Ai ((((((a5.Ac bv).Ac be).Ac bw).Ac a3).Ac a6).Ac a7)) dD rfl rfl rfl rfl fun fs fu iL dF fv fw=>B9 10 ht underlying24 BR rfl rfl rfl rfl (JG.one (i:=8) rfl (by decide+kernel) ?_);refine Take.lit (pp:=(rL rI)) (jp:=2) [sV b4 V.1 b5] ([V.1]:List (List Int)) fw rfl rfl rfl rfl underlying22 BZ Fx (by decide) rfl rfl rfl ⟨⟨_,_,rfl,cP⟩,trivial⟩ fun iM fx fy fz=>JG.one (i:=9) rfl (by decide+kernel) (Take.app (pp:=(rL rI)) (jp:=2) 4 6 fz rfl cW rfl rfl rfl rfl rfl rfl rfl underlying22 underlying22 BZ (Cy type28) Fx rfl (by decide) (by decide) (co.Ai ((((((a5.Ac bv).Ac be).Ac bw).Ac a3).Ac a6).Ac a7)) fy rfl rfl rfl rfl fun fA fB iN dG fC fD=>?_);refine Cj [11,12,13] (Ep 3 rfl fD fun fE=>?_);refine JS.drop 3 fE rfl fun fF=>Ep 4 rfl fF fun fG=>JS.drop 4 fG rfl fun fH=>Cw (S':= [[(bk,.cells #[sV bU V.2.1 bV,iV V.2.2.1,.int .u64 ((V.2.2.2:Nat):Int)] 92 (0,0))],[(U,.cells #[nS,nS] 24 (0,0))],[(O,.cells #[sV Z K.1 ag,sV al K.2.1 am] 24 (0,0))],[],[],dC,fx,dF,dG]) rfl fH fun fI=>BW 2 fI BR fun fJ=>?_;refine BL underlying24 BR rfl rfl rfl (BW 2 fJ BR fun fK=>?_);obtain⟨fL,fM,fN⟩:=bs cX;refine zg 4 rfl (Ba fM rfl rfl rfl ?_);refine zg 2 rfl (JS.drop 5 fK rfl fun fO=>?_);refine JS.drop 6 fO rfl fun fP=>?_;obtain rfl:=oi fN;exact Ay (cD _ _ (cR,cV,V.2.1,V.2.2.1,V.2.2.2,fL) ⟨bW,fs,fu,dF,fA,fB,dG,bU,bV,rfl,rfl,(((((((cm.Ac a5).Ac bv).Ac be).Ac bw).Ac a3).Ac a6).Ac a7),fP,fv,fC,cQ⟩ cb) rfl
       ·refine Take.lit (pp:=(rL rI)) (jp:=2) [sV b4 V.1 b5] ([V.1]:List (List Int)) dE rfl rfl rfl rfl underlying22 BZ Fx (by decide) rfl rfl rfl ⟨⟨_,_,rfl,cP⟩,trivial⟩ fun iO fQ fR fS=>JG.one (i:=4) rfl (by decide+kernel) (Take.app (pp:=(rL rI)) (jp:=2) 3 5 fS rfl cT rfl rfl rfl rfl rfl rfl rfl underlying22 underlying22 BZ (Cy type28) Fx rfl (by decide) (by decide) (cn.Ai ((((((a5.Ac bv).Ac be).Ac bw).Ac a3).Ac a6).Ac a7)) dD rfl rfl rfl rfl fun fT fU iP dH fW fX=>?_);refine B9 10 ht underlying24 BR rfl rfl rfl rfl (JG.one (i:=9) rfl (by decide+kernel) ?_);refine Take.app (pp:=(rL rI)) (jp:=2) 4 6 fX rfl cW rfl rfl rfl rfl rfl rfl rfl underlying22 underlying22 BZ (Cy type28) Fx rfl (by decide) (by decide) (co.Ai ((((((a5.Ac bv).Ac be).Ac bw).Ac a3).Ac a6).Ac a7)) fR rfl rfl rfl rfl fun fY fZ iQ dI ga gb=>Cj [11,12,13] (Ep 3 rfl gb fun gc=>?_);refine JS.drop 3 gc rfl fun gd=>Ep 4 rfl gd fun ge=>JS.drop 4 ge rfl fun gf=>Cw (S':= [[(bk,.cells #[sV bU V.2.1 bV,iV V.2.2.1,.int .u64 ((V.2.2.2:Nat):Int)] 92 (0,0))],[(U,.cells #[nS,nS] 24 (0,0))],[(O,.cells #[sV Z K.1 ag,sV al K.2.1 am] 24 (0,0))],[],[],dC,fQ,dH,dI]) rfl gf fun gg=>BW 2 gg BR fun gh=>?_;refine BL underlying24 BR rfl rfl rfl (BW 2 gh BR fun gi=>?_);obtain⟨gj,gk,gl⟩:=bs cX;refine zg 4 rfl (Ba gk rfl rfl rfl ?_);refine zg 2 rfl (JS.drop 5 gi rfl fun gm=>?_);refine JS.drop 6 gm rfl fun gn=>?_;obtain rfl:=oi gl;exact Ay (cD _ _ (cR,cV,V.2.1,V.2.2.1,V.2.2.2,gj) ⟨bW,fT,fU,dH,fY,fZ,dI,bU,bV,rfl,rfl,(((((((cm.Ac a5).Ac bv).Ac be).Ac bw).Ac a3).Ac a6).Ac a7),gn,fW,ga,cQ⟩ cb) rfl
      ·refine Take.lit (pp:=(rL rI)) (jp:=2) [sV b4 V.1 b5] ([V.1]:List (List Int)) cc rfl rfl rfl rfl underlying22 BZ Fx (by decide) rfl rfl rfl ⟨⟨_,_,rfl,cP⟩,trivial⟩ fun iR gp gq gr=>JG.one (i:=3) rfl (by decide+kernel) (Take.lit (pp:=(rL rI)) (jp:=2) [sV bi a1.1 bo] ([a1.1]:List (List Int)) gr rfl rfl rfl rfl underlying22 BZ Fx (by decide) rfl rfl rfl ⟨⟨_,_,rfl,(dz.Ai ((a3.Ac a6).Ac a7))⟩,trivial⟩ fun iS gt gu gv=>?_);refine JG.one (i:=4) rfl (by decide+kernel) (Take.app (pp:=(rL rI)) (jp:=2) 3 6 gv rfl cT rfl rfl rfl rfl rfl rfl rfl underlying22 underlying22 BZ (Cy type28) Fx rfl (by decide) (by decide) (cn.Ai ((((((a5.Ac bv).Ac be).Ac bw).Ac a3).Ac a6).Ac a7)) gu rfl rfl rfl rfl fun gw gx iT dJ gy gz=>?_);refine B9 10 ht underlying24 BR rfl rfl rfl rfl (JG.one (i:=9) rfl (by decide+kernel) ?_);refine Take.app (pp:=(rL rI)) (jp:=2) 4 5 gz rfl cW rfl rfl rfl rfl rfl rfl rfl underlying22 underlying22 BZ (Cy type28) Fx rfl (by decide) (by decide) (co.Ai ((((((a5.Ac bv).Ac be).Ac bw).Ac a3).Ac a6).Ac a7)) gq rfl rfl rfl rfl fun gA gB iU dK gC gD=>Cj [11,12,13] (Ep 3 rfl gD fun gE=>?_);refine JS.drop 3 gE rfl fun gF=>Ep 4 rfl gF fun gG=>JS.drop 4 gG rfl fun gH=>Cw (S':= [[(bk,.cells #[sV bU V.2.1 bV,iV V.2.2.1,.int .u64 ((V.2.2.2:Nat):Int)] 92 (0,0))],[(U,.cells #[nS,nS] 24 (0,0))],[(O,.cells #[sV Z K.1 ag,sV al K.2.1 am] 24 (0,0))],[],[],gp,gt,dJ,dK]) rfl gH fun gI=>BW 2 gI BR fun gJ=>?_;refine BL underlying24 BR rfl rfl rfl (BW 2 gJ BR fun gK=>?_);obtain⟨gL,gM,gN⟩:=bs cX;refine zg 4 rfl (Ba gM rfl rfl rfl ?_);refine zg 2 rfl (JS.drop 5 gK rfl fun gO=>?_);refine JS.drop 6 gO rfl fun gP=>?_;obtain rfl:=oi gN;exact Ay (cD _ _ (cR,cV,V.2.1,V.2.2.1,V.2.2.2,gL) ⟨bW,gw,gx,dJ,gA,gB,dK,bU,bV,rfl,rfl,(((((((cm.Ac a5).Ac bv).Ac be).Ac bw).Ac a3).Ac a6).Ac a7),gP,gy,gC,cQ⟩ cb) rfl
     ·intro gQ;refine JL.block (CV fo (fun L s a0=>∃(bY:LH) (cd:Ap) (ce:Nat) (bZ:Ap) (b0:Nat),Jn cO H bY [bX bk #[sV cd a0.1 ce,iV a0.2.1,.int .u64 ((a0.2.2.1:Nat):Int)] 92,bX U #[nS,nS] 24,bX O #[sV Z K.1 ag,sV al K.2.1 am] 24,ap,av] [(0,pV bk 0),(4,pV U 0),(5,pV O 0),(6,iV a4.1),(7,iV K.2.2.2.2.2),(8,sV bi a1.1 bo),(9,sV bZ a0.2.2.2.1 b0),(10,iV a0.2.2.2.2)] L s (Al rI bY cd ce a0.1∧Al rI bY bZ b0 a0.2.2.2.1)) ⟨cO,dA,dB,none,0,rfl,rfl,Ar,fm,fj,Al.nil⟩ ?_);rintro _ _ a0 ⟨bY,cd,ce,bZ,b0,rfl,rfl,dL,dM,dN,cY⟩ gR ⟨iW,cZ⟩ gS;have dO:=cZ;unfold Nl at dO;obtain⟨gT,gU,gV⟩:=bs dO;refine zg 6 rfl (EY [] (fun L s=>∃(c0:LH),Jm bY H c0 [bX bk #[sV cd a0.1 ce,iV a0.2.1,.int .u64 ((a0.2.2.1:Nat):Int)] 92,bX U #[nS,nS] 24,bX O #[sV Z K.1 ag,sV al K.2.1 am] 24,ap,av] [(0,pV bk 0),(4,pV U 0),(5,pV O 0),(6,iV a4.1),(7,iV K.2.2.2.2.2),(8,sV bi a1.1 bo),(9,sV bZ a0.2.2.2.1 b0),(10,iV a0.2.2.2.2),(50,.bool gT)] L s) ?_ ?_)
      ·rintro _ _ ⟨c0,rfl,rfl,b1,dP⟩;refine JL.done (BI gV (fun gW gX=>?_) (fun gW gY=>?_))
       ·obtain⟨gZ,g0,g1⟩:=bs gX;refine zg 7 rfl (Cl g0 rfl rfl rfl ?_);refine AF (v:=iV (max (0) gZ)) rfl (fun ρ h=>Yl.max2 (h _ _ rfl) (h _ _ rfl)) ?_;obtain⟨iX,g3,g4⟩:=bs g1;refine B8 0 (H2 (dN.Ai b1) g3) rfl rfl HK dP rfl ?_;rintro _ iY _ c1 ⟨iZ,i0,rfl,rfl,g5⟩ g6;obtain⟨i1,g7,g8⟩:=bs g4;refine zg 6 rfl (B8 0 (LI g5 g7) rfl rfl Kz g6 rfl ?_);rintro _ dQ _ c3 ⟨g9,ha,rfl,rfl,dR⟩ dS;obtain⟨a2,hb,hc⟩:=bs g8;refine JL.done (Bt (fun L s=>∃(cf:LH) (b6:Ap) (b7:Nat),Jn dQ H cf [bX bk #[sV b6 a2.2.1 b7,iV a2.2.2.1,.int .u64 ((a2.2.2.2:Nat):Int)] 92,bX U #[nS,nS] 24,bX O #[sV Z K.1 ag,sV al K.2.1 am] 24,ap,av] [(0,pV bk 0),(4,pV U 0),(5,pV O 0),(6,iV a4.1),(7,iV K.2.2.2.2.2),(8,sV bi a1.1 bo),(9,sV bZ a0.2.2.2.1 b0),(10,iV a0.2.2.2.2),(11,iV a2.1)] L s (Al rI cf b6 b7 a2.2.1)) ?_ ?_)
        ·rintro _ _ ⟨cf,b6,b7,rfl,rfl,c4,dT,hd⟩;obtain⟨c5,he,hf⟩:=bs hc;refine zg 6 rfl (Bt (fun L s=>∃(cu:LH) (cv:Ap) (cw:Nat),Jn cf H cu [bX bk #[sV b6 a2.2.1 b7,iV a2.2.2.1,.int .u64 ((a2.2.2.2:Nat):Int)] 92,bX U #[nS,nS] 24,bX O #[sV Z K.1 ag,sV al K.2.1 am] 24,ap,av] [(0,pV bk 0),(4,pV U 0),(5,pV O 0),(6,iV a4.1),(7,iV K.2.2.2.2.2),(8,sV bi a1.1 bo),(9,sV cv c5 cw),(10,iV a0.2.2.2.2)] L s (Al rI cu cv cw c5)) ?_ ?_)
         ·rintro _ _ ⟨cu,cv,cw,rfl,rfl,dU,hj,hk⟩;obtain⟨hl,hm,hn⟩:=bs hf;refine zg 3 rfl (Cl hm rfl rfl rfl ?_);refine zg 2 rfl ?_;obtain rfl:=oi hn;exact Ay (gS _ _ (a2.2.1,a2.2.2.1,a2.2.2.2,c5,hl) ⟨cu,b6,b7,cv,cw,rfl,rfl,(((((dL.Ac b1).Ac c1).Ac c3).Ac c4).Ac dU),hj,(hd.Ai dU),hk⟩ cZ) rfl
         ·intro dV;refine AM he (fun ho hp=>?_) (fun ho hq=>?_)
          ·obtain⟨i3,hr,hu⟩:=bs hp;refine zg 3 rfl (BN (TN (cY.Ai (((b1.Ac c1).Ac c3).Ac c4)) hr) rfl rfl (AV func98 rfl) dT ?_);rintro _ hv _ hw ⟨hx,hy,rfl,rfl,hz⟩ hA;refine Cw (S':= [[(bk,.cells #[sV b6 a2.2.1 b7,iV a2.2.2.1,.int .u64 ((a2.2.2.2:Nat):Int)] 92 (0,0))],[(U,.cells #[nS,nS] 24 (0,0))],[(O,.cells #[sV Z K.1 ag,sV al K.2.1 am] 24 (0,0))],ap,av,[]]) rfl hA fun hB=>zg 2 rfl ?_;obtain rfl:=oi hu;exact Ay (dV _ _ ⟨hv,hx,hy,rfl,rfl,hw,hB,hz⟩) rfl
          ·refine JL.skip ?_;obtain rfl:=oi hq;exact Ay (dV _ _ ⟨cf,bZ,b0,rfl,rfl,Ar,dT,(cY.Ai (((b1.Ac c1).Ac c3).Ac c4))⟩) rfl
        ·intro dW;refine BI hb (fun hC hD=>?_) (fun hC hE=>?_)
         ·obtain⟨i4,hF,hG⟩:=bs hD;refine zg 3 rfl (Cl hF rfl rfl rfl ?_);obtain⟨c6,hH,hI⟩:=bs hG;refine B8 0 (H2 dR hH) rfl rfl HK dS rfl ?_;rintro _ hJ _ hK ⟨dX,dY,rfl,rfl,hL⟩ hM;refine Cw (S':= [[(bk,.cells #[sV dX c6.2.1 dY,iV c6.2.2.1,.int .u64 ((c6.2.2.2:Nat):Int)] 92 (0,0))],[(U,.cells #[nS,nS] 24 (0,0))],[(O,.cells #[sV Z K.1 ag,sV al K.2.1 am] 24 (0,0))],ap,av]) rfl hM fun hN=>zg 2 rfl ?_;obtain rfl:=oi hI;exact Ay (dW _ _ ⟨hJ,dX,dY,rfl,rfl,hK,hN,hL⟩) rfl
         ·refine JL.skip ?_;obtain rfl:=oi hE;exact Ay (dW _ _ ⟨dQ,g9,ha,rfl,rfl,Ar,dS,dR⟩) rfl
       ·refine JL.exit rfl ?_;obtain rfl:=oi gY;obtain rfl:=gR _ cZ;exact Ay (gQ _ _ ⟨c0,bZ,b0,cd,ce,rfl,rfl,(dL.Ac b1),dP,(cY.Ai b1),(dN.Ai b1)⟩) rfl
      ·intro dZ;refine Es 47 gU (fun hO hP=>?_) (fun hO hQ=>?_)
       ·refine zg 3 rfl ?_;obtain rfl:=oi hP;exact Ay (dZ _ _ ⟨bY,rfl,rfl,Ar,dM⟩) rfl
       ·refine zg 3 rfl ?_;obtain rfl:=oi hQ;exact Ay (dZ _ _ ⟨bY,rfl,rfl,Ar,dM⟩) rfl
    ·intro ea;refine BI e8 (fun hR hS=>?_) (fun hR hT=>?_)
     ·obtain⟨i5,hU,hV⟩:=bs hS;refine zg 3 rfl (Cl hU rfl rfl rfl ?_);obtain⟨cg,hW,hX⟩:=bs hV;refine B8 0 (H2 dx hW) rfl rfl HK dy rfl ?_;rintro _ i6 _ hY ⟨eb,ec,rfl,rfl,hZ⟩ h0;refine DK (pp:=rI) [iV cg.1] [cg.1] rfl rfl rfl underlying28 AX CU (by decide) rfl rfl rfl ⟨rfl,trivial⟩ h0 fun h1 i7 h2 h3=>zg 2 rfl (BU 5 h2 h3 rfl fun h4 ed h5 h6=>?_);refine Cw (S':= [[(bk,.cells #[sV eb cg.2.1 ec,iV cg.2.2.1,.int .u64 ((cg.2.2.2:Nat):Int)] 92 (0,0))],[(U,.cells #[nS,nS] 24 (0,0))],[(O,.cells #[sV Z K.1 ag,sV al K.2.1 am] 24 (0,0))],ap,av,[]]) rfl h6 fun h7=>?_;obtain rfl:=oi hX;exact Ay (ea _ _ ⟨h4,(A0 h1),1,eb,ec,rfl,rfl,(hY.Ac ed),h7,h5,(hZ.Ai ed)⟩) rfl
     ·refine JL.skip ?_;obtain rfl:=oi hT;exact Ay (ea _ _ ⟨du,cq,cr,dv,dw,rfl,rfl,Ar,dy,(e3.Ai be),dx⟩) rfl
   ·intro ee;refine BI e0 (fun h8 h9=>?_) (fun h8 ia=>?_)
    ·obtain⟨i8,ic,ie⟩:=bs h9;refine zg 5 rfl (Cl ic rfl rfl rfl ?_);obtain⟨c7,ig,ih⟩:=bs ie;refine B8 0 (PV dr ig) rfl rfl OA dt rfl ?_;rintro _ i9 _ ef ⟨eg,eh,rfl,rfl,ii⟩ ij;refine Cw (S':= [[(bk,.cells #[sV eg c7.2.1 eh,iV c7.2.2.1,.int .u64 ((c7.2.2.2:Nat):Int)] 92 (0,0))],[(U,.cells #[nS,nS] 24 (0,0))],[(O,.cells #[sV Z K.1 ag,sV al K.2.1 am] 24 (0,0))],ap,av,eV]) rfl ij fun ik=>BU 5 (dn.Ai (a5.Ac ef)) ik rfl fun ja ei il io=>?_;obtain⟨jb,iq,ir⟩:=bs ih;refine BN (TN il iq) rfl rfl (AV func98 rfl) io ?_;rintro _ it _ ej ⟨iu,iv,rfl,rfl,iw⟩ iy;refine zg 2 rfl ?_;obtain rfl:=oi ir;exact Ay (ee _ _ ⟨it,iu,iv,eg,eh,rfl,rfl,((ef.Ac ei).Ac ej),iy,iw,(ii.Ai (ei.Ac ej))⟩) rfl
    ·refine JL.skip (BU 5 (dn.Ai a5) dt rfl fun iz ek iA iB=>?_);refine Cw (S':= [[(bk,.cells #[sV dp cG.2.1 dq,iV cG.2.2.1,.int .u64 ((cG.2.2.2:Nat):Int)] 92 (0,0))],[(U,.cells #[nS,nS] 24 (0,0))],[(O,.cells #[sV Z K.1 ag,sV al K.2.1 am] 24 (0,0))],ap,av,[]]) rfl iB fun iC=>?_;obtain rfl:=oi ia;exact Ay (ee _ _ ⟨iz,(A0 eU),1,dp,dq,rfl,rfl,ek,iC,iA,(dr.Ai ek)⟩) rfl
  ·refine JL.exit rfl ?_;obtain rfl:=oi eP;obtain rfl:=eM _ cb;exact Ay (eL _ _ ⟨b2,ci,ck,Z,ag,ap,al,am,av,rfl,rfl,cm,dk,dl,cn,co⟩) rfl
def Nv(fuel:Nat)(p1:A9)(U:Int×(B7))(K:(List Int)×Int×Nat×Int×Int):Option (Bd ((List Int)×Int×Nat×Int×Int) (Int×B7)):= if K.2.2.2.2<U.1 then((ix p1.1 K.2.2.2.1).bind fun V=> (f99 fuel (K.1,K.2.1,K.2.2.1) V).bind fun O=> (As (K.2.2.2.2+1)).bind fun Y=> some (.more (O.2.1,O.2.2.1,O.2.2.2,O.1,Y))) else(some (.done (K.2.2.2.1,K.1,K.2.1,K.2.2.1)))
def Nw(fuel:Nat)(p1:A9)(p2:Int)(K:(List Int)×Int×Nat×Int×(List Int)×Int):Option (Bd ((List Int)×Int×Nat×Int×(List Int)×Int) ((List Int)×B7)):= if K.2.2.2.2.2<p2 then((room K.2.2.2.2.1 K.2.2.2.1).bind fun U=> (ix p1.1 K.2.2.2.1).bind fun V=> (f99 fuel (K.1,K.2.1,K.2.2.1) V).bind fun O=> (As (K.2.2.2.2.2+1)).bind fun Y=> some (.more (O.2.1,O.2.2.1,O.2.2.2,O.1,U,Y))) else(some (.done (K.2.2.2.2.1,K.1,K.2.1,K.2.2.1)))
def f45(fuel:Nat)(p0:B7)(p1:A9)(p2:Int):Option (Int×(List Int)×(B7)):= (f41 fuel p0 6).bind fun K=> Option.bind (iter (Nv fuel p1 K) fuel (K.2.1,K.2.2.1,K.2.2.2,0,0)) fun O=> Option.bind (iter (Nw fuel p1 p2) fuel (O.2.1,O.2.2.1,O.2.2.2,O.1,[],0)) fun U=> some (K.1,U.1,U.2)
theorem bI{bk:Nat}{b1:Ap}{c2:Nat}{b2:Ap}{b3:Nat}{b4:Ap}{b5:Nat}{p0:B7}{p1:A9}{p2:Int}(cp:Al rI E b1 c2 p0.1)(b6:Al (rL rI) E b2 b3 p1.1)(dG:Al (rL rI) E b4 b5 p1.2){fuel:Nat}{r:Int×(List Int)×(B7)}(b7:f45 fuel p0 p1 p2=some r):AN J 45 [pV bk 0,.agg #[sV b2 p1.1 b3,sV b4 p1.2 b5],iV p2] E [(bk,.cells #[sV b1 p0.1 c2,iV p0.2.1,.int .u64 ((p0.2.2:Nat):Int)] 92 (0,0))] (fun w E' B'=>∃(b8:Ap) (b9:Nat) (ca:Ap) (cb:Nat),w= .tuple #[iV r.1,sV b8 r.2.1 b9]∧B'= [(bk,.cells #[sV ca r.2.2.1 cb,iV r.2.2.2.1,.int .u64 ((r.2.2.2.2:Nat):Int)] 92 (0,0))]∧Al rI E' b8 b9 r.2.1∧Al rI E' ca cb r.2.2.1):=by
 refine A3 func45 fun Q dH cs H cq cr=>?_;unfold f45 at b7;refine zg 2 rfl (Ca cq fun bU dI ap cc ct=>?_);obtain⟨av,cu,cv⟩:=bs b7;refine zg 6 rfl (B8 0 (H2 (cp.Ai ap) cu) rfl rfl HK ct rfl ?_);rintro _ bV _ Y ⟨cw,cy,rfl,rfl,cz⟩ cA;obtain⟨Z,cB,cC⟩:=bs cv;refine zg 8 rfl (Bt (fun L s=>∃(U:LH) (a0:Ap) (a1:Nat),Jn bV H U [bX bk #[sV a0 Z.2.1 a1,iV Z.2.2.1,.int .u64 ((Z.2.2.2:Nat):Int)] 92] [(0,pV bk 0),(2,iV p2),(4,pV bU 0),(8,iV av.1),(9,iV Z.1)] L s (Al rI U a0 a1 Z.2.1)) ?_ ?_)
 ·rintro _ _ ⟨U,a0,a1,rfl,rfl,bW,cD,cE⟩;obtain⟨V,cF,cG⟩:=bs cC;refine zg 9 rfl (Bt (fun L s=>∃(a2:LH) (a3:Ap) (a4:Nat) (bY:Seg) (a5:Ap) (a6:Nat),Jn U H a2 [bX bk #[sV a5 V.2.1 a6,iV V.2.2.1,.int .u64 ((V.2.2.2:Nat):Int)] 92,bY] [(8,iV av.1),(11,sV a3 V.1 a4)] L s (OL 3 rI a2 a3 a4 bY V.1∧Al rI a2 a5 a6 V.2.1)) ?_ ?_)
  ·rintro _ _ ⟨a2,a3,a4,bY,a5,a6,rfl,rfl,cH,cI,cJ,cK⟩;refine zg 7 rfl (BU 1 cJ cI rfl fun dJ cd cM cN=>?_);obtain rfl:=oi cG;exact AB func45 rfl rfl (cr ((((ap.Ac Y).Ac bW).Ac cH).Ac cd) rfl ⟨a3,a4,a5,a6,rfl,rfl,cM,(cK.Ai cd)⟩ cN)
  ·intro cO;refine JL.block (CV cF (fun L s K=>∃(ag:LH) (a7:Ap) (a8:Nat) (al:Ap) (am:Nat) (a9:Seg),Jn U H ag [bX bk #[sV a7 K.1 a8,iV K.2.1,.int .u64 ((K.2.2.1:Nat):Int)] 92,a9] [(0,pV bk 0),(2,iV p2),(4,pV bU 0),(8,iV av.1),(9,iV K.2.2.2.1),(11,sV al K.2.2.2.2.1 am),(12,iV K.2.2.2.2.2)] L s (Al rI ag a7 a8 K.1∧OL 3 rI ag al am a9 K.2.2.2.2.1)) ⟨U,a0,a1,none,0,[],rfl,rfl,Ar,cD,cE,OL.nil⟩ ?_);rintro _ _ K ⟨ag,a7,a8,al,am,a9,rfl,rfl,bb,ce,cf,cg⟩ cP ⟨dK,bZ⟩ cQ;have ci:=bZ;unfold Nw at ci;refine zg 7 rfl (AM ci (fun cR cT=>?_) (fun cR cV=>?_))
   ·obtain⟨cW,cX,cY⟩:=bs cT;refine zg 7 rfl (JS.app (pp:=rI) (v:=iV K.2.2.2.1) (a:=al) (c:=am) 1 cX rfl rfl rfl rfl (fun _=>rfl) rfl (fun _=>rfl) rfl rfl rfl underlying28 underlying28 underlying28 AX (Cy type3) CU rfl (by decide) (by decide) (by decide) (by decide) cg rfl ce rfl fun dL cZ c0 c1 c3 c4=>?_);refine zg 4 rfl (JL.fl 0 (cc.Ai ((Y.Ac bW).Ac bb)) underlying24 BR Cv ?_);obtain⟨dM,c5,c6⟩:=bs cY;refine zg 1 rfl (Ce (b6.Ai (((ap.Ac Y).Ac bW).Ac bb)) c5 underlying22 BZ ?_);rintro dN dO _ ⟨dP,dQ,rfl,c7⟩ c8;refine B4 0 c8 CZ rfl rfl rfl ?_;obtain⟨bd,c9,da⟩:=bs c6;refine B8 0 (NY cf c7 c9) rfl rfl Mi c4 rfl ?_;rintro _ db _ ck ⟨dc,dd,rfl,rfl,de⟩ df;obtain⟨dg,dh,di⟩:=bs da;refine zg 5 rfl (Ba dh rfl rfl rfl ?_);refine zg 2 rfl ?_;obtain rfl:=oi di;exact Ay (cQ _ _ (bd.2.1,bd.2.2.1,bd.2.2.2,bd.1,cW,dg) ⟨db,dc,dd,cZ,c0,c1,rfl,rfl,(bb.Ac ck),df,de,(c3.Ai ck)⟩ bZ) rfl
   ·refine JL.exit rfl ?_;obtain rfl:=oi cV;obtain rfl:=cP _ bZ;exact Ay (cO _ _ ⟨ag,al,am,a9,a7,a8,rfl,rfl,bb,ce,cg,cf⟩) rfl
 ·intro dj;refine JL.block (CV cB (fun L s O=>∃(be:LH) (bi:Ap) (bo:Nat),Jn bV H be [bX bk #[sV bi O.1 bo,iV O.2.1,.int .u64 ((O.2.2.1:Nat):Int)] 92] [(0,pV bk 0),(2,iV p2),(4,pV bU 0),(8,iV av.1),(9,iV O.2.2.2.1),(10,iV O.2.2.2.2)] L s (Al rI be bi bo O.1)) ⟨bV,cw,cy,rfl,rfl,Ar,cA,cz⟩ ?_);rintro _ _ O ⟨be,bi,bo,rfl,rfl,bv,cm,cn⟩ dk ⟨dR,b0⟩ dl;have co:=b0;unfold Nv at co;refine zg 7 rfl (AM co (fun dm dn=>?_) (fun dm dp=>?_))
  ·refine zg 5 rfl (JL.fl 0 (cc.Ai (Y.Ac bv)) underlying24 BR Cv ?_);obtain⟨dS,dq,dr⟩:=bs dn;refine zg 1 rfl (Ce (b6.Ai ((ap.Ac Y).Ac bv)) dq underlying22 BZ ?_);rintro dT dU _ ⟨dV,dW,rfl,dt⟩ du;refine B4 0 du CZ rfl rfl rfl ?_;obtain⟨bw,dv,dw⟩:=bs dr;refine B8 0 (NY cn dt dv) rfl rfl Mi cm rfl ?_;rintro _ dx _ dy ⟨dz,dA,rfl,rfl,dB⟩ dC;obtain⟨dD,dE,dF⟩:=bs dw;refine zg 5 rfl (Ba dE rfl rfl rfl ?_);refine zg 2 rfl ?_;obtain rfl:=oi dF;exact Ay (dl _ _ (bw.2.1,bw.2.2.1,bw.2.2.2,bw.1,dD) ⟨dx,dz,dA,rfl,rfl,(bv.Ac dy),dC,dB⟩ b0) rfl
  ·refine JL.exit rfl ?_;obtain rfl:=oi dp;obtain rfl:=dk _ b0;exact Ay (dj _ _ ⟨be,bi,bo,rfl,rfl,bv,cm,cn⟩) rfl
def PG(fuel:Nat)(p1:A9)(p2:List Int)(p4:Bool)(K:(List Int)×Int×Nat×(AJ)×Int×Int):Option (Bd ((List Int)×Int×Nat×(AJ)×Int×Int) ((AJ)×B7)):= if 0<K.2.2.2.2.2 then((As ((p2.length:Int) - 1)).bind fun ag=> (As (K.2.2.2.2.1+2)).bind fun al=> (f96 fuel (K.1,K.2.1,K.2.2.1) K.2.2.2.2.1 (min ag al)).bind fun O=> (ix p2 O.1).bind fun am=> (ix p2 O.1).bind fun ap=> (ix p1.2 ap).bind fun Z=> Option.bind (if p4=true then(some (decide (0<(Z.length:Int)))) else(some false)) fun av=> Option.bind (if av=true then((f97 fuel O.2 2).bind fun a0=> some a0) else(some (false,O.2.1,O.2.2.1,O.2.2.2))) fun U=> Option.bind (if U.1=true then((f99 fuel U.2 Z).bind fun V=> some (V.2.1,V.2.2.1,V.2.2.2,V.1)) else(some (U.2.1,U.2.2.1,U.2.2.2,am))) fun Y=> (room K.2.2.2.1 (O.1,Y.2.2.2)).bind fun a1=> (As (K.2.2.2.2.2 - 1)).bind fun a2=> some (.more (Y.1,Y.2.1,Y.2.2.1,a1,O.1,a2))) else(some (.done (K.2.2.2.1,K.1,K.2.1,K.2.2.1)))
def f46(fuel:Nat)(p0:B7)(p1:A9)(p2:List Int)(p3:Int)(p4:Bool):Option ((AJ)×(B7)):= (f41 fuel p0 p3).bind fun K=> Option.bind (iter (PG fuel p1 p2 p4) fuel (K.2.1,K.2.2.1,K.2.2.2,[],0,K.1)) fun O=> some O
theorem aY{bk:Nat}{b3:Ap}{c2:Nat}{b4:Ap}{b5:Nat}{b6:Ap}{b7:Nat}{ag:Ap}{al:Nat}{p0:B7}{p1:A9}{p2:List Int}{p3:Int}{p4:Bool}(cD:Al rI E b3 c2 p0.1)(el:Al (rL rI) E b4 b5 p1.1)(cE:Al (rL rI) E b6 b7 p1.2)(b8:Al rI E ag al p2){fuel:Nat}{r:(AJ)×(B7)}(b9:f46 fuel p0 p1 p2 p3 p4=some r):AN J 46 [pV bk 0,.agg #[sV b4 p1.1 b5,sV b6 p1.2 b7],sV ag p2 al,iV p3,.bool p4] E [(bk,.cells #[sV b3 p0.1 c2,iV p0.2.1,.int .u64 ((p0.2.2:Nat):Int)] 92 (0,0))] (fun w E' B'=>∃(ca:Ap) (cb:Nat) (g0:Seg) (cc:Ap) (cd:Nat),w= sV ca r.1 cb∧B'= [(bk,.cells #[sV cc r.2.1 cd,iV r.2.2.1,.int .u64 ((r.2.2.2:Nat):Int)] 92 (0,0))]++g0∧OL 27 Bg E' ca cb g0 r.1∧Al rI E' cc cd r.2.1):=by
 refine A3 func46 fun Q em cs H cF cG=>?_;unfold f46 at b9;refine zg 2 rfl (Ca cF fun a7 en a1 cH cI=>?_);obtain⟨eo,cJ,cK⟩:=bs b9;refine zg 15 rfl (B8 0 (H2 (cD.Ai a1) cJ) rfl rfl HK cI rfl ?_);rintro _ bZ _ a2 ⟨cM,cN,rfl,rfl,cO⟩ cP;obtain⟨am,cQ,cR⟩:=bs cK;refine zg 2 rfl (Bt (fun L s=>∃(a8:LH) (a9:Ap) (bb:Nat) (bd:Seg) (be:Ap) (bi:Nat),Jn bZ H a8 [bX bk #[sV be am.2.1 bi,iV am.2.2.1,.int .u64 ((am.2.2.2:Nat):Int)] 92,bd] [(11,sV a9 am.1 bb)] L s (OL 27 Bg a8 a9 bb bd am.1∧Al rI a8 be bi am.2.1)) ?_ ?_)
 ·rintro _ _ ⟨a8,a9,bb,bd,be,bi,rfl,rfl,cT,cV,cW,cX⟩;refine zg 5 rfl ?_;obtain rfl:=oi cR;exact AB func46 rfl rfl (cG ((a1.Ac a2).Ac cT) rfl ⟨a9,bb,bd,be,bi,rfl,(by first | rfl | simp | (simp [Value.cells])),cW,cX⟩ cV)
 ·intro cY;refine JL.block (CV cQ (fun L s K=>∃(a3:LH) (bo:Ap) (bv:Nat) (V:Ap) (Y:Nat) (Z:Seg),Jn bZ H a3 [bX bk #[sV bo K.1 bv,iV K.2.1,.int .u64 ((K.2.2.1:Nat):Int)] 92,Z] [(0,pV bk 0),(2,sV ag p2 al),(4,.bool p4),(6,pV a7 0),(11,sV V K.2.2.2.1 Y),(12,iV K.2.2.2.2.1),(13,iV K.2.2.2.2.2)] L s (Al rI a3 bo bv K.1∧OL 27 Bg a3 V Y Z K.2.2.2.1)) ⟨bZ,cM,cN,none,0,[],rfl,rfl,Ar,cP,cO,OL.nil⟩ ?_);rintro _ _ K ⟨a3,bo,bv,V,Y,Z,rfl,rfl,ap,ce,cf,cg⟩ cZ ⟨ep,b0⟩ c0;have ci:=b0;unfold PG at ci;refine zg 6 rfl (AM ci (fun c1 c3=>?_) (fun c1 c4=>?_))
  ·refine zg 8 rfl (Bh underlying28 rfl rfl rfl ?_);obtain⟨c5,c6,c7⟩:=bs c3;refine Cl c6 rfl rfl rfl ?_;obtain⟨c8,c9,da⟩:=bs c7;refine zg 1 rfl (Ba c9 rfl rfl rfl ?_);refine AF (v:=iV (min c5 c8)) rfl (fun ρ h=>Yl.min2 (h _ _ rfl) (h _ _ rfl)) ?_;obtain⟨O,db,dc⟩:=bs da;refine B8 0 (PV cf db) rfl rfl OA ce rfl ?_;rintro _ eq _ av ⟨ck,cm,rfl,rfl,cn⟩ dd;obtain⟨b1,de,df⟩:=bs dc;refine zg 7 rfl (Ce (b8.Ai (((a1.Ac a2).Ac ap).Ac av)) de underlying28 AX ?_);rintro er et _ rfl dg;refine B4 0 dg By rfl rfl rfl (AF (v:= .agg #[iV O.1,iV b1]) rfl (fun ρ h=>Di [(0,1),(1,1)] h C7 underlying27 ⟨rfl,Bv type3,rfl,Bv type3,trivial⟩ rfl rfl) ?_);refine CW dd C7 fun a0 dh=>?_;refine BW 2 dh BF fun co=>?_;refine zg 3 rfl (C5 6 fun ht=>?_);refine B9 0 ht underlying24 BR rfl rfl rfl rfl (Cz 1 ht 1 (cH.Ai ((a2.Ac ap).Ac av)) Cv rfl rfl rfl rfl ?_);refine AZ ht rfl [2,3] rfl ?_;obtain⟨eu,di,dj⟩:=bs df;refine CN 4 (b8.Ai (((a1.Ac a2).Ac ap).Ac av)) di ht underlying28 AX ?_;rintro ew ex _ rfl dk;refine Cz 5 ht 0 dk By rfl rfl rfl rfl (Cj [6,7,8] ?_);obtain⟨cp,dl,dm⟩:=bs dj;refine Ce (cE.Ai (((a1.Ac a2).Ac ap).Ac av)) dl underlying22 BZ ?_;rintro ey ez _ ⟨cq,cr,rfl,dn⟩ dp;refine B4 0 dp CZ rfl rfl rfl ?_;obtain⟨dq,dr,dt⟩:=bs dm;refine zg 6 rfl (Dv 6 4 [bX bk #[sV ck O.2.1 cm,iV O.2.2.1,.int .u64 ((O.2.2.2:Nat):Int)] 92,Z,bX a0 #[iV O.1,iV b1] 27] [(0,pV bk 0),(2,sV ag p2 al),(4,.bool p4),(6,pV a7 0),(11,sV V K.2.2.2.1 Y),(12,iV O.1),(13,iV K.2.2.2.2.2),(14,pV a0 0),(15,sV cq cp cr),(51,.bool dq)] (fun ct a4 cu=>?_) (fun cv=>?_))
   ·obtain⟨a5,du,dv⟩:=bs dt;refine zg 1 rfl (EY [] (fun L s=>∃(a6:LH) (bw:Ap) (bU:Nat),Jn ct H a6 [bX bk #[sV bw a5.2.1 bU,iV a5.2.2.1,.int .u64 ((a5.2.2.2:Nat):Int)] 92,Z,bX a0 #[iV O.1,iV b1] 27] [(0,pV bk 0),(2,sV ag p2 al),(4,.bool p4),(6,pV a7 0),(11,sV V K.2.2.2.1 Y),(12,iV O.1),(13,iV K.2.2.2.2.2),(14,pV a0 0),(15,sV cq cp cr),(55,.bool a5.1)] L s (Al rI a6 bw bU a5.2.1)) ?_ ?_)
    ·rintro _ _ ⟨a6,bw,bU,rfl,rfl,b2,cw,cy⟩;obtain⟨U,dw,dx⟩:=bs dv;refine JL.done (Bt (fun L s=>∃(bV:LH) (bW:Ap) (bY:Nat),Jn a6 H bV [bX bk #[sV bW U.1 bY,iV U.2.1,.int .u64 ((U.2.2.1:Nat):Int)] 92,Z,bX a0 #[iV O.1,iV U.2.2.2] 27] [(0,pV bk 0),(2,sV ag p2 al),(4,.bool p4),(6,pV a7 0),(11,sV V K.2.2.2.1 Y),(12,iV O.1),(13,iV K.2.2.2.2.2),(14,pV a0 0)] L s (Al rI bV bW bY U.1)) ?_ ?_)
     ·rintro _ _ ⟨bV,bW,bY,rfl,rfl,cz,cA,dy⟩;refine zg 2 rfl (AF rfl (fun ρ h=>F5 (vs:= [iV O.1,iV U.2.2.2]) Gh BF (h _ _ rfl) (F2 (off:=0) 2 cA rfl rfl)) ?_);obtain⟨dz,dA,dB⟩:=bs dx;refine JS.app (pp:=Bg) (v:= .agg #[iV O.1,iV U.2.2.2]) (a:=V) (c:=Y) 1 dA rfl rfl rfl rfl (fun _=>rfl) rfl (fun _=>rfl) rfl rfl rfl underlying25 underlying25 underlying25 BF (Cy type27) C7 rfl (by decide) (by decide) (by decide) (by decide) (cg.Ai (((av.Ac a4).Ac b2).Ac cz)) ⟨_,_,rfl,rfl,rfl⟩ cA rfl fun eA dC dD dE dF dG=>?_;obtain⟨dH,dI,dJ⟩:=bs dB;refine zg 5 rfl (Cl dI rfl rfl rfl ?_);refine zg 2 rfl (JS.drop 2 dG rfl fun dK=>?_);obtain rfl:=oi dJ;exact Ay (c0 _ _ (U.1,U.2.1,U.2.2.1,dz,O.1,dH) ⟨bV,bW,bY,dC,dD,dE,rfl,rfl,((((ap.Ac av).Ac a4).Ac b2).Ac cz),dK,dy,dF⟩ b0) rfl
     ·intro cB;refine BI dw (fun dL dM=>?_) (fun dL dN=>?_)
      ·obtain⟨eB,dO,dP⟩:=bs dM;refine zg 3 rfl (B8 0 (NY cy (dn.Ai (a4.Ac b2)) dO) rfl rfl Mi cw rfl ?_);rintro _ dQ _ dR ⟨dS,dT,rfl,rfl,dU⟩ dV;refine BL underlying27 AX rfl rfl rfl (BW 2 dV AX fun dW=>?_);refine JL.done ?_;obtain rfl:=oi dP;exact Ay (cB _ _ ⟨dQ,dS,dT,rfl,rfl,dR,dW,dU⟩) rfl
      ·refine JL.skip ?_;obtain rfl:=oi dN;exact Ay (cB _ _ ⟨a6,bw,bU,rfl,rfl,Ar,cw,cy⟩) rfl
    ·intro cC;refine DU 52 du (fun dX dY=>?_) (fun dX dZ=>?_)
     ·obtain⟨eC,ea,eb⟩:=bs dY;refine zg 1 rfl (B8 0 (LI (cn.Ai a4) ea) rfl rfl Kz cu rfl ?_);rintro _ ec _ ed ⟨ee,ef,rfl,rfl,eg⟩ eh;refine zg 1 rfl ?_;obtain rfl:=oi eb;exact Ay (cC _ _ ⟨ec,ee,ef,rfl,rfl,ed,eh,eg⟩) rfl
     ·refine zg 3 rfl ?_;obtain rfl:=oi dZ;exact Ay (cC _ _ ⟨ct,ck,cm,rfl,rfl,Ar,cu,(cn.Ai a4)⟩) rfl
   ·refine DU 47 dr (fun ei ej=>?_) (fun ei ek=>?_)
    ·refine zg 1 rfl (Bh underlying28 rfl rfl rfl ?_);refine zg 2 rfl ?_;obtain rfl:=oi ej;exact cv Ar co rfl
    ·refine zg 4 rfl ?_;obtain rfl:=oi ek;exact cv Ar co rfl
  ·refine JL.exit rfl ?_;obtain rfl:=oi c4;obtain rfl:=cZ _ b0;exact Ay (cY _ _ ⟨a3,V,Y,Z,bo,bv,rfl,rfl,ap,ce,cg,cf⟩) rfl
def NT(fuel:Nat)(p1:A9)(K:(List Int)×Int×Nat×(AJ)×Int):Option (Bd ((List Int)×Int×Nat×(AJ)×Int) ((AJ)×B7)):= if K.2.2.2.2<(K.2.2.2.1.length:Int) then((f97 fuel (K.1,K.2.1,K.2.2.1) 6).bind fun O=> Option.bind (if O.1=true then((As ((p1.1.length:Int) - 1)).bind fun Y=> (f41 fuel O.2 Y).bind fun U=> (ix K.2.2.2.1 K.2.2.2.2).bind fun Z=> some ((K.2.2.2.1.set (Int.toNat K.2.2.2.2) (Z.1,U.1)),U.2.1,U.2.2.1,U.2.2.2)) else(some (K.2.2.2.1,O.2.1,O.2.2.1,O.2.2.2))) fun V=> (As (K.2.2.2.2+1)).bind fun ag=> some (.more (V.2.1,V.2.2.1,V.2.2.2,V.1,ag))) else(some (.done (K.2.2.2.1,K.1,K.2.1,K.2.2.1)))
def f40(fuel:Nat)(p0:B7)(p1:A9)(p2:Int):Option ((AJ)×(B7)):= (f45 fuel p0 p1 5).bind fun O=> (f46 fuel O.2.2 p1 O.2.1 p2 true).bind fun K=> Option.bind (iter (NT fuel p1) fuel (K.2.1,K.2.2.1,K.2.2.2,K.1,0)) fun U=> some U
theorem bm{bk:Nat}{b4:Ap}{c2:Nat}{bw:Ap}{bU:Nat}{b5:Ap}{b6:Nat}{p0:B7}{p1:A9}{p2:Int}(cu:Al rI E b4 c2 p0.1)(b7:Al (rL rI) E bw bU p1.1)(b8:Al (rL rI) E b5 b6 p1.2){fuel:Nat}{r:(AJ)×(B7)}(b9:f40 fuel p0 p1 p2=some r):AN J 40 [pV bk 0,.agg #[sV bw p1.1 bU,sV b5 p1.2 b6],iV p2] E [(bk,.cells #[sV b4 p0.1 c2,iV p0.2.1,.int .u64 ((p0.2.2:Nat):Int)] 92 (0,0))] (fun w E' B'=>∃(ca:Ap) (cb:Nat) (cc:Ap) (cd:Nat),w= sV ca r.1 cb∧B'= [(bk,.cells #[sV cc r.2.1 cd,iV r.2.2.1,.int .u64 ((r.2.2.2:Nat):Int)] 92 (0,0))]∧Al Bg E' ca cb r.1∧Al rI E' cc cd r.2.1):=by
 refine A3 func40 fun Q dG cs H cv cw=>?_;unfold f40 at b9;refine zg 2 rfl (Ca cv fun a1 dH ag bV cy=>?_);refine zg 5 rfl (BX bV Cd BJ rfl rfl ?_);obtain⟨dI,cz,cA⟩:=bs b9;refine B8 0 (bI (cu.Ai ag) (b7.Ai ag) (b8.Ai ag) cz) rfl rfl (AV func45 rfl) cy rfl ?_;rintro _ dJ _ am ⟨dK,dL,dM,dN,rfl,rfl,cB,cC⟩ cD;refine zg 9 rfl (BX (bV.Ai am) Cd BJ rfl rfl ?_);obtain⟨dO,cE,cF⟩:=bs cA;refine zg 2 rfl (B8 0 (aY cC (b7.Ai (ag.Ac am)) (b8.Ai (ag.Ac am)) cB cE) rfl rfl (AV func46 rfl) cD rfl ?_);rintro _ bW _ ce ⟨cG,cH,cI,cJ,cK,rfl,rfl,cM,cN⟩ cO;refine Ep 0 rfl cO fun cP=>?_;obtain⟨al,cQ,cR⟩:=bs cF;refine zg 7 rfl (Bt (fun L s=>∃(a2:LH) (a3:Ap) (a4:Nat) (bY:Seg) (a5:Ap) (a6:Nat),Jn bW H a2 [bX bk #[sV a5 al.2.1 a6,iV al.2.2.1,.int .u64 ((al.2.2.2:Nat):Int)] 92,bY] [(9,sV a3 al.1 a4)] L s (OL 27 Bg a2 a3 a4 bY al.1∧Al rI a2 a5 a6 al.2.1)) ?_ ?_)
 ·rintro _ _ ⟨a2,a3,a4,bY,a5,a6,rfl,rfl,cT,cV,cW,cX⟩;refine zg 5 rfl (BU 1 cW cV rfl fun dP cf cY cZ=>?_);obtain rfl:=oi cR;exact AB func40 rfl rfl (cw ((((ag.Ac am).Ac ce).Ac cT).Ac cf) rfl ⟨a3,a4,a5,a6,rfl,rfl,cY,(cX.Ai cf)⟩ cZ)
 ·intro c0;refine JL.block (CV cQ (fun L s K=>∃(ap:LH) (a7:Ap) (a8:Nat) (Y:Ap) (Z:Nat) (av:Seg),Jn bW H ap [bX bk #[sV a7 K.1 a8,iV K.2.1,.int .u64 ((K.2.2.1:Nat):Int)] 92,av] [(0,pV bk 0),(4,pV a1 0),(9,sV Y K.2.2.2.1 Z),(10,iV K.2.2.2.2)] L s (Al rI ap a7 a8 K.1∧OL 27 Bg ap Y Z av K.2.2.2.1)) ⟨bW,cJ,cK,cG,cH,cI,rfl,rfl,Ar,cP,cN,cM⟩ ?_);rintro _ _ K ⟨ap,a7,a8,Y,Z,av,rfl,rfl,bZ,cg,ci,b0⟩ c1 ⟨dQ,b1⟩ c3;have ck:=b1;unfold NT at ck;refine zg 5 rfl (Bh underlying25 rfl rfl rfl ?_);refine zg 2 rfl (AM ck (fun c4 c5=>?_) (fun c4 c6=>?_))
  ·obtain⟨c7,c8,c9⟩:=bs c5;refine zg 6 rfl (B8 0 (LI ci c8) rfl rfl Kz cg rfl ?_);rintro _ cm _ a9 ⟨da,db,rfl,rfl,cn⟩ co;obtain⟨O,dc,dd⟩:=bs c9;refine JL.done (Bt (fun L s=>∃(a0:LH) (bb:Ap) (bd:Nat) (be:Seg) (bi:Ap) (bo:Nat),Jn cm H a0 [bX bk #[sV bi O.2.1 bo,iV O.2.2.1,.int .u64 ((O.2.2.2:Nat):Int)] 92,be] [(0,pV bk 0),(4,pV a1 0),(9,sV bb O.1 bd),(10,iV K.2.2.2.2)] L s (OL 27 Bg a0 bb bd be O.1∧Al rI a0 bi bo O.2.1)) ?_ ?_)
   ·rintro _ _ ⟨a0,bb,bd,be,bi,bo,rfl,rfl,de,df,dg,dh⟩;obtain⟨di,dj,dk⟩:=bs dd;refine zg 3 rfl (Ba dj rfl rfl rfl ?_);refine zg 2 rfl ?_;obtain rfl:=oi dk;exact Ay (c3 _ _ (O.2.1,O.2.2.1,O.2.2.2,O.1,di) ⟨a0,bi,bo,bb,bd,be,rfl,rfl,((bZ.Ac a9).Ac de),df,dh,dg⟩ b1) rfl
   ·intro cp;refine BI dc (fun dl dm=>?_) (fun dl dn=>?_)
    ·refine zg 4 rfl (JL.fl 0 (bV.Ai (((am.Ac ce).Ac bZ).Ac a9)) underlying24 BR Cv ?_);refine Bh underlying22 rfl rfl rfl ?_;obtain⟨dp,dq,dr⟩:=bs dm;refine Cl dq rfl rfl rfl ?_;obtain⟨U,dt,du⟩:=bs dr;refine B8 0 (H2 cn dt) rfl rfl HK co rfl ?_;rintro _ dv _ cq ⟨dw,dx,rfl,rfl,dy⟩ dz;obtain⟨V,dA,dB⟩:=bs du;refine I7 1 (b0.Ai (a9.Ac cq)) dA rfl rfl rfl rfl rfl rfl underlying25 BF ?_;rintro b2 bv f138 _ dC ⟨_,_,rfl,rfl,rfl⟩ dD cr dE dR dS;refine BL underlying27 AX rfl rfl rfl (JS.store (v:=iV U.1) (off:=bv+1) 1 rfl rfl rfl dz rfl rfl AX (by simp [Value.cells,CY]) dC (by have:=cr;simp only [Rp.n,rK,rN,rB,rP,rL] at this;show _+1≤_;omega) fun ct=>?_);rw [UE (m:=1) (ws:= [iV V.1,iV V.2]) (vs:= [iV V.1,iV U.1]) (by have:=cr;simp only [Rp.n,rK,rN,rB,rP,rL] at this;show _+2≤_;omega) dD rfl (Nat.le_of_ble_eq_true rfl)] at ct ⊢;have dF:=dE ((V.1,U.1)) [iV V.1,iV U.1] ⟨_,_,rfl,rfl,rfl⟩;have b3:(K.2.2.2.1.set (Int.toNat K.2.2.2.2) (V.1,U.1)).length=K.2.2.2.1.length:=List.length_set;refine Gn (L':= [(0,pV bk 0),(4,pV a1 0),(9,.slice Y ((K.2.2.2.1.set (Int.toNat K.2.2.2.2) (V.1,U.1))).length Z),(10,iV K.2.2.2.2),(22,iV K.2.2.2.2),(23,.slice Y ((K.2.2.2.1.set (Int.toNat K.2.2.2.2) (V.1,U.1))).length Z),(24,iV (K.2.2.2.1.length:Int)),(25,.bool (decide (K.2.2.2.2<(K.2.2.2.1.length:Int)))),(28,pV bk 0),(29,.bool c7.1),(30,.slice Y ((K.2.2.2.1.set (Int.toNat K.2.2.2.2) (V.1,U.1))).length Z),(31,iV K.2.2.2.2),(32,pV bk 0),(33,pV a1 0),(34,.slice bw p1.1.length bU),(35,iV (p1.1.length:Int)),(36,iV dp),(37,iV U.1),(38,pV b2 bv),(39,pV b2 (bv+1))]) ⟨rfl,rfl,by rw [b3];rfl,rfl,rfl,by rw [b3];rfl,rfl,rfl,rfl,rfl,by rw [b3];rfl,rfl,rfl,rfl,rfl,rfl,rfl,rfl,rfl,rfl,trivial⟩ ?_;refine JL.done ?_;obtain rfl:=oi dB;exact Ay (cp _ _ ⟨dv,Y,Z,[(b2,.cells (A2 f138 bv [iV V.1,iV U.1]) 27 (0,0))],dw,dx,rfl,rfl,cq,ct,dF,dy⟩) rfl
    ·refine JL.skip ?_;obtain rfl:=oi dn;exact Ay (cp _ _ ⟨cm,Y,Z,av,da,db,rfl,rfl,Ar,co,(b0.Ai a9),cn⟩) rfl
  ·refine JL.exit rfl ?_;obtain rfl:=oi c6;obtain rfl:=c1 _ b1;exact Ay (c0 _ _ ⟨ap,Y,Z,av,a7,a8,rfl,rfl,bZ,cg,b0,ci⟩) rfl
def f24(fuel:Nat)(p0:A9)(p1:B7):Option ((List A9)×(B7)):= (f39 fuel p1 7).bind fun K=> some (([p0,K.1,K.1]:List A9),K.2)
theorem aV{Y:Ap}{c2:Nat}{Z:Ap}{ag:Nat}{bk:Nat}{ap:Ap}{av:Nat}{p0:A9}{p1:B7}(bi:Al (rL rI) E Y c2 p0.1)(bo:Al (rL rI) E Z ag p0.2)(bv:Al rI E ap av p1.1){fuel:Nat}{r:(List A9)×(B7)}(a0:f24 fuel p0 p1=some r):AN J 24 [.agg #[sV Y p0.1 c2,sV Z p0.2 ag],pV bk 0] E [(bk,.cells #[sV ap p1.1 av,iV p1.2.1,.int .u64 ((p1.2.2:Nat):Int)] 92 (0,0))] (fun w E' B'=>∃(a1:Ap) (a2:Nat) (a3:Ap) (a4:Nat),w= sV a1 r.1 a2∧B'= [(bk,.cells #[sV a3 r.2.1 a4,iV r.2.2.1,.int .u64 ((r.2.2.2:Nat):Int)] 92 (0,0))]∧Al (rP (rL (rL rI)) (rL (rL rI))) E' a1 a2 r.1∧Al rI E' a3 a4 r.2.1):=by
 refine A3 func24 fun Q cd cs H bw bU=>?_;unfold f24 at a0;refine zg 2 rfl (Ca bw fun ce cf U bV bW=>?_);obtain⟨K,bY,bZ⟩:=bs a0;refine zg 5 rfl (B8 0 (aW (bv.Ai U) bY) rfl rfl (AV func39 rfl) bW rfl ?_);rintro _ cg _ V ⟨a5,a6,a7,a8,al,am,rfl,rfl,a9,bb,b0⟩ b1;refine CW b1 GZ fun b2 b3=>?_;refine Cw (S':= [[(bk,.cells #[sV al K.2.1 am,iV K.2.2.1,.int .u64 ((K.2.2.2:Nat):Int)] 92 (0,0))],[],[(b2,.cells #[nS,nS] 24 (0,0))]]) rfl b3 fun b4=>BW 2 b4 BJ fun b5=>?_;refine C8 2 b5 rfl fun ci O bd b6=>zg 3 rfl (BX (bV.Ai (V.Ac O)) Cd BJ rfl rfl ?_);refine BX bd Cd BJ rfl rfl (BX bd Cd BJ rfl rfl ?_);refine DK (pp:=(rP (rL (rL rI)) (rL (rL rI)))) [.agg #[sV Y p0.1 c2,sV Z p0.2 ag],.agg #[sV a5 K.1.1 a6,sV a7 K.1.2 a8],.agg #[sV a5 K.1.1 a6,sV a7 K.1.2 a8]] [p0,K.1,K.1] rfl rfl rfl underlying33 BJ GZ (by decide) rfl rfl rfl ⟨⟨_,_,rfl,⟨_,_,rfl,(bi.Ai ((U.Ac V).Ac O))⟩,⟨_,_,rfl,(bo.Ai ((U.Ac V).Ac O))⟩⟩,⟨_,_,rfl,⟨_,_,rfl,(a9.Ai O)⟩,⟨_,_,rfl,(bb.Ai O)⟩⟩,⟨_,_,rfl,⟨_,_,rfl,(a9.Ai O)⟩,⟨_,_,rfl,(bb.Ai O)⟩⟩,trivial⟩ b6 fun b7 ck b8 b9=>zg 2 rfl (BU 3 b8 b9 rfl fun cm be ca cb=>?_);refine Cw (S':= [[(bk,.cells #[sV al K.2.1 am,iV K.2.2.1,.int .u64 ((K.2.2.2:Nat):Int)] 92 (0,0))],[],[],[]]) rfl cb fun cc=>?_;obtain rfl:=oi bZ;exact AB func24 rfl rfl (bU (((U.Ac V).Ac O).Ac be) rfl ⟨(A0 b7),3,al,am,rfl,rfl,ca,(b0.Ai (O.Ac be))⟩ cc)
end Pal
namespace Pal
theorem B6{S A:Type}{body:S→Option (Bd S A)}{Q:A→Prop}{K:S}{F:Nat}(n:Nat)(I:Nat→S→Prop)(V:I 0 K)(Z:n<F)
  (round:∀i s,i<n→I i s→A1 (body s) (Bd.sat (I (i+1)) Q)) (last:∀s,I n s→A1 (body s) (fun st=>∃a,st= .done a∧Q a)):A1 (Pal.iter body F K) Q:=by
 refine ML (fun m s=>∃i,i≤n∧m=n - i∧I i s) ?_ (m:=n - 0) ⟨0,Nat.zero_le _,rfl,V⟩ (by omega);rintro m s ⟨i,hi,rfl,O⟩;rcases Nat.lt_or_ge i n with Y | ag
 ·refine(round i s Y O).Ai ?_;intro st U;cases st with
  | more s'=>exact⟨n - (i+1),by omega,i+1,by omega,rfl,U⟩
  | done a=>exact U
 ·obtain rfl:i=n:=by omega
  refine(last s O).Ai ?_;rintro st ⟨a,rfl,h⟩;exact h
theorem C3{α:Type}{o:Option α}{a:α}(h:A1 o (fun x=>x=a)):o=some a:=by obtain⟨x,K,rfl⟩:=h;exact K
theorem I5(F:Nat)(a lo hi:Int):f101 F a lo hi=some (decide (a<lo∨hi<a)):=by
 unfold f101;by_cases h:a<lo
 ·simp [h]
 ·simp [h]
theorem YA(F:Nat){s n:Nat}(hs:s<65536)(V:n≤16):f103 F s (n:Int)=some (s.testBit n):=by
 unfold f103;have K:LO s (n:Int)=some (s>>>n):=by unfold LO;rw [if_pos (by omega)];rfl
 rw [K];simp only [Option.bind_some];have O:s>>>n<65536:=Nat.lt_of_le_of_lt (Nat.shiftRight_le _ _) hs;have U:Kk (s>>>n) 1=some (s>>>n&&& 1):=if_pos ⟨O,by omega⟩;rw [U];simp only [Option.bind_some];rw [XA]
theorem NN(F:Nat){s n:Nat}(hs:s<65536)(K:n<16):f90 F s (n:Int)=some (s ||| 1<<<n):=by
 unfold f90;have O:LF (n:Int)=some (1<<<n):=by unfold LF;rw [if_pos (by omega)];rfl
 rw [O];simp only [Option.bind_some];have U:1<<<n<65536:=by rw [Nat.one_shiftLeft];exact Nat.pow_lt_pow_right (by omega) (show n<16 from K)
 have V:Jv s (1<<<n)=some (s ||| 1<<<n):=if_pos ⟨hs,U⟩;rw [V];rfl
theorem N6{a b:Nat}(K:a<65536)(hb:b<65536):a ||| b<65536:=Nat.or_lt_two_pow (n:=16) K hb
theorem S8{n:Nat}(K:n<16):1<<<n<65536:=by rw [Nat.one_shiftLeft];exact Nat.pow_lt_pow_right (by omega) (show n<16 from K)
def HG(n:Nat)(l:List Int):Prop:=∀x∈l,0≤x∧x<(n:Int)
def CF(l:List Int):Nat:=l.foldl (fun s x=>s ||| 1<<<x.toNat) 0
theorem UG(l:List Int)(x:Int):CF (l++ [x])=CF l ||| 1<<<x.toNat:=by simp [CF]
theorem Rr{l:List Int}(h:HG 16 l):CF l<65536:=by
 have key:∀(l:List Int) (s:Nat),s<65536→HG 16 l→l.foldl (fun s x=>s ||| 1<<<x.toNat) s<65536:=by
  intro l
  induction l with
  | nil=>intro s hs _;exact hs
  | cons x l O=>
   intro s hs K;have V:=K x (by simp);exact O _ (N6 hs (S8 (by omega))) fun y U=>K y (by simp [U])
 exact key l 0 (by omega) h
theorem JE{l:List Int}(h:∀x∈l,0≤x)(n:Nat):(CF l).testBit n=decide ((n:Int)∈l):=by
 have key:∀(l:List Int) (s:Nat),(∀x∈l,0≤x)→(l.foldl (fun s x=>s ||| 1<<<x.toNat) s).testBit n=(s.testBit n || decide ((n:Int)∈l)):=by
  intro l
  induction l with
  | nil=>intro s _;simp
  | cons x l O=>
   intro s K;have V:=K x (by simp);rw [List.foldl_cons,O _ fun y U=>K y (by simp [U]),Nat.testBit_or];have e:(1<<<x.toNat).testBit n=decide ((n:Int)=x):=by
    rw [Nat.one_shiftLeft,Nat.testBit_two_pow];exact decide_eq_decide.2 ⟨fun h=>by omega,fun h=>by omega⟩
   rw [e,Bool.or_assoc];congr 1;simp
 rw [CF,key l 0 h];simp
theorem Pj{F:Nat}{l:List Int}(V:100<F)(Y:l.length<100)(h:HG 16 l):f120 F l=some (CF l):=by
 refine C3 ?_;unfold f120;refine AE (S:=fun r=>r=CF l) ?_ (by rintro r rfl;exact Ak rfl);refine B6 l.length (fun i s=>s=(CF (l.take i),(i:Int))) (by simp [CF]) (by omega) ?_ ?_
 ·rintro i s hi rfl;unfold MN;refine Bq (by simp;omega) (Bp (m:=i) rfl hi ?_);have Z:=h l[i] (List.getElem_mem hi);have O:l[i]=((l[i].toNat:Nat):Int):=by omega
  have hs:CF (l.take i)<65536:=Rr fun y U=>h y (List.mem_of_mem_take U);have K:=NN F (n:=l[i].toNat) hs (by omega);rw [← O] at K;refine AL K ?_;refine AT ((i+1:Nat):Int) (by simp) (by omega) (by omega) ?_;refine Ak ?_;show _=_;rw [List.take_add_one,List.getElem?_eq_getElem hi];simp only [Option.toList_some];rw [UG]
 ·rintro s rfl;unfold MN;exact A6 (by simp) (Ak ⟨_,rfl,by simp⟩)
def Cq(s:Nat)(k:Nat):List Int:=((List.range k).filter (fun n=>s.testBit n)).map (fun(n:Nat)=>(n:Int))
theorem OK(s k:Nat):Cq s (k+1)=if s.testBit k=true then Cq s k++ [(k:Int)] else Cq s k:=by
 unfold Cq;rw [List.range_succ,List.filter_append];by_cases h:s.testBit k=true
 ·rw [if_pos h];simp [h]
 ·rw [if_neg h];simp [h]
theorem KE(s k:Nat):(Cq s k).length≤k:=by
 unfold Cq;rw [List.length_map];exact Nat.le_trans (List.length_filter_le _ _) (by simp)
theorem HN{s k:Nat}{x:Int}:x∈Cq s k↔∃n:Nat,n<k∧s.testBit n=true∧x=(n:Int):=by
 unfold Cq;simp only [List.mem_map,List.mem_filter,List.mem_range];exact⟨fun⟨n,⟨K,O⟩,U⟩=>⟨n,K,O,U.symm⟩,fun⟨n,K,O,U⟩=>⟨n,⟨K,O⟩,U.symm⟩⟩
theorem Nr{F s:Nat}(K:100<F)(hs:s<65536):f89 F s=some (Cq s 16):=by
 refine C3 ?_;unfold f89;refine AE (S:=fun r=>r=Cq s 16) ?_ (by rintro r rfl;exact Ak rfl);refine B6 16 (fun i st=>st=(Cq s i,(i:Int))) rfl (by omega) ?_ ?_
 ·rintro i st hi rfl;unfold NO;refine Bq (by simp only;omega) (AL (YA F hs (by omega)) ?_);have hlen:=KE s i;refine AE (S:=fun r=>r=Cq s (i+1)) ?_ ?_
  ·rw [OK];refine Bs (fun h=>?_) (fun h=>?_)
   ·rw [if_pos h];exact JD (by simp only;omega) (Ak rfl)
   ·rw [if_neg h];exact Ak rfl
  ·rintro r rfl;exact AT ((i+1:Nat):Int) (by simp) (by omega) (by omega) (Ak rfl)
 ·rintro st rfl;unfold NO;exact A6 (by simp) (Ak ⟨_,rfl,rfl⟩)
end Pal
namespace Pal
abbrev JW:=List (List Int)×List (List Int)
structure VL (n:Nat) (l:List Int):Prop where
 len:l.length≤3
 inr:HG n l
 HH:l.Pairwise (·<·)
structure VJ (n:Nat) (J:JW):Prop where
 pos:0<n
 le:n≤8
 l1:J.1.length=n
 l2:J.2.length=n
 nx:∀(i:Nat) l,J.1[i]? =some l→VL n l∧0<l.length
 fl:∀(i:Nat) l,J.2[i]? =some l→VL n l∧(i:Int) ∉ l
theorem ZQ{l:List Int}(h:l.Pairwise (·<·)){i:Nat}(hi:i<l.length)(K:0<i):¬(l[i]≤l[i - 1]'(by omega)):=by
 have:=List.pairwise_iff_getElem.1 h (i - 1) i (by omega) hi (by omega);omega
theorem R8{F n:Nat}{J:JW}{m:Nat}{l:List Int}{b:Bool}(O:100<F)(U:J.1.length=n)(V:0<n∧n≤8)(K:VL n l)(hb:b=true∨(m:Int) ∉ l):f136 F J (m:Int) l b=some none:=by
 refine C3 ?_;unfold f136;have hlen:=K.len;refine AE (S:=fun q=>q=Sum.inr ()) ?_ (by rintro q rfl;exact Ak rfl);refine B6 l.length (fun i s=>s=(i:Int)) rfl (by omega) ?_ ?_
 ·rintro i s hi rfl;unfold JU;have Y:=K.inr l[i] (List.getElem_mem hi);refine Bq (by omega) (Bp (m:=i) rfl hi ?_);refine AT ((n - 1:Nat):Int) (by omega) (by omega) (by omega) (AL (I5 F _ _ _) ?_);refine A6 (by simp;omega) (AE (S:=fun c=>c=false) ?_ ?_)
  ·refine Bs (fun h=>?_) (fun h=>Ak rfl);rcases hb with rfl | hb
   ·exact Ak rfl
   ·exact absurd (h▸List.getElem_mem hi) hb
  ·rintro c rfl;refine A6 (by simp) (AE (S:=fun c=>c=false) ?_ ?_)
   ·refine Bs (fun h=>?_) (fun h=>Ak rfl);refine AT ((i - 1:Nat):Int) (by omega) (by omega) (by omega) (Bp (m:=i - 1) rfl (by omega) ?_);exact Ak (decide_eq_false (ZQ K.HH hi (by omega)))
   ·rintro c rfl;refine A6 (by simp) (AT ((i+1:Nat):Int) (by simp) (by omega) (by omega) ?_);exact Ak rfl
 ·rintro s rfl;unfold JU;exact A6 (by omega) (Ak ⟨_,rfl,rfl⟩)
theorem Yz{F n:Nat}{J:JW}(U:100<F)(K:VJ n J):f113 F J=some none:=by
 have V:=K.l1;have al:=K.l2;have Y:=K.pos;have Z:=K.le;refine C3 ?_;unfold f113;refine A6 (by omega) (A6 (by omega) (A6 (by omega) ?_));refine AE (S:=fun q=>q=Sum.inr ()) ?_ (by rintro q rfl;exact Ak rfl);refine B6 n (fun i s=>s=(i:Int)) rfl (by omega) ?_ ?_
 ·rintro i s hi rfl;unfold JV;have ag:i<J.1.length:=by omega
  have O:i<J.2.length:=by omega
  obtain⟨v1,v2⟩:=K.nx i _ (List.getElem?_eq_getElem ag);obtain⟨w1,w2⟩:=K.fl i _ (List.getElem?_eq_getElem O);have am:=v1.len;have g2:=w1.len;refine Bq (by omega) (Bp (m:=i) rfl ag ?_);refine A6 (by omega) (A6 (by omega) ?_);refine AL (R8 U V ⟨Y,Z⟩ v1 (.inl rfl)) (A6 (by simp) ?_);refine Bp (m:=i) rfl O (A6 (by omega) ?_);refine Bp (m:=i) rfl O (AL (R8 U V ⟨Y,Z⟩ w1 (.inr w2)) ?_);refine A6 (by simp) (AT ((i+1:Nat):Int) (by simp) (by omega) (by omega) ?_);exact Ak rfl
 ·rintro s rfl;unfold JV;exact A6 (by omega) (Ak ⟨_,rfl,rfl⟩)
theorem QF(F:Nat):Ly F none=some 0:=by
 unfold Ly f112;have h:∃b,f135 F=some b:=by unfold f135;exact⟨_,rfl⟩
 obtain⟨b,hb⟩:=h;rw [hb];cases b <;> rfl
def Ge(nx:List (List Int))(s:Nat):Nat:=(Cq s 16).foldl (fun o m=>o ||| CF (nx.getD m.toNat [])) 0
theorem VJ.FW{n:Nat}{J:JW}(K:VJ n J)(m:Nat):VL n (J.1.getD m []):=by
 rw [List.getD_eq_getElem?_getD];cases h:J.1[m]? with
 | none=>exact⟨by simp,fun x O=>by simp at O,by simp⟩
 | some l=>exact(K.nx m l h).1
theorem HG.Ai{n m:Nat}{l:List Int}(h:HG n l)(hle:n≤m):HG m l:=fun x K=>by have:=h x K;omega
theorem MX{n:Nat}{J:JW}(U:VJ n J)(s k:Nat):(Ge J.1 s).testBit k=true↔∃m,m<16∧s.testBit m=true∧(k:Int)∈J.1.getD m []:=by
 have key:∀(l:List Int) (o:Nat),(l.foldl (fun o m=>o ||| CF (J.1.getD m.toNat [])) o).testBit k=true↔o.testBit k=true∨∃m∈l,(k:Int)∈J.1.getD m.toNat []:=by
  intro l
  induction l with
  | nil=>intro o;simp
  | cons x l V=>
   intro o;rw [List.foldl_cons,V,Nat.testBit_or,Bool.or_eq_true,JE fun y Y=>((U.FW x.toNat).inr y Y).1,decide_eq_true_eq];simp only [List.mem_cons,exists_eq_or_imp,or_assoc]
 unfold Ge;rw [key];simp only [Nat.zero_testBit,Bool.false_eq_true,false_or];constructor
 ·rintro⟨x,Z,ag⟩;obtain⟨m,K,O,rfl⟩:=HN.1 Z;exact⟨m,K,O,ag⟩
 ·rintro⟨m,K,O,al⟩;exact⟨(m:Int),HN.2 ⟨m,K,O,rfl⟩,by simpa using al⟩
theorem QD{n s:Nat}(h:∀k,n≤k→s.testBit k=false):s<2 ^ n:=Nat.lt_pow_two_of_testBit s h
theorem PD{n:Nat}{J:JW}(K:VJ n J)(s:Nat):Ge J.1 s<2 ^ n:=by
 refine QD fun k U=>?_;cases h:(Ge J.1 s).testBit k with
 | false=>rfl
 | true=>
  obtain⟨m,_,_,O⟩:=(MX K s k).1 h;have:=(K.FW m).inr _ O;omega
theorem Su{n:Nat}(h:n≤8):2 ^ n≤256:=Nat.pow_le_pow_right (by omega) h
theorem HS{n s k:Nat}(h:s<2 ^ n)(O:s.testBit k=true):k<n:=by
 rcases Nat.lt_or_ge k n with K | K
 ·exact K
 ·rw [Nat.testBit_lt_two_pow (Nat.lt_of_lt_of_le h (Nat.pow_le_pow_right (by omega) K))] at O;cases O
theorem Ru{F n:Nat}{J:JW}{A:List Nat}{s:Nat}(V:100<F)(K:VJ n J)(hs:s<2 ^ n):Ki F (J.1,J.2,A) s=some (Ge J.1 s,(J.1,J.2,A)):=by
 have am:=K.l1;have al:=K.le;have ap:=Su al;refine C3 ?_;unfold Ki;refine AL (Nr V (by omega)) ?_;refine AE (S:=fun r=>r=Ge J.1 s) ?_ (by rintro r rfl;exact Ak rfl);have hlen:=KE s 16;refine B6 (Cq s 16).length (fun i st=>st=(((Cq s 16).take i).foldl (fun o m=>o ||| CF (J.1.getD m.toNat [])) 0,(i:Int))∧((Cq s 16).take i).foldl (fun o m=>o ||| CF (J.1.getD m.toNat [])) 0<65536) ⟨rfl,by simp⟩ (by omega) ?_ ?_
 ·rintro i st hi ⟨rfl,Y⟩;unfold JJ;obtain⟨m,av,g2,Z⟩:=HN.1 (List.getElem_mem hi);have hm:=HS hs g2;have O:m<J.1.length:=by omega
  have U:=(K.nx m _ (List.getElem?_eq_getElem O)).1;have a0:=U.len;refine Bq (by simp;omega) ?_;refine Bp (m:=i) rfl hi ?_;refine Bp (m:=m) Z O ?_;refine AL (Pj V (show J.1[m].length<100 by omega) (U.inr.Ai (by omega))) ?_;have ag:CF J.1[m]<65536:=Rr (U.inr.Ai (by omega));refine AL (b:=((Cq s 16).take i).foldl (fun o m=>o ||| CF (J.1.getD m.toNat [])) 0 ||| CF J.1[m]) (if_pos ⟨Y,ag⟩) ?_;refine AT ((i+1:Nat):Int) (by simp) (by omega) (by omega) ?_;have e:((Cq s 16).take (i+1)).foldl (fun o m=>o ||| CF (J.1.getD m.toNat [])) 0=((Cq s 16).take i).foldl (fun o m=>o ||| CF (J.1.getD m.toNat [])) 0 ||| CF J.1[m]:=by
   rw [List.take_add_one,List.getElem?_eq_getElem hi,List.foldl_append,Z];simp [List.getD_eq_getElem?_getD,O]
  refine Ak ⟨?_,?_⟩
  ·rw [e]
  ·rw [e];exact N6 Y ag
 ·rintro st ⟨rfl,_⟩;unfold JJ;refine A6 (by simp) (Ak ⟨_,rfl,?_⟩);rw [List.take_length];rfl
def AG(J:JW):Nat→Nat
 | 0=>1
 | a+1=>Ge J.1 (AG J a)
theorem II{n:Nat}{J:JW}(K:VJ n J):∀a,AG J a<2 ^ n
 | 0=>Nat.one_lt_two_pow (by have:=K.pos;omega)
 | a+1=>PD K _
def FG(J:JW):List Nat:=(List.range 13).map (AG J)
def LR(J:JW)(n k:Nat)(A:List Nat):Prop:=A.length=13∧(∀i,i≤k→i<13→A[i]? =some (AG J i))∧∀x∈A,x<2 ^ n
theorem LR.all{J:JW}{n:Nat}{A:List Nat}(h:LR J n 12 A):A=FG J:=by
 apply List.ext_getElem?;intro i;rcases Nat.lt_or_ge i 13 with hi | hi
 ·rw [h.2.1 i (by omega) hi];simp [FG,hi]
 ·rw [List.getElem?_eq_none (by rw [h.1];exact hi),List.getElem?_eq_none (by simp [FG];exact hi)]
theorem QY{F n:Nat}{J:JW}{A:List Nat}(al:100<F)(Y:VJ n J)(am:A.length=13)(Z:∀x∈A,x<2 ^ n):
  A1 (iter (Lr F) F (J.1,J.2,A,A,0)) (fun r=>r.1=J.1∧r.2.1=J.2∧r.2.2.1=A∧r.2.2.2.length=13∧r.2.2.2[0]? =A[0]? ∧(∀i,i<12→∀s,A[i]? =some s→r.2.2.2[i+1]? =some (Ge J.1 s))∧∀x∈r.2.2.2,x<2 ^ n):=by
 refine B6 12 (fun k st=>∃B:List Nat,st=(J.1,J.2,A,B,(k:Int))∧B.length=13∧B[0]? =A[0]? ∧(∀i,i<k→∀s,A[i]? =some s→B[i+1]? =some (Ge J.1 s))∧∀x∈B,x<2 ^ n) ⟨A,rfl,am,rfl,fun i hi=>by omega,Z⟩ (by omega) ?_ ?_
 ·rintro k st av ⟨B,rfl,K,O,hs,hb⟩;unfold Lr;have U:k<A.length:=by omega
  have ag:k+1<B.length:=by omega
  refine Bq (by simp only;omega) (AT ((k+1:Nat):Int) (by simp) (by omega) (by omega) ?_);refine Bp (m:=k) rfl U (AL (Ru al Y (Z _ (List.getElem_mem U))) ?_);refine Bp (m:=k+1) rfl ag (AT ((k+1:Nat):Int) (by simp) (by omega) (by omega) ?_);refine Ak ⟨B.set (k+1) (Ge J.1 A[k]),rfl,by simpa using K,?_,?_,?_⟩
  ·rw [List.getElem?_set_ne (by omega)];exact O
  ·intro i hi s V;by_cases e:i=k
   ·subst e;rw [List.getElem?_set_self ag];have:A[i]=s:=by rw [List.getElem?_eq_getElem U] at V;exact Option.some.inj V
    rw [this]
   ·rw [List.getElem?_set_ne (by omega)];exact hs i (by omega) s V
  ·intro x ap;rcases List.mem_or_eq_of_mem_set ap with h | h
   ·exact hb x h
   ·subst h;exact PD Y _
 ·rintro st ⟨B,rfl,K,O,hs,hb⟩;unfold Lr;refine A6 (by simp) (Ak ⟨_,rfl,rfl,rfl,rfl,K,O,hs,hb⟩)
theorem ah{F n:Nat}{J:JW}(av:100<F)(al:VJ n J):f92 F J=some (some (J.1,J.2,FG J)):=by
 have a7:=al.pos;refine C3 ?_;unfold f92;refine Bp (m:=0) rfl (by simp) ?_;refine AE (S:=fun q=>q=Sum.inl (some (J.1,J.2,FG J))) ?_ (by rintro q rfl;exact Ak rfl);refine B6 12 (fun k st=>∃A:List Nat,st=(J.1,J.2,A)∧LR J n k A) ?_ (by omega) ?_ ?_
 ·refine⟨_,rfl,by simp,fun i hi _=>?_,fun x a0=>?_⟩
  ·obtain rfl:i=0:=by omega
   rfl
  ·rcases List.mem_or_eq_of_mem_set a0 with h | h
   ·simp at h;subst h;exact Nat.two_pow_pos n
   ·subst h;exact Nat.one_lt_two_pow (by omega)
 ·rintro k st a8 ⟨A,rfl,K⟩;unfold Nm;refine AE (QY av al K.1 K.2.2) ?_;rintro⟨a1,a2,am,B⟩ ⟨Y,Z,ag,O,g2,U,V⟩;simp only at Y Z ag O g2 U V ⊢;subst Y Z ag;refine Bs (fun h=>?_) (fun h=>?_)
  ·refine Ak ⟨B,rfl,O,fun i hi ap=>?_,V⟩;cases i with
   | zero=>rw [g2];exact K.2.1 0 (by omega) (by omega)
   | succ i=>exact U i (by omega) _ (K.2.1 i (by omega) (by omega))
  ·have e:B=am:=Decidable.byContradiction fun a3=>h a3;subst e;refine Ak ?_;show _=_;have a4:LR J n 12 B:=by
    refine⟨O,fun i hi ap=>?_,V⟩;have:∀i,i<13→B[i]? =some (AG J i):=by
     intro i
     induction i with
     | zero=>intro _;exact K.2.1 0 (by omega) (by omega)
     | succ i a5=>intro h;exact U i (by omega) _ (a5 (by omega))
    exact this i ap
   rw [a4.all]
 ·rintro st ⟨A,rfl,K⟩;unfold Nm;refine AE (QY av al K.1 K.2.2) ?_;rintro⟨a1,a2,am,B⟩ ⟨Y,Z,ag,O,g2,U,V⟩;simp only at Y Z ag O g2 U V ⊢;subst Y Z ag;have a6:LR J n 12 B:=by
   refine⟨O,fun i hi ap=>?_,V⟩;cases i with
   | zero=>rw [g2];exact K.2.1 0 (by omega) (by omega)
   | succ i=>exact U i (by omega) _ (K.2.1 i (by omega) (by omega))
  have e:B=am:=by rw [a6.all,K.all]
  refine A6 (by rw [e];simp) (Ak ⟨_,rfl,?_⟩);rw [K.all]
end Pal
namespace Pal
theorem YS(J:JW){a:Nat}(K:a<13):(FG J)[a]? =some (AG J a):=by simp [FG,K]
abbrev Ft:=List Int×Int×Nat
def BG(k:Nat)(b:Ft):Prop:=0≤b.2.1∧b.2.1≤(k:Int)
theorem BG.Ai{k k':Nat}{b:Ft}(h:BG k b)(K:k≤k'):BG k' b:=⟨h.1,by have:=h.2;omega⟩
theorem X3{F k:Nat}{b:Ft}(hb:BG k b)(K:k<1000000):A1 (f100 F b) (fun r=>r.1<2 ^ 64∧BG (k+1) r.2):=by
 obtain⟨O,U⟩:=hb;unfold f100;refine AT (b.2.1+1) rfl (by omega) (by omega) ?_;have key:∀x:Nat,(x % 2 ^ 64)>>>11<2 ^ 64:=fun x=>Nat.lt_of_le_of_lt (Nat.shiftRight_le _ _) (Nat.mod_lt _ (Nat.two_pow_pos 64));refine AE (S:=fun _=>True) ?_ ?_
 ·refine Bs (fun h=>?_) (fun h=>?_)
  ·refine AT b.2.1 (by omega) (by omega) (by omega) (Bp (m:=b.2.1.toNat) (by omega) (by omega) ?_);exact Ak trivial
  ·exact Ak trivial
 ·intro x _;exact Ak ⟨key _,by simp only;omega,by simp only;omega⟩
theorem VM{a:Nat}(h:a<2 ^ 62):L2 a=(a:Int):=by
 unfold L2;exact I0 (by omega)
theorem HY{F k:Nat}{b:Ft}{m:Int}(hb:BG k b)(O:k<1000000)(hm:m<1000000):A1 (f41 F b m) (fun r=>0≤r.1∧(r.1≤m∨r.1=0)∧BG (k+1) r.2):=by
 unfold f41;refine AE (X3 hb O) ?_;rintro⟨x,Z⟩ ⟨ag,K⟩;refine Bs (fun h=>?_) (fun h=>?_)
 ·exact Ak ⟨by simp,.inr rfl,K⟩
 ·have U:Dl m=m.toNat:=by unfold Dl;omega
  have V:(Dl m+1) % 2 ^ 64=m.toNat+1:=by rw [U];omega
  have Y:x % (m.toNat+1)<m.toNat+1:=Nat.mod_lt _ (by omega);refine AL (b:=x % (m.toNat+1)) (by rw [V];unfold N9;rw [if_neg (by omega)]) ?_;refine Ak ?_;simp only;generalize x % (m.toNat+1)=z at Y ⊢;rw [VM (by omega)];exact⟨by omega,.inl (by omega),K⟩
theorem Pt{F k:Nat}{b:Ft}{lo hi:Int}(hb:BG k b)(O:k<1000000)(V:0≤lo)(Y:lo≤hi)(Z:hi<1000):A1 (f96 F b lo hi) (fun r=>lo≤r.1∧r.1≤hi∧BG (k+1) r.2):=by
 unfold f96;refine AT (hi - lo) rfl (by omega) (by omega) (AE (HY hb O (by omega)) ?_);rintro⟨x,ag⟩ ⟨U,g2,K⟩;simp only at U g2 K ⊢;exact AT (lo+x) rfl (by omega) (by omega) (Ak ⟨by simp only;omega,by simp only;omega,K⟩)
theorem Lp{F k:Nat}{b:Ft}{m:Int}(hb:BG k b)(K:k<1000000)(U:1≤m)(V:m<1000):A1 (f97 F b m) (fun r=>BG (k+1) r.2):=by
 unfold f97;refine AT (m - 1) rfl (by omega) (by omega) (AE (HY hb K (by omega)) ?_);rintro⟨x,Y⟩ ⟨Z,g2,O⟩;exact Ak O
theorem NP{F k:Nat}{b:Ft}{l:List Int}(hb:BG k b)(U:k<1000000)(Y:0<l.length)(Z:l.length<1000):A1 (f99 F b l) (fun r=>r.1∈l∧BG (k+1) r.2):=by
 unfold f99;refine AT ((l.length - 1:Nat):Int) (by omega) (by omega) (by omega) (AE (HY hb U (by omega)) ?_);rintro⟨x,ag⟩ ⟨V,g2,K⟩;simp only at V g2 K ⊢;have O:x.toNat<l.length:=by omega
 exact Bp (m:=x.toNat) (by omega) O (Ak ⟨List.getElem_mem O,K⟩)
theorem YN{F:Nat}{x:Int}(K:100<F):f98 F [] x=some [x]:=by
 obtain⟨F,rfl⟩:∃k,F=k+1:=⟨F - 1,by omega⟩;refine C3 ?_;unfold f98;refine AL (b:=([],false)) ?_ ?_
 ·unfold iter;rfl
 ·refine AL (b:= [x]) ?_ (Ak rfl)
  rfl
theorem YJ{F:Nat}{a x:Int}(ap:100<F):f98 F [a] x=some (if x<a then [x,a] else if x=a then [a] else [a,x]):=by
 obtain⟨F,rfl⟩:∃k,F=k+2:=⟨F - 2,by omega⟩;refine C3 ?_;unfold f98;have U:As 1=some 1:=rfl;have V:ix [a] 0=some a:=rfl;have r0:room ([]:List Int) x=some [x]:=if_pos (by simp);have ag:room ([]:List Int) a=some [a]:=if_pos (by simp);have al:room [x] a=some [x,a]:=if_pos (by simp);have am:room [a] x=some [a,x]:=if_pos (by simp);have step:J7 (F+2) [a] x ([],false,0)=some (.more (if x<a then([x,a],true,1) else if x=a then([x],true,1) else([a],false,1))):=by
  unfold J7;rcases Int.lt_trichotomy x a with h | h | h
  ·have Y:x≤a:=by omega
   have Z:a≠x:=by omega
   simp [V,h,Y,Z,r0,al,U]
  ·subst h;simp [V,r0,U]
  ·have Y:¬x≤a:=by omega
   have Z:a≠x:=by omega
   have K:¬x<a:=by omega
   have O:¬x=a:=by omega
   simp [V,Y,Z,K,O,ag,U]
 have last:∀(o:List Int) (b:Bool),J7 (F+2) [a] x (o,b,1)=some (.done (o,b)):=by
  intro o b;unfold J7;simp
 rcases Int.lt_trichotomy x a with h | h | h
 ·rw [if_pos h] at step;refine AL (b:=([x,a],true)) ?_ ?_
  ·unfold iter;rw [step];simp only;unfold iter;rw [last]
  ·rw [if_pos h];exact AL (b:= [x,a]) (by simp) (Ak rfl)
 ·subst h;rw [if_neg (by omega),if_pos rfl] at step;refine AL (b:=([x],true)) ?_ ?_
  ·unfold iter;rw [step];simp only;unfold iter;rw [last]
  ·rw [if_neg (show ¬x<x by omega),if_pos (rfl:x=x)];exact AL (b:= [x]) (by simp) (Ak rfl)
 ·have K:¬x<a:=by omega
  have O:¬x=a:=by omega
  rw [if_neg K,if_neg O] at step;refine AL (b:=([a],false)) ?_ ?_
  ·unfold iter;rw [step];simp only;unfold iter;rw [last]
  ·rw [if_neg K,if_neg O];exact AL (b:= [a,x]) (by simp [am]) (Ak rfl)
theorem SV{F n:Nat}{l:List Int}{x:Int}(O:100<F)(U:HG n l)(V:l.length≤1)(Y:0≤x∧x<(n:Int)):A1 (f98 F l x) (fun r=>VL n r∧0<r.length∧r.length≤l.length+1∧∀y∈r,y=x∨y∈l):=by
 match l,V with
 | [],_=>
  rw [YN O];exact Ak ⟨⟨by simp,fun y K=>by simp at K;subst K;exact Y,by simp⟩,by simp,by simp,fun y K=>by simpa using K⟩
 | [a],_=>
  rw [YJ O];have Z:=U a (by simp);refine Ak ?_;rcases Int.lt_trichotomy x a with h | h | h
  ·rw [if_pos h];exact⟨⟨by simp,fun y K=>by simp at K;rcases K with rfl | rfl <;> assumption,by simpa using h⟩,by simp,by simp,fun y K=>by simpa using K⟩
  ·rw [if_neg (by omega),if_pos h];exact⟨⟨by simp,fun y K=>by simp at K;subst K;exact Z,by simp⟩,by simp,by simp,fun y K=>by simp at K;subst K;simp⟩
  ·rw [if_neg (by omega),if_neg (by omega)];exact⟨⟨by simp,fun y K=>by simp at K;rcases K with rfl | rfl <;> assumption,by simpa using h⟩,by simp,by simp,fun y K=>by simp at K;rcases K with rfl | rfl <;> simp⟩
 | a::b::l,h=>simp at h
structure PJ (n i:Nat) (N K:List (List Int)):Prop where
 l1:N.length=i
 l2:K.length=i
 nx:∀(q:Nat) l,N[q]? =some l→VL n l∧0<l.length
 fl:∀(q:Nat) l,K[q]? =some l→VL n l∧(q:Int) ∉ l
theorem PJ.snoc{n i:Nat}{N U:List (List Int)}{a b:List Int}(h:PJ n i N U)(V:VL n a∧0<a.length)(hb:VL n b∧(i:Int) ∉ b):PJ n (i+1) (N++ [a]) (U++ [b]):=by
 refine⟨by simp [h.l1],by simp [h.l2],fun q l K=>?_,fun q l K=>?_⟩
 ·rcases Nat.lt_or_ge q N.length with O | O
  ·rw [List.getElem?_append_left O] at K;exact h.nx q l K
  ·rw [List.getElem?_append_right O] at K;have:q - N.length=0:=by
    rcases Nat.eq_zero_or_pos (q - N.length) with e | e
    ·exact e
    ·rw [List.getElem?_eq_none (by simp;omega)] at K;cases K
   rw [this] at K;simp at K;subst K;exact V
 ·rcases Nat.lt_or_ge q U.length with O | O
  ·rw [List.getElem?_append_left O] at K;exact h.fl q l K
  ·rw [List.getElem?_append_right O] at K;have e:q - U.length=0:=by
    rcases Nat.eq_zero_or_pos (q - U.length) with e | e
    ·exact e
    ·rw [List.getElem?_eq_none (by simp;omega)] at K;cases K
   rw [e] at K;simp at K;subst K;have:q=i:=by have:=h.l2;omega
   subst this;exact hb
theorem VE{F n i k:Nat}{al:Int×Ft}{am:(List (List Int))×(List (List Int))×(List Int)×Int×Nat×Int}{b:Ft}{c:Int}(a6:100<F)(ap:al.1=(n:Int))(av:am.2.2.2.2.2=(i:Int))(hi:i<n)(bb:n≤8)(hb:BG k b)(bd:k<1000)(be:c=0∨c=1∨c=2):
  A1 (iter (Nl F al am) F (b.1,b.2.1,b.2.2,[],c)) (fun r=>VL n r.1∧(i:Int) ∉ r.1∧BG (k+10) r.2):=by
 refine ML (fun m st=>∃(l:List Int) (K:Ft),st=(K.1,K.2.1,K.2.2,l,(m:Int))∧m≤2∧VL n l∧(i:Int) ∉ l∧l.length≤2 - m∧BG (k+10 - 4*m) K) ?_ (m:=c.toNat) ⟨[],b,by simp;omega,by omega,⟨by simp,fun x a7=>by simp at a7,by simp⟩,by simp,by simp,hb.Ai (by omega)⟩ (by omega);rintro m st ⟨l,K,rfl,bi,Y,Z,hlen,a0⟩;unfold Nl;refine AE (S:=fun q=>q=decide (0<m∧1<n)) ?_ ?_
 ·refine Bs (fun h=>?_) (fun h=>?_)
  ·refine Ak ?_;rw [ap];exact decide_eq_decide.2 ⟨fun a1=>⟨by simp only at h;omega,by omega⟩,fun a1=>by omega⟩
  ·refine Ak ?_;have:¬0<m:=by simp only at h;omega
   simp [this]
 ·rintro q rfl;refine Bs (fun h=>?_) (fun h=>?_)
  ·have a1:0<m∧1<n:=of_decide_eq_true h;refine AT ((i:Int) - 1) (by rw [av]) (by omega) (by omega) ?_;refine AE (HY (F:=F) (b:=(K.1,K.2.1,K.2.2)) (m:=max 0 ((i:Int) - 1)) a0 (by omega) (by omega)) ?_;rintro⟨y,bo⟩ ⟨a2,g2,a3⟩;simp only at a2 g2 a3 ⊢;refine AE (Lp (F:=F) a3 (by omega) (by omega) (by omega)) ?_;rintro⟨o,bv⟩ ag;simp only at ag ⊢;refine AE (S:=fun r=>0≤r.1∧r.1<(n:Int)∧BG (k+10 - 4*m+1+1+1) r.2) ?_ ?_
   ·refine Bs (fun _=>?_) (fun _=>?_)
    ·refine AT ((n:Int) - 1) (by rw [ap]) (by omega) (by omega) (AE (HY (F:=F) ag (by omega) (by omega)) ?_);rintro⟨z,a4⟩ ⟨O,U,V⟩;exact Ak ⟨O,by simp only at O U ⊢;omega,V⟩
    ·exact Ak ⟨a2,by simp only;omega,BG.Ai ag (by omega)⟩
   ·rintro⟨z,a4⟩ ⟨O,U,V⟩;simp only at O U V ⊢;refine AE (S:=fun r=>VL n r∧(i:Int) ∉ r∧r.length≤l.length+1) ?_ ?_
    ·rw [av];refine Bs (fun a8=>?_) (fun _=>?_)
     ·refine AE (SV (F:=F) a6 Y.inr (by omega) ⟨O,U⟩) ?_;rintro r ⟨v1,v2,a5,v4⟩;refine Ak ⟨v1,fun a9=>?_,a5⟩;rcases v4 _ a9 with e | e
      ·exact a8 e.symm
      ·exact Z e
     ·exact Ak ⟨Y,Z,by omega⟩
    ·rintro r ⟨v1,v2,a5⟩;exact AT ((m - 1:Nat):Int) (by omega) (by omega) (by omega) (Ak ⟨m - 1,by omega,r,a4,rfl,by omega,v1,v2,by omega,V.Ai (by omega)⟩)
  ·exact Ak ⟨Y,Z,a0.Ai (by omega)⟩
theorem az{F k mx:Nat}{b:Ft}(a0:100<F)(hb:BG k b)(bv:k<100)(bw:1≤mx)(bU:mx≤8):A1 (f39 F b (mx:Int)) (fun r=>(∃n,n≤mx∧VJ n r.1)∧BG (k+301) r.2):=by
 unfold f39;refine AE (Pt (F:=F) hb (by omega) (by omega) (by omega) (by omega)) ?_;rintro⟨a1,bb⟩ ⟨n1,n2,a2⟩;simp only at n1 n2 a2;obtain⟨n,rfl⟩:∃n:Nat,a1=(n:Int):=⟨a1.toNat,by omega⟩;have bV:1≤n:=by omega
 have a3:n≤8:=by omega
 refine AE (S:=fun r=>PJ n n r.2.2.2.1 r.2.2.2.2∧BG (k+301) (r.1,r.2.1,r.2.2.1)) ?_ ?_
 ·refine B6 n (fun i st=>∃(N O:List (List Int)) (Y:Ft),st=(N,O,Y.1,Y.2.1,Y.2.2,(i:Int))∧PJ n i N O∧BG (k+1+30*i) Y) ⟨[],[],bb,rfl,⟨rfl,rfl,fun q l ag=>by simp at ag,fun q l ag=>by simp at ag⟩,a2⟩ (by omega) ?_ ?_
  ·rintro i st hi ⟨N,O,Z,rfl,K,al⟩;unfold ND;refine Bq (by simp only;omega) (AT ((n:Int) - 1) rfl (by omega) (by omega) ?_);refine AT ((i+1:Nat):Int) (by simp) (by omega) (by omega) (AE (Lp (F:=F) (b:=(Z.1,Z.2.1,Z.2.2)) al (by omega) (by omega) (by omega)) ?_);rintro⟨o,bW⟩ g2;simp only at g2 ⊢;have a4:HG n [min ((n:Int) - 1) ((i+1:Nat):Int)]:=fun x U=>by simp at U;subst U;omega
   refine AE (S:=fun r=>VL n r.1∧0<r.1.length∧BG (k+1+30*i+2) r.2) ?_ ?_
   ·refine Bs (fun _=>?_) (fun _=>?_)
    ·refine AT ((n:Int) - 1) rfl (by omega) (by omega) (AE (Pt (F:=F) g2 (by omega) (by omega) (by omega) (by omega)) ?_);rintro⟨y,a5⟩ ⟨am,ap,V⟩;simp only at am ap V ⊢;refine AE (SV (F:=F) a0 a4 (by simp) ⟨by omega,by omega⟩) ?_;rintro r ⟨v1,v2,bY,v4⟩;exact Ak ⟨v1,v2,V⟩
    ·exact Ak ⟨⟨by simp,a4,by simp⟩,by simp,BG.Ai g2 (by omega)⟩
   ·rintro⟨nx,a5⟩ ⟨w1,w2,w3⟩;simp only at w1 w2 w3 ⊢;refine AE (Lp (F:=F) (b:=a5) w3 (by omega) (by omega) (by omega)) ?_;rintro⟨o2,bZ⟩ av;simp only at av ⊢;refine AE (S:=fun r=>VL n r.1∧0<r.1.length∧BG (k+1+30*i+4) r.2) ?_ ?_
    ·refine Bs (fun _=>?_) (fun _=>?_)
     ·refine AT ((n:Int) - 1) rfl (by omega) (by omega) (AE (HY (F:=F) av (by omega) (by omega)) ?_);rintro⟨y,a6⟩ ⟨am,ap,V⟩;simp only at am ap V ⊢;exact Ak ⟨⟨by simp,fun x U=>by simp at U;subst U;omega,by simp⟩,by simp,V⟩
     ·exact Ak ⟨w1,w2,BG.Ai av (by omega)⟩
    ·rintro⟨a7,a6⟩ ⟨u1,u2,a8⟩;simp only at u1 u2 a8 ⊢;refine AE (NP (F:=F) (b:=a6) a8 (by omega) (by simp) (by simp)) ?_;rintro⟨c,bd⟩ ⟨a9,c2⟩;simp only at a9 c2 ⊢;have be:c=0∨c=1∨c=2:=by simp at a9;omega
     refine AE (VE (F:=F) (b:=bd) a0 rfl rfl hi a3 c2 (by omega) be) ?_;rintro⟨fl,bi⟩ ⟨t1,t2,t3⟩;simp only at t1 t2 t3 ⊢;have b0:=K.l1;have b1:=K.l2;refine AL (b:=N++ [a7]) (if_pos (by simp;omega)) (AL (b:=O++ [fl]) (if_pos (by simp;omega)) ?_);exact AT ((i+1:Nat):Int) (by simp) (by omega) (by omega) (Ak ⟨N++ [a7],O++ [fl],bi,rfl,K.snoc ⟨u1,u2⟩ ⟨t1,t2⟩,t3.Ai (by omega)⟩)
  ·rintro st ⟨N,O,Z,rfl,K,al⟩;unfold ND;refine A6 (by simp) (Ak ⟨_,rfl,K,al.Ai (by omega)⟩)
 ·rintro⟨b2,b3,b4,N,O⟩ ⟨K,bo⟩;refine Ak ⟨⟨n,by omega,?_⟩,bo⟩;exact⟨by omega,a3,K.l1,K.l2,K.nx,K.fl⟩
end Pal
namespace Pal
open Go Go.Conc Go.Proofs
open Go.Proofs.Tryz
end Pal
namespace Pal
def Ib(J:JW)(n a:Nat)(d:List Bool):Prop:=d.length=n∧∀m,m<n→d[m]? =some ((AG J a).testBit m)
def Ql(J:JW)(n a k:Nat)(d:List Bool):Prop:=d.length=n∧∀x:Nat,x<n→(d[x]? =some true↔∃m,m<k∧(AG J a).testBit m=true∧(x:Int)∈J.1.getD m [])
theorem Ql.due{n a:Nat}{J:JW}{d:List Bool}(K:VJ n J)(h:Ql J n a n d):Ib J n (a+1) d:=by
 refine⟨h.1,fun x U=>?_⟩;have V:x<d.length:=by rw [h.1];exact U
 rw [List.getElem?_eq_getElem V];congr 1;have Y:=h.2 x U;rw [List.getElem?_eq_getElem V,Option.some.injEq] at Y;have Z:=MX K (AG J a) x;have e:d[x]=true↔(AG J (a+1)).testBit x=true:=by
  rw [Y];show _↔(Ge J.1 (AG J a)).testBit x=true;rw [Z];have al:=K.le;constructor
  ·rintro⟨m,ag,g2,O⟩;exact⟨m,by omega,g2,O⟩
  ·rintro⟨m,ag,g2,O⟩;exact⟨m,HS (II K a) g2,g2,O⟩
 cases am:d[x] <;> cases ap:(AG J (a+1)).testBit x <;> simp_all
theorem VY{d:List Bool}{q x:Nat}(K:q<d.length):(d.set q true)[x]? =some true↔d[x]? =some true∨x=q:=by
 by_cases e:q=x
 ·subst e;rw [List.getElem?_set_self K];simp
 ·rw [List.getElem?_set_ne e];constructor
  ·exact .inl
  ·rintro(h | h)
   ·exact h
   ·exact absurd h.symm e
end Pal
namespace Pal
open Go Go.Conc Go.Proofs
open Go.Proofs.Tryz
end Pal
namespace Pal
theorem VJ.Qg{n:Nat}{J:JW}(K:VJ n J)(m:Nat):VL n (J.2.getD m []):=by
 rw [List.getD_eq_getElem?_getD];cases h:J.2[m]? with
 | none=>exact⟨by simp,fun x O=>by simp at O,by simp⟩
 | some l=>exact(K.fl m l h).1
end Pal
namespace Pal
abbrev Bm:=List (Int×Int)
structure Cg (n:Nat) (lk:Bm):Prop where
 len:lk.length≤8
 yr:∀l∈lk,0≤l.1∧l.1≤6
 sn:∀l∈lk,0≤l.2∧l.2<(n:Int)
 HH:lk.Pairwise (fun a b=>a.1≤b.1)
theorem XF{F n:Nat}{J:JW}{lk:Bm}(U:100<F)(K:VJ n J)(O:Cg n lk)(V:lk.length≤4):f116 F J lk=some none:=by
 have Y:=K.l1;have Z:=K.pos;have ag:=K.le;refine C3 ?_;unfold f116;refine A6 (by omega) ?_;refine AE (S:=fun q=>q=Sum.inr ()) ?_ (by rintro q rfl;exact Ak rfl);refine B6 lk.length (fun i s=>s=(i:Int)) rfl (by omega) ?_ ?_
 ·rintro i s hi rfl;unfold J4;have hm:=List.getElem_mem hi;have al:=O.yr _ hm;have hs:=O.sn _ hm;refine Bq (by omega) (Bp (m:=i) rfl hi ?_);refine AL (I5 F _ _ _) (A6 (by simp;omega) ?_);refine AE (S:=fun c=>c=false) ?_ ?_
  ·refine Bs (fun h=>?_) (fun h=>Ak rfl);refine AT ((i - 1:Nat):Int) (by omega) (by omega) (by omega) (Bp (m:=i - 1) rfl (by omega) ?_);have:=List.pairwise_iff_getElem.1 O.HH (i - 1) i (by omega) hi (by omega);exact Ak (decide_eq_false (by omega))
  ·rintro c rfl;refine A6 (by simp) (AT ((n - 1:Nat):Int) (by omega) (by omega) (by omega) ?_);refine AL (I5 F _ _ _) (A6 (by simp;omega) ?_);exact AT ((i+1:Nat):Int) (by simp) (by omega) (by omega) (Ak rfl)
 ·rintro s rfl;unfold J4;exact A6 (by omega) (Ak ⟨_,rfl,rfl⟩)
theorem Th{F n:Nat}{J:JW}{lk:Bm}(K:100<F)(O:VJ n J)(U:Cg n lk)(V:lk.length≤4):f69 F J lk=some 0:=by
 unfold f69;rw [Yz K O];simp only [Option.bind_some,Option.isSome_none,Bool.false_eq_true,if_false];rw [XF K O U V];simp only [Option.bind_some];rw [QF];rfl
def B5(lk:Bm):Nat:=match lk.getLast? with
 | some l=>l.1.toNat
 | none=>0
theorem HQ{n:Nat}{lk:Bm}(K:Cg n lk):B5 lk≤6:=by
 unfold B5;split
 ·rename_i l h;have:=K.yr l (List.mem_of_getLast? h);omega
 ·omega
theorem Ry{F n:Nat}{O:JW}{A:List Nat}{lk:Bm}{age:Int}{ms:List Int}{fl:Nat}(U:Cg n lk):Lz F ((O.1,O.2,A),lk,age,ms,fl)=some ((B5 lk:Nat):Int):=by
 have V:=U.len;refine C3 ?_;unfold Lz B5;refine Bs (fun h=>?_) (fun h=>?_)
 ·simp only at h;have:lk= []:=List.length_eq_zero_iff.1 (by omega);subst this;exact Ak rfl
 ·simp only at h;have K:lk.length - 1<lk.length:=by omega
  refine AT ((lk.length - 1:Nat):Int) (by simp only;omega) (by omega) (by omega) (Bp (m:=lk.length - 1) rfl K ?_);rw [List.getLast?_eq_getElem?,List.getElem?_eq_getElem K];have:=U.yr _ (List.getElem_mem K);refine Ak ?_;simp only;omega
def EK(J:JW)(m:Int)(l:Int×Int):Bool:=decide (m=l.2) || decide (l.2∈J.2.getD m.toNat [])
def EO(J:JW)(lk:Bm)(y:Nat)(m:Int):Bool:=lk.all fun l=>decide (l.1≠(y:Int)) || EK J m l
def BV(lk:Bm)(y:Nat)(m:Int):Nat→Nat
 | 0=>0
 | k+1=>match lk[k]? with
  | some l=>if l.1=(y:Int)∧m≠l.2 then BV lk y m k ||| 1<<<k else BV lk y m k
  | none=>BV lk y m k
theorem NM(lk:Bm)(y:Nat)(m:Int):∀k,k≤16→BV lk y m k<65536
 | 0,_=>by unfold BV;omega
 | k+1,h=>by
  have:=NM lk y m k (by omega)
  unfold BV
  split
  ·split
   ·exact N6 this (S8 (by omega))
   ·exact this
  ·exact this
theorem HV(lk:Bm)(y:Nat)(m:Int)(i:Nat):∀k,(BV lk y m k).testBit i=true↔i<k∧∃l,lk[i]? =some l∧l.1=(y:Int)∧m≠l.2
 | 0=>by simp [BV]
 | k+1=>by
  have ag:=HV lk y m i k
  have hb:(1<<<k).testBit i=decide (i=k):=by
   rw [Nat.one_shiftLeft,Nat.testBit_two_pow];exact decide_eq_decide.2 ⟨fun h=>h.symm,fun h=>h.symm⟩
  have key:∀P:Prop,(i<k∧P↔i<k+1∧P)∨i=k:=fun P=>by
   by_cases e:i=k
   ·exact .inr e
   ·exact .inl ⟨fun h=>⟨by omega,h.2⟩,fun h=>⟨by omega,h.2⟩⟩
  unfold BV;split
  ·rename_i l U;split
   ·rename_i V;rw [Nat.testBit_or,Bool.or_eq_true,ag,hb,decide_eq_true_iff];constructor
    ·rintro(⟨O,K⟩ | rfl)
     ·exact⟨by omega,K⟩
     ·exact⟨by omega,l,U,V.1,V.2⟩
    ·rintro⟨O,K⟩;by_cases e:i=k
     ·exact .inr e
     ·exact .inl ⟨by omega,K⟩
   ·rename_i V;rw [ag];constructor
    ·rintro⟨O,K⟩;exact⟨by omega,K⟩
    ·rintro⟨O,al,K,Y,Z⟩;by_cases e:i=k
     ·subst e;rw [U] at K;cases K;exact absurd ⟨Y,Z⟩ V
     ·exact⟨by omega,al,K,Y,Z⟩
  ·rename_i U;rw [ag];constructor
   ·rintro⟨O,K⟩;exact⟨by omega,K⟩
   ·rintro⟨O,al,K,Y,Z⟩;by_cases e:i=k
    ·subst e;rw [U] at K;cases K
    ·exact⟨by omega,al,K,Y,Z⟩
theorem X4{F:Nat}{l:List Int}{x:Int}(V:100<F)(Y:l.length<100):A1 (f201 F l x) (fun r=>decide (0≤r)=decide (x∈l)):=by
 unfold f201;refine AE (S:=fun q=>match q with | Sum.inl r=>0≤r∧x∈l | Sum.inr _=>x ∉ l) ?_ ?_
 ·refine B6 l.length (fun i s=>s=(i:Int)∧x ∉ l.take i) ⟨rfl,by simp⟩ (by omega) ?_ ?_
  ·rintro i s hi ⟨rfl,K⟩;unfold MP;refine Bq (by omega) (Bp (m:=i) rfl hi ?_);refine Bs (fun h=>?_) (fun h=>?_)
   ·exact Ak ⟨by omega,by rw [h];exact List.getElem_mem hi⟩
   ·refine AT ((i+1:Nat):Int) (by simp) (by omega) (by omega) (Ak ⟨rfl,?_⟩);rw [List.take_add_one,List.getElem?_eq_getElem hi];simp only [Option.toList_some,List.mem_append,List.mem_singleton];rintro(O | O)
    ·exact K O
    ·exact h O
  ·rintro s ⟨rfl,K⟩;unfold MP;exact A6 (by omega) (Ak ⟨_,rfl,by simpa using K⟩)
 ·rintro(r | u) U
  ·exact Ak (by rw [decide_eq_true U.1,decide_eq_true U.2])
  ·exact Ak (by rw [decide_eq_false U];rfl)
theorem XN{F:Nat}{l:List Int}{x:Int}(K:100<F)(O:l.length<100):f199 F l x=some (decide (x∈l)):=by
 refine C3 ?_;unfold f199;refine AE (X4 K O) ?_;intro r U;exact Ak U
theorem Yo{F n m:Nat}{J:JW}{A:List Nat}{s:Int}(U:100<F)(O:VJ n J)(hm:m<n):f192 F (J.1,J.2,A) (m:Int) s=some (if(m:Int)=s then some ((m:Int),none) else if s∈J.2.getD m [] then some ((m:Int),some s) else none):=by
 have Y:=O.l2;refine C3 ?_;unfold f192;refine Bs (fun h=>?_) (fun h=>?_)
 ·rw [if_pos h];exact Ak rfl
 ·rw [if_neg h];have V:J.2[m]? =some (J.2.getD m []):=by rw [List.getD_eq_getElem?_getD,List.getElem?_eq_getElem (by omega)];rfl
  refine AL (Ed (m:=m) rfl V) (AL (XN U (by have:=(O.Qg m).len;omega)) ?_);refine Bs (fun K=>?_) (fun K=>?_)
  ·rw [if_pos (of_decide_eq_true K)];exact Ak rfl
  ·rw [if_neg (of_decide_eq_false (by simpa using K))];exact Ak rfl
theorem YG{F n m y:Nat}{J:JW}{A:List Nat}{lk:Bm}{age:Int}{ms:List Int}{fl:Nat}(al:100<F)(am:VJ n J)(ap:Cg n lk)(hm:m<n):
  LD F ((J.1,J.2,A),lk,age,ms,fl) (y:Int) (m:Int)=some (if EO J lk y (m:Int)=true then(BV lk y (m:Int) lk.length,true) else(0,false)):=by
 have a2:=ap.len;refine C3 ?_;unfold LD;refine AE (S:=fun q=>(EO J lk y (m:Int)=true∧q=Sum.inr (BV lk y (m:Int) lk.length))∨(EO J lk y (m:Int)=false∧q=Sum.inl (0,false))) ?_ ?_
 ·refine B6 lk.length (fun i s=>s=(BV lk y (m:Int) i,(i:Int))∧∀l∈lk.take i,(decide (l.1≠(y:Int)) || EK J (m:Int) l)=true) ⟨rfl,by simp⟩ (by omega) ?_ ?_
  ·rintro i s hi ⟨rfl,K⟩;unfold MJ;have av:=NM lk y (m:Int) i (by omega);have hg:lk[i]? =some lk[i]:=List.getElem?_eq_getElem hi;have step:∀(l:Int×Int),l=lk[i]→(decide (l.1≠(y:Int)) || EK J (m:Int) l)=true→∀O∈lk.take (i+1),(decide (O.1≠(y:Int)) || EK J (m:Int) O)=true:=by
    rintro l rfl a0 O V;rw [List.take_add_one,hg] at V;simp only [Option.toList_some,List.mem_append,List.mem_singleton] at V;rcases V with h | rfl
    ·exact K O h
    ·exact a0
   have Y:BV lk y (m:Int) (i+1)=if lk[i].1=(y:Int)∧(m:Int)≠lk[i].2 then BV lk y (m:Int) i ||| 1<<<i else BV lk y (m:Int) i:=by
    rw [BV,hg]
   refine Bq (by simp only;omega) (AE (S:=fun q=>(q=Sum.inr (BV lk y (m:Int) (i+1))∧(decide (lk[i].1≠(y:Int)) || EK J (m:Int) lk[i])=true)∨(q=Sum.inl (0,false)∧(decide (lk[i].1≠(y:Int)) || EK J (m:Int) lk[i])=false)) ?_ ?_)
   ·refine Bp (m:=i) rfl hi (Bs (fun h=>?_) (fun h=>?_))
    ·refine Ak (.inl ⟨?_,by rw [decide_eq_true h];rfl⟩);rw [Y,if_neg (fun Z=>h Z.1)]
    ·have a1:lk[i].1=(y:Int):=by simpa using h
     refine AL (Yo al am hm) ?_;by_cases e:(m:Int)=lk[i].2
     ·rw [if_pos e];refine AE (S:=fun q=>q=Sum.inr (BV lk y (m:Int) i)) (Bq rfl (Ak rfl)) ?_;rintro q rfl;refine Ak (.inl ⟨?_,by unfold EK;rw [decide_eq_true e];simp⟩);rw [Y,if_neg (fun Z=>Z.2 e)]
     ·rw [if_neg e];by_cases U:lk[i].2∈J.2.getD m []
      ·rw [if_pos U];refine AE (S:=fun q=>q=Sum.inr (BV lk y (m:Int) i ||| 1<<<i)) ?_ ?_
       ·refine A6 (by simp [Kj]) (Bq rfl ?_);refine AL (NN F av (by omega)) (Ak rfl)
       ·rintro q rfl;refine Ak (.inl ⟨?_,by unfold EK;rw [show((m:Int)).toNat=m by omega,decide_eq_true U];simp⟩);rw [Y,if_pos ⟨a1,e⟩]
      ·rw [if_neg U];refine AE (S:=fun q=>q=Sum.inl (0,false)) ?_ ?_
       ·exact A6 (by simp [Kj]) (A6 (by simp [LJ]) (Ak rfl))
       ·rintro q rfl;refine Ak (.inr ⟨rfl,?_⟩);unfold EK;rw [show((m:Int)).toNat=m by omega,decide_eq_false U,decide_eq_false e,decide_eq_false h];rfl
   ·rintro q (⟨rfl,ag⟩ | ⟨rfl,ag⟩)
    ·rw [Sum.elim_inr];exact AT ((i+1:Nat):Int) (by simp) (by omega) (by omega) (Ak ⟨rfl,step _ rfl ag⟩)
    ·rw [Sum.elim_inl];refine Ak (.inr ⟨?_,rfl⟩);unfold EO;rw [List.all_eq_false];exact⟨lk[i],List.getElem_mem hi,by rw [ag];simp⟩
  ·rintro s ⟨rfl,K⟩;unfold MJ;refine A6 (by simp only;omega) (Ak ⟨_,rfl,.inl ⟨?_,rfl⟩⟩);rw [List.take_length] at K;unfold EO;exact List.all_eq_true.2 K
 ·rintro q (⟨h,rfl⟩ | ⟨h,rfl⟩)
  ·rw [Sum.elim_inr,if_pos h];exact Ak rfl
  ·rw [Sum.elim_inl,if_neg (by rw [h];simp)];exact Ak rfl
theorem Yy{F n m:Nat}{J:JW}{A:List Nat}{lk:Bm}{age:Int}{ms:List Int}{fl:Nat}(O:100<F)(U:VJ n J)(K:Cg n lk)(hm:m<n)(Z:ms.length<100)(V:fl<65536):
  LU F (J.1,J.2,A) lk age ms fl (m:Int)=some (if EO J lk ms.length (m:Int)=true then some (ms++ [(m:Int)],fl ||| BV lk ms.length (m:Int) lk.length) else none):=by
 refine C3 ?_;unfold LU;refine AL (YG O U K hm) ?_;have Y:=NM lk ms.length (m:Int) lk.length (by have:=K.len;omega);by_cases h:EO J lk ms.length (m:Int)=true
 ·rw [if_pos h,if_pos h];refine A6 (by simp) (AL (b:=ms) ?_ ?_)
  ·unfold f175 LC;have:CQ ([]:List Int) ms=some ms:=by unfold CQ;rw [if_pos (by simp;omega)];rfl
   rw [this];rfl
  ·refine AL (b:=ms++ [(m:Int)]) ?_ ?_
   ·unfold CQ;rw [if_pos (by simp;omega)]
   ·exact AL (if_pos ⟨V,Y⟩) (Ak rfl)
 ·rw [if_neg h,if_neg h];exact Bq rfl (Ak rfl)
end Pal
