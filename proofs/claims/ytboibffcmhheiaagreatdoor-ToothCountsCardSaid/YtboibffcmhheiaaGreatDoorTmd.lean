/- toothCounts_card. Part 4 of 8. -/
import Derived.Test.YtboibffcmhheiaaGreatDoorTmb
import Derived.Test.YtboibffcmhheiaaGreatDoorTmc
import Derived.Conc.WgGenN3
import Derived.Sort.AssemblyPlain
import Derived.Sort.Walk13a
set_option linter.all false
set_option maxRecDepth 100000
namespace Pal
open Go Go.Conc Go.Proofs
open Go.Proofs.Tryz
def Jh(fuel:Nat)(K:BZ)(lk:AI)(age:Int)(ms:List Int)(fl:Nat)(sm:Nat):Option (Option (List Int)):=
 (Lp fuel (K,lk,age,ms,fl)).bind fun O=>
 if O<((ms).length:Int) then(
  some none
 ) else(
  (f89 fuel sm).bind fun U=>
  some (some U)
 )
def PE(rec:Nat→List Int→Nat→List (List Int×Nat)→Option (List (List Int×Nat)))(fuel:Nat)(K:BZ)(lk:AI)(age:Int)(ms:List Int)(fl:Nat)(ac:List (List Int×Nat))(n:Int):Option (List (List Int×Nat)):=
 (Lx fuel K lk age ms fl n).bind fun r=>match r with
  | none=>some ac
  | some q=>(LF fuel K lk age q.1 q.2 n).bind fun s'=>rec s' q.1 q.2 ac
def Kf(ok:List (List Int×Nat)→Bool)(rec:Nat→List Int→Nat→List (List Int×Nat)→Option (List (List Int×Nat)))(fuel:Nat)(K:BZ)(lk:AI)(age:Int)(ms:List Int)(fl:Nat)(ac:List (List Int×Nat)):Option (List Int)→Option (List (List Int×Nat))
 | none=>if ok (ac++ [(ms,fl)])=true then some (ac++ [(ms,fl)]) else none
 | some l=>if l.length≤1000 then Fv (PE rec fuel K lk age ms fl) l ac else none
def IK(ok:List (List Int×Nat)→Bool)(fuel:Nat)(K:BZ)(lk:AI)(age:Int):Nat→Nat→List Int→Nat→List (List Int×Nat)→Option (List (List Int×Nat))
 | 0,_,_,_,_=>none
 | g+1,sm,ms,fl,ac=>(Jh fuel K lk age ms fl sm).bind fun r=>Kf ok (IK ok fuel K lk age g) fuel K lk age ms fl ac r
theorem YS{J:Judge Tryz.prog}{I:List (List Int×Nat)→LH→Seg→Prop}(a6:∀x E E' X,Le E E'→I x E X→I x E' X){E:LH}{bk k1 o2:Nat}{bK bL Y U:An}{bM bN Z V:Nat}{bO:List Value}{ap:BZ}{lk:AI}{age:Int}{ms:List Int}{fl:Nat}(bz:At E k1 o2 (([sV bK ap.1 bM,sV bL ap.2.1 bN]:List Value)++bO))(bA:Am (rL rI) E bK bM ap.1)(bB:Am (rL rI) E bL bN ap.2.1)(bC:(rA 13 (rN .u16)).r E bO ap.2.2)(bD:Am Bo E Y Z lk)(bE:Am rI E U V ms){a2 a3:Nat}(a9:At E a2 a3 [pV bk 0]){bd be kf a4:Nat}(b2:At E kf a4 [.func (.func 153) #[] [pV a2 a3,pV bd be,pV kf a4].toArray]){bP:Value}(b3:At E bd be [bP]){X:Seg}{acc acc':List (List Int×Nat)}{ok:List (List Int×Nat)→Bool}(bQ:I acc E X){rec:Nat→List Int→Nat→List (List Int×Nat)→Option (List (List Int×Nat))}(b4:∀s' av a7 ac bi,rec s' av a7 ac=some bi→∀E' K a c,Le E E'→Am rI E' a c av→I ac E' K→AM J 153 [uV s',pV a2 a3,pV bd be,pV kf a4] E' ([(bk,.cells #[pV k1 o2,.slice Y lk.length Z,iV age,(.slice a av.length c),(uV a7)] 175 (0,0))]++K) (fun w E' B'=>∃bF bG bH K,w= .bool true∧B'= [(bk,.cells #[pV k1 o2,.slice Y lk.length Z,bF,bG,bH] 175 (0,0))]++K∧I bi E' K))(b5:∀(E':LH) (K:Seg) (ac:List (List Int×Nat)) (av:List Int) (a7:Nat) (a:An) (c:Nat),Le E E'→Am rI E' a c av→I ac E' K→ok (ac++ [(av,a7)])=true→EW J bP [.agg #[iV age,.slice a av.length c,uV a7]] E' K (fun w bR b6=>w= .bool true∧I (ac++ [(av,a7)]) bR b6)){sm:Nat}{fuel:Nat}{r:Option (List Int)}(bS:Jh fuel ap lk age ms fl sm=some r)(ag:Kf ok rec fuel ap lk age ms fl acc r=some acc'):
  AM J 153 [uV sm,pV a2 a3,pV bd be,pV kf a4] E ([(bk,.cells #[pV k1 o2,.slice Y lk.length Z,iV age,.slice U ms.length V,uV fl] 175 (0,0))]++X) (fun w E' B'=>∃bF bG bH K,w= .bool true∧B'= [(bk,.cells #[pV k1 o2,.slice Y lk.length Z,bF,bG,bH] 175 (0,0))]++K∧I acc' E' K):=by
 refine A4 func153 fun Q cK cs H a5 bT=>?_;refine DL (S':= [[(bk,.cells #[pV k1 o2,.slice Y lk.length Z,iV age,.slice U ms.length V,uV fl] 175 (0,0))],X]) (by simp) a5 fun a5=>?_;unfold Jh at bS;refine zg 6 rfl (Dj 8 [bk] ⟨⟨0,_,rfl⟩,trivial⟩ a5 fun ht=>?_);refine JG.lp 0 ht 0 a9 a5 ⟨⟨0,_,rfl⟩,trivial⟩ FI ?_;refine Cb 1 ht rfl rfl (Cc 2 ht underlying175 Cv rfl rfl rfl rfl ?_);refine Cc 3 ht underlying104 BT rfl rfl rfl rfl (Fi 4 ht 3 0 a5 CF ?_);refine BC 5 ht rfl rfl (fun ρ h s' hs=>Yl.len rfl underlying28 (h _ _ rfl)) (JG.lp 6 ht 0 a9 a5 ⟨⟨0,_,rfl⟩,trivial⟩ FI ?_);obtain⟨cM,b7,b8⟩:=bs bS;refine QH (i:=7) (vs:= [pV bk 0]) 0 ⟨⟨0,_,rfl⟩,trivial⟩ (Xx bz bA bB bC bD bE b7) (fun _ _ _ h=>h.2) (by decide+kernel) rfl rfl rfl (AR func154 rfl) rfl a5 rfl ?_;rintro _ bU O ⟨rfl,_⟩ a0;refine Co [8] (zg 2 rfl ?_);refine AL b8 (fun b9 ca=>?_) (fun b9 cb=>?_)
 ·refine JL.seq (Dj 5 [bk] ⟨⟨0,_,rfl⟩,trivial⟩ a0 fun ht=>?_);refine JG.lp 0 ht 0 (b3.Ah O) a0 ⟨⟨0,_,rfl⟩,trivial⟩ (DM underlying200) ?_;refine JG.lp 1 ht 0 (a9.Ah O) a0 ⟨⟨0,_,rfl⟩,trivial⟩ FI ?_;refine Cb 2 ht rfl rfl (Cc 3 ht underlying175 Cv rfl rfl rfl rfl ?_);refine BC 4 ht rfl rfl (fun ρ h s' hs=>FY (vs:= [iV age,sV U ms V,uV fl]) FU Cv (h _ _ rfl) (Vq (o:=2) 0 a0 rfl (by simp [A5]) hs rfl)) (Co [5,6] ?_);obtain rfl:=oi ca;have bV:ok (acc++ [(ms,fl)])=true∧acc++ [(ms,fl)]=acc':=by
   simp only [Kf] at ag;split at ag
   ·exact⟨by assumption,Option.some.inj ag⟩
   ·cases ag
  obtain⟨cc,bV⟩:=bV;subst acc';refine Jw (vs:= [.agg #[iV age,.slice U ms.length V,uV fl]]) 1 (b5 _ _ _ _ _ _ _ O (bE.Ah O) (a6 _ _ _ _ O bQ) cc) rfl rfl rfl rfl rfl a0 rfl ?_;rintro _ cN cd ce ⟨rfl,cf⟩ cg;refine zg 2 rfl (AA func153 rfl rfl ?_);exact bT (O.Ac ce) rfl ⟨iV age,.slice U ms.length V,uV fl,cd,rfl,by simp,cf⟩ cg
 ·obtain⟨am,ci,ck⟩:=bs cb;refine zg 5 rfl (BO (Ja ci) rfl rfl IM a0 ?_);rintro _ cm _ bI ⟨bW,bY,rfl,rfl,cn⟩ co;refine Be underlying28 rfl rfl rfl (zg 2 rfl ?_);obtain rfl:=oi ck;have cp:am.length≤1000∧Fv (PE rec fuel ap lk age ms fl) am acc=some acc':=by
   simp only [Kf] at ag;split at ag
   ·exact⟨by assumption,ag⟩
   ·cases ag
  obtain⟨hlen,ag⟩:=cp;refine JL.block (IA [(1,pV a2 a3),(3,pV kf a4),(24,sV bW am bY),(25,iV (am.length:Int)),(26,iV 0)] rfl ?_);refine DL (S':= [[(bk,.cells #[pV k1 o2,.slice Y lk.length Z,iV age,.slice U ms.length V,uV fl] 175 (0,0))],X]) (by simp) co fun cq=>Uk (l:=am) ag (fun L s i ac=>∃bo a8,Jn cm H bo [[(bk,.cells #[pV k1 o2,.slice Y lk.length Z,iV age,.slice U ms.length V,uV fl] 175 (0,0))],a8] [(1,pV a2 a3),(3,pV kf a4),(24,sV bW am bY),(25,iV (am.length:Int)),(26,iV ((i:Nat):Int))] L s (I ac bo a8)) ⟨_,X,rfl,rfl,Le.refl _,cq,a6 _ _ _ _ (O.Ac bI) bQ⟩ ?_ ?_
  ·rintro _ _ i ac n bi ⟨bo,a8,rfl,rfl,bb,bJ,bv⟩ cr cO ct cu;have cv:=(O.Ac bI).Ac bb;refine zg 5 rfl ?_;rw [decide_eq_true (show((i:Nat):Int)<(am.length:Int) by omega)];refine zg 6 rfl ?_;have cw:ix am ((i:Nat):Int)=some n:=by unfold ix;rw [if_pos (by omega)];exact cr
   refine BN (cn.Ah bb) cw underlying28 AU ?_;rintro kk cP _ rfl cy;refine BH 0 cy Bt rfl rfl rfl (CU bJ CK fun cz cA=>?_);refine BY 2 cA AU fun cB=>?_;refine C3 2 cB rfl fun cQ bw bZ cC=>?_;have a1:=cv.trans bw;refine zg 3 rfl (BH 0 (a9.Ah a1) FI rfl rfl rfl ?_);refine BH 0 bZ Bt rfl rfl rfl (AE (v:= .func (.func 156) #[] [pV kf a4,pV a2 a3,pV cz 0].toArray) rfl (fun ρ h=>IV (by simp) (by simp [h (.tmp 3) _ rfl,h (.tmp 1) _ rfl,h (.tmp 7) _ rfl])) ?_);refine DL (S':= [[(bk,.cells #[pV k1 o2,.slice Y lk.length Z,iV age,.slice U ms.length V,uV fl] 175 (0,0))]++a8]) (by simp) cC fun a0=>?_;obtain⟨q,cD,b0⟩:=Option.bind_eq_some_iff.1 ct;refine B9 0 (YM a6 (bz.Ah a1) (bA.Ah a1) (bB.Ah a1) (Rp.Ah _ a1 bC) (bD.Ah a1) (bE.Ah a1) (acc':=bi) (a6 _ _ _ _ bw bv) cD (fun e=>by subst e;exact(Option.some.inj b0).symm) (fun p e E' a c hle b1=>?_)) rfl rfl (AR func155 rfl) a0 rfl ?_
   ·subst e;obtain⟨s',cE,cF⟩:=Option.bind_eq_some_iff.1 b0;have al:=a1.trans hle;exact EW.ofFn (AR func156 rfl) (bp (bz.Ah al) (bA.Ah al) (bB.Ah al) (Rp.Ah _ al bC) (bD.Ah al) b1 (a9.Ah al) (b2.Ah al) (bZ.Ah hle) cE fun bR O=>b4 _ _ _ _ _ cF _ _ _ _ (al.Ac O) (b1.Ah O) (a6 _ _ _ _ (hle.trans O) (a6 _ _ _ _ bw bv)))
   rintro _ bU _ al ⟨K,rfl,rfl,cG⟩ cH;refine AE (v:= .bool (!true)) rfl (fun ρ h=>Yl.not (h _ _ rfl)) (zg 5 rfl ?_);have cI:Au (((i:Nat):Int)+1)=some (((i+1:Nat)):Int):=by unfold Au;rw [if_pos (by omega)];simp
   refine Bc cI rfl rfl rfl (zg 2 rfl ?_);exact DL (S':= [[(bk,.cells #[pV k1 o2,.slice Y lk.length Z,iV age,.slice U ms.length V,uV fl] 175 (0,0))],K]) (by simp) cH fun cJ=>Ax (cu _ _ ⟨bU,K,rfl,rfl,(bb.Ac bw).Ac al,cJ,cG⟩) rfl
  ·rintro _ _ ⟨bo,a8,rfl,rfl,bb,bJ,bv⟩;refine zg 5 rfl ?_;rw [decide_eq_false (Int.lt_irrefl _)];refine zg 6 rfl (AA func153 rfl rfl ?_);exact bT ((O.Ac bI).Ac bb) rfl ⟨iV age,.slice U ms.length V,uV fl,a8,rfl,by simp,bv⟩ bJ
end Pal
namespace Pal
open Go Go.Conc Go.Proofs
open Go.Proofs.Tryz
theorem Yg{J:Judge Tryz.prog}{I:List (List Int×Nat)→LH→Seg→Prop}(bi:∀x E E' X,Le E E'→I x E X→I x E' X){E:LH}{bk k1 o2:Nat}{a7 a8 Z:An}{a9 bb ag:Nat}{bd:List Value}{O:BZ}{lk:AI}{age:Int}(bo:At E k1 o2 (([sV a7 O.1 a9,sV a8 O.2.1 bb]:List Value)++bd))(bv:Am (rL rI) E a7 a9 O.1)(bw:Am (rL rI) E a8 bb O.2.1)(bz:(rA 13 (rN .u16)).r E bd O.2.2)(bA:Am Bo E Z ag lk){al am:Nat}(bB:At E al am [pV bk 0]){ap av kf a0:Nat}(bC:At E kf a0 [.func (.func 153) #[] [pV al am,pV ap av,pV kf a0].toArray]){be:Value}(bD:At E ap av [be]){fuel:Nat}{ok:List (List Int×Nat)→Bool}(bE:∀(E':LH) (Y:Seg) (ac:List (List Int×Nat)) (K:List Int) (U:Nat) (a:An) (c:Nat),Le E E'→Am rI E' a c K→I ac E' Y→ok (ac++ [(K,U)])=true→EW J be [.agg #[iV age,.slice a K.length c,uV U]] E' Y (fun w bF bG=>w= .bool true∧I (ac++ [(K,U)]) bF bG)):
  ∀(g sm:Nat) (ms:List Int) (fl:Nat) (ac V:List (List Int×Nat)),IK ok fuel O lk age g sm ms fl ac=some V→∀E' X a c,Le E E'→Am rI E' a c ms→I ac E' X→AM J 153 [uV sm,pV al am,pV ap av,pV kf a0] E' ([(bk,.cells #[pV k1 o2,.slice Z lk.length ag,iV age,(.slice a ms.length c),uV fl] 175 (0,0))]++X) (fun w E' B'=>∃bH bI bJ Y,w= .bool true∧B'= [(bk,.cells #[pV k1 o2,.slice Z lk.length ag,bH,bI,bJ] 175 (0,0))]++Y∧I V E' Y):=by
 intro g
 induction g with
 | zero=>intro sm ms fl ac V h;cases h
 | succ g bK=>
  intro sm ms fl ac V h E' X a c hle bL bM;obtain⟨r,bN,bO⟩:=Option.bind_eq_some_iff.1 h;exact YS bi (bo.Ah hle) (bv.Ah hle) (bw.Ah hle) (Rp.Ah _ hle bz) (bA.Ah hle) bL (bB.Ah hle) (bC.Ah hle) (bD.Ah hle) bM (rec:=IK ok fuel O lk age g) (fun s' K U ac V bP a1 a2 a3 c2 a4 a5 a6=>bK s' K U ac V bP a1 a2 a3 c2 (hle.trans a4) a5 a6) (fun a1 a2 ac K U a3 c2 a4 a5 a6 bQ=>bE a1 a2 ac K U a3 c2 (hle.trans a4) a5 a6 bQ) bN bO
def Ke(fuel:Nat)(K:BZ)(lk:AI)(age:Int):Option Nat:=
 (ix K.2.2 (age)).bind fun O=>
 some O
theorem Q1{J:Judge Tryz.prog}{I:List (List Int×Nat)→LH→Seg→Prop}(be:∀x E E' X,Le E E'→I x E X→I x E' X){E:LH}{bk k1 o2:Nat}{a3 a4 Y:An}{a5 a6 Z:Nat}{bi:List Value}{V:BZ}{lk:AI}{age:Int}(bo:At E k1 o2 (([sV a3 V.1 a5,sV a4 V.2.1 a6]:List Value)++bi))(bE:Am (rL rI) E a3 a5 V.1)(bF:Am (rL rI) E a4 a6 V.2.1)(a7:(rA 13 (rN .u16)).r E bi V.2.2)(bG:Am Bo E Y Z lk){av a0:Nat}(a8:At E av a0 [pV bk 0]){bv bw:Nat}(bz:At E bv bw [iV age]){al am ap:Value}{bA:Go.Fn}{X:Seg}{acc acc':List (List Int×Nat)}(bH:I acc E X){ok:List (List Int×Nat)→Bool}{fuel:Nat}(bI:∀(E':LH) (U:Seg) (ac:List (List Int×Nat)) (a1:List Int) (a9:Nat) (a:An) (c:Nat),Le E E'→Am rI E' a c a1→I ac E' U→ok (ac++ [(a1,a9)])=true→EW J (.func bA #[] #[]) [.agg #[iV age,.slice a a1.length c,uV a9]] E' U (fun w bJ bK=>w= .bool true∧I (ac++ [(a1,a9)]) bJ bK)){r:Nat}(bB:Ke fuel V lk age=some r)(bL:IK ok fuel V lk age fuel r [] 0 acc=some acc'):
  AM J 152 [.func bA #[] #[],pV bv bw,pV av a0] E ([(bk,.cells #[pV k1 o2,.slice Y lk.length Z,al,am,ap] 175 (0,0))]++X) (fun w E' B'=>∃al am ap U,w= .tuple #[]∧B'= [(bk,.cells #[pV k1 o2,.slice Y lk.length Z,al,am,ap] 175 (0,0))]++U∧I acc' E' U):=by
 refine A4 func152 fun Q cf cs H bb bM=>?_;refine DL (S':= [[(bk,.cells #[pV k1 o2,.slice Y lk.length Z,al,am,ap] 175 (0,0))],X]) (by simp) bb fun bb=>?_;unfold Ke at bB;refine zg 2 rfl (B7 bb fun bd cg K bN bO=>?_);refine zg 3 rfl (BH 0 (a8.Ah K) FI rfl rfl rfl ?_);refine BH 0 (bz.Ah K) Bt rfl rfl rfl (AE (v:= .agg #[iV age,nS,uV 0]) rfl (fun ρ h=>Di [(0,1),(1,1),(2,1)] h GV underlying104 ⟨rfl,Bw type3,rfl,Bw type28,rfl,Bw type102,trivial⟩ rfl rfl) ?_);refine zg 1 rfl (BM underlying175 Cv rfl rfl rfl ?_);refine BY 0 bO Cv fun bP=>?_;refine zg 3 rfl (CU bP (Dw type201) fun a2 bQ=>?_);refine Cu (S':= [[(bk,.cells #[pV k1 o2,sV Y lk Z,iV age,nS,uV 0] 175 (0,0))],X,[],[(a2,.cells #[.nilFunc] 201 (0,0))]]) rfl bQ fun bR=>zg 3 rfl (AE (v:= .func (.func 153) #[] ([pV av a0,pV bd 0,pV a2 0]:List Value).toArray) rfl (fun ρ h=>IV (by simp) (by simp [h (.tmp 2) _ rfl,h (.tmp 3) _ rfl,h (.tmp 4) _ rfl])) ?_);refine BY 3 bR (Bw type201) fun bS=>?_;refine C3 3 bS rfl fun bT O bC ag=>JL.done (Dj 11 [bk] ⟨⟨0,_,rfl⟩,trivial⟩ ag fun ht=>?_);refine JG.lp 0 ht 0 bC ag ⟨⟨0,_,rfl⟩,trivial⟩ (DM underlying201) ?_;refine JG.lp 1 ht 0 (a8.Ah (K.Ac O)) ag ⟨⟨0,_,rfl⟩,trivial⟩ FI ?_;refine Cb 2 ht rfl rfl (Cc 3 ht underlying175 Oa rfl rfl rfl rfl ?_);refine Fi 4 ht 0 0 ag LX ?_;refine JG.lp 5 ht 0 (bz.Ah (K.Ac O)) ag ⟨⟨0,_,rfl⟩,trivial⟩ Bt ?_;refine Cb 6 ht rfl rfl (Cc 7 ht underlying141 Gc rfl rfl rfl rfl ?_);obtain⟨bU,bD,bV⟩:=bs bB;obtain⟨_,rfl,bW,_,_⟩:=Tp (kk:=13) (pp:=(rN .u16)) (Rp.Ah _ (K.Ac O) a7) (At.tail (l:= [sV a3 V.1 a5,sV a4 V.2.1 a6]) (bo.Ah (K.Ac O))) bD;refine BC (v:= .pointer (some ⟨k1,(o2+2+Int.toNat (age)*1),none⟩)) 8 ht rfl rfl (fun ρ h s' hs=>Jz (kk:=13) (pp:=(rN .u16)) (Rp.Ah _ (K.Ac O) a7) bD underlying139 Ih (h _ _ rfl) (h _ _ rfl)) (Cc 9 ht underlying138 En rfl rfl rfl rfl ?_);refine JG.lp 10 ht 0 bW ag ⟨⟨0,_,rfl⟩,trivial⟩ GR ?_;refine Co [11] ?_;obtain rfl:=oi bV;have bY:EW J (.func (.func 153) #[] [pV av a0,pV bd 0,pV a2 0].toArray) [uV bU] bT ([(bk,.cells #[pV k1 o2,.slice Y lk.length Z,iV age,nS,uV 0] 175 (0,0))]++X) (fun w E' B'=>∃al am ap U,w= .bool true∧B'= [(bk,.cells #[pV k1 o2,.slice Y lk.length Z,al,am,ap] 175 (0,0))]++U∧I acc' E' U):=EW.ofFn (caps:= [pV av a0,pV bd 0,pV a2 0]) (AR func153 rfl) (Yg be (bo.Ah (K.Ac O)) (bE.Ah (K.Ac O)) (bF.Ah (K.Ac O)) (Rp.Ah _ (K.Ac O) a7) (bG.Ah (K.Ac O)) (a8.Ah (K.Ac O)) bC (bN.Ah O) (fun bZ b0 ac b1 b2 b3 c2 b4 b5 b6 b7=>bI bZ b0 ac b1 b2 b3 c2 (((K.Ac O)).Ac b4) b5 b6 b7) _ _ _ _ _ _ bL _ _ _ _ Ar Am.nil (be _ _ _ _ (K.Ac O) bH));refine DL (S':= [[(bk,.cells #[pV k1 o2,.slice Y lk.length Z,iV age,nS,uV 0] 175 (0,0))]++X]) (by simp) ag fun b8=>Jw 0 bY rfl rfl rfl rfl rfl b8 rfl ?_;rintro w ci _ b9 ⟨ca,cb,cc,U,rfl,rfl,cd⟩ ce;refine JL.done (JL.fin (v:= .tuple #[]) rfl rfl (Cs.list func152 rfl (vs:= []) trivial) ?_);exact bM ((K.Ac O).trans b9) rfl ⟨ca,cb,cc,U,rfl,by simp,cd⟩ ce
end Pal
namespace Pal
open Go Go.Conc Go.Proofs
open Go.Proofs.Tryz
noncomputable def Iy:Code:=match Tryz.f127.body with | some (.seq _ (.seq _ (.seq (.seq _ (.block _ (.rangeFunc _ _ a _))) _)))=>a | _=> .skip
noncomputable def Ix:Code:=match Tryz.f127.body with | some (.seq _ (.seq _ (.seq (.seq _ (.block _ (.rangeFunc _ _ _ b))) _)))=>b | _=> .skip
def add1(fuel:Nat)(age:Int)(q:Int×List (Ch))(x:List Int×Nat):Option (Int×List (Ch)):=
 (f130 fuel (age,x.1,x.2)).bind fun n=>IG fuel q.1 q.2 (age,x.1,x.2) n
def Ht(fuel:Nat)(age:Int)(ac:List (List Int×Nat)):Option (Int×List (Ch)):=Fv (add1 fuel age) ac (0,[])
def IP(fuel:Nat)(age:Int)(l K O:Nat)(T:Array Value)(ac:List (List Int×Nat))(E:LH)(X:Seg):Prop:=
 ∃q a c g,Ht fuel age ac=some q∧X=(l,.loop ⟨.ready,none,127,T,#[17],Iy,Ix,O⟩)::([(K,.cells #[iV age,iV q.1,.slice a q.2.length c] 133 (0,0))]++g)∧OL 104 Dq E a c g q.2
theorem IP.Ah{fuel:Nat}{age:Int}{l K O:Nat}{T:Array Value}:∀(ac:List (List Int×Nat)) (E E':LH) (X:Seg),Le E E'→IP fuel age l K O T ac E X→IP fuel age l K O T ac E' X:=
 fun ac E E' X hle ⟨q,a,c,g,U,V,Y⟩=>⟨q,a,c,g,U,V,Y.Ah hle⟩
theorem Qg{α B:Type}{step:B→α→Option B}:∀{l:List α} {x:α} {b:B},Fv step (l++ [x]) b=(Fv step l b).bind fun K=>step K x
 | [],x,b=>by simp [Fv]
 | y::l,x,b=>by
  simp only [List.cons_append,Fv]
  cases step b y with
  | none=>rfl
  | some K=>exact Qg
theorem Sj{J:Judge Tryz.prog}{fuel:Nat}{age:Int}{l K O:Nat}{T:Array Value}(a1:Has Tryz.f127.ntmps [(6,pV K 0)] T){E:LH}{X:Seg}{ac:List (List Int×Nat)}{ms:List Int}{fl:Nat}{U:An}{V:Nat}(am:Am rI E U V ms)(a2:IP fuel age l K O T ac E X)(a3:(Ht fuel age (ac++ [(ms,fl)])).isSome=true):
  EW J (.func (.yield l) #[] #[]) [.agg #[iV age,.slice U ms.length V,uV fl]] E X (fun w E' a4=>w= .bool true∧IP fuel age l K O T (ac++ [(ms,fl)]) E' a4):=by
 obtain⟨q,a,c,g,ap,rfl,a5⟩:=a2;obtain⟨r,he⟩:=Option.isSome_iff_exists.1 a3;have av:add1 fuel age q (ms,fl)=some r:=by
  have Z:=he;unfold Ht at Z ap;rw [Qg,ap] at Z;exact Z
 refine EW.yield (i:=0) (t:=17) rfl rfl fun Q a6 cs H ag a7=>?_;refine(?_:JL J Q (Tl l 127) Tryz.f127.ntmps [(17,.agg #[iV age,.slice U ms.length V,uV fl]),(6,pV K 0)] [] [.code Iy,.beginRound,.code Ix] (a6::cs) _) _ (a1.put (d:=some 17) rfl _);refine DL (S':= [[(l,.loop ⟨.ready,none,127,T,#[17],Iy,Ix,O⟩)],[(K,.cells #[iV age,iV q.1,.slice a q.2.length c] 133 (0,0))],g]) (by simp) ag fun ag=>?_;unfold add1 at av;refine JL.region (CU ag GV fun bE a8=>?_);refine BY 3 a8 Cv fun a9=>?_;refine C3 3 a9 rfl fun bF Y a0 bb=>JL.done (JL.beginRound 0 rfl rfl bb rfl rfl fun bd=>?_);refine JL.block (C7 4 fun ht=>?_);refine Cc 0 ht underlying133 Dr rfl rfl rfl rfl (Fe 1 ht a0 FU Cv rfl rfl rfl ?_);refine Fe 2 ht a0 FU Cv rfl rfl rfl ?_;obtain⟨bG,be,bi⟩:=bs av;refine JG.call (i:=3) (vs:= [.agg #[iV age,sV U ms V,uV fl]]) (Y9 (p0:=(age,ms,fl)) (am.Ah Y) be) (by decide+kernel) rfl rfl rfl (AR func130 rfl) rfl bd ?_;rintro _ bH _ al ⟨rfl,rfl⟩ bo;refine Co [4] (DL (S':= [[(l,.loop ⟨.busy,none,127,T,#[17],Iy,Ix,O⟩)],[(K,.cells #[iV age,iV q.1,.slice a q.2.length c] 133 (0,0))]++g]) (by simp) bo fun bv=>?_);refine B9 1 (Zq ((a5.Ah (Y.Ac al))) (tr:=(age,ms,fl)) (am.Ah (Y.Ac al)) bi) rfl rfl (AR func122 rfl) bv rfl ?_;rintro _ bI _ bw ⟨bz,bA,g',rfl,rfl,bB⟩ bC;refine zg 2 rfl (JL.endRound 0 rfl rfl bC rfl fun bD=>?_);exact a7 _ _ _ _ ((Y.Ac al).trans bw) rfl ⟨rfl,r,bz,bA,g',he,by simp,bB⟩ bD
end Pal
namespace Pal
open Go Go.Conc Go.Proofs
open Go.Proofs.Tryz
open Go.Conc.Lib Go.ConcR.Gen
theorem Qy{J:Judge Tryz.prog}{E:LH}{bk:Nat}{age:Int}:AM J 129 [pV bk 0,iV age] E [] (fun w E' B'=>∃K O,w= .func (.func 152) #[] [pV K 0,pV O 0].toArray∧B'= []∧At E' K 0 [iV age]∧At E' O 0 [pV bk 0]):=by
 refine A4 func129 fun Q a1 cs H Z ag=>?_;refine zg 2 rfl (B7 Z fun U a2 al am ap=>?_);refine B7 ap fun V a3 Y av a0=>?_;refine zg 4 rfl (AE (v:= .func (.func 152) #[] ([pV V 0,pV U 0]:List Value).toArray) rfl (fun ρ h=>IV (by simp) (by simp [h (.tmp 3) _ rfl,h (.tmp 2) _ rfl])) ?_);refine zg 2 rfl (AA func129 rfl rfl ?_);exact ag (al.Ac Y) rfl ⟨V,U,rfl,by simp,av,(am.Ah Y)⟩ a0
def GF(fuel:Nat)(K:BZ)(lk:AI)(age:Int):Option (Int×List (Ch)):=
 (Ke fuel K lk age).bind fun s=>(IK (fun ac=>(Ht fuel age ac).isSome) fuel K lk age fuel s [] 0 []).bind fun tr=>Ht fuel age tr
theorem WI{L:WgLink}(bi:WgLib Tryz.prog L)(b2:L.done=128){F:Fam}{j:Nat}{E:LH}{k1 o2:Nat}{b3 b4 O:An}{b5 b6 U:Nat}{b7:List Value}{av:BZ}{lk:AI}{age:Int}(b8:At E k1 o2 (([sV b3 av.1 b5,sV b4 av.2.1 b6]:List Value)++b7))(b9:Am (rL rI) E b3 b5 av.1)(ca:Am (rL rI) E b4 b6 av.2.1)(cb:(rA 13 (rN .u16)).r E b7 av.2.2)(cc:Am Bo E O U lk){bo bv bw ol ka a0 kc ag:Nat}(cg:At E bo bv [pV k1 o2])(ci:At E bw ol [.slice O lk.length U])(bB:At E ka a0 [iV age])(cd:At E kc ag [.chan (some F.ch)])
  {fuel:Nat} {q:Int×List (Ch)} (bz:GF fuel av lk age=some q) (bA:F.has j=decide (0<q.2.length)) (ce:∀E' a c,Le E E'→Am Dq E' a c q.2→F.msg j (.agg #[iV age,iV q.1,.slice a q.2.length c]) E'):
  Way Tryz.prog false (Stop Tryz.prog F (F.start j)) (born Tryz.prog ⟨.fn (.func 127) [.pointer (some F.sA),pV bo bv,pV bw ol,pV ka a0,pV kc ag].toArray,#[]⟩) ⟨E,fun _=>none,false⟩:=by
 refine Rr (fn:=Tryz.f127) (vs:= [.pointer (some F.sA),pV bo bv,pV bw ol,pV ka a0,pV kc ag]) func127 rfl rfl (by simp) (Nat.le_of_ble_eq_true rfl) ?_;obtain⟨H,ck⟩:∃H:LH,H=fun _=>none:=⟨_,rfl⟩;rw [← ck];have cf:Ay E H []:=trivial;refine(?_:JL (BA Tryz.prog false) (Stop Tryz.prog F (F.start j)) (baseD 127) Tryz.f127.ntmps (FM 0 [.pointer (some F.sA),pV bo bv,pV bw ol,pV ka a0,pV kc ag]) [] [.code _] [HX Tryz.prog] (Ao E H []));refine zg 2 rfl (JL.defer (vs:= [.pointer (some F.sA)]) rfl rfl rfl rfl rfl ?_);refine zg 2 rfl (C7 8 fun ht=>?_);refine Cy 0 ht 0 cg LX rfl rfl rfl rfl (Cy 1 ht 0 ci HK rfl rfl rfl rfl ?_);refine BC (v:= .agg #[pV k1 o2,sV O lk U,iV 0,nS,uV 0]) 2 ht rfl rfl (fun ρ h s' hs=>Di [(0,1),(1,1),(2,3)] h (Dw type175) underlying175 ⟨rfl,Bw type94,rfl,Bw type25,rfl,Bw type104,trivial⟩ rfl rfl) (Cy 4 ht 0 bB Bt rfl rfl rfl rfl ?_);refine BC (v:= .agg #[iV age,iV 0,nS]) 5 ht rfl rfl (fun ρ h s' hs=>Di [(0,1),(1,2)] h Ie underlying133 ⟨rfl,Bw type3,rfl,Bw type97,trivial⟩ rfl rfl) (I7 (i:=3) (j:=6) rfl (by decide+kernel) ?_ ?_)
 ·refine Take.TI (v:= .agg #[pV k1 o2,sV O lk U,iV 0,nS,uV 0]) cf rfl rfl rfl rfl fun a1 a3=>JG.one (i:=6) rfl (by decide+kernel) (Take.Lg a3 rfl rfl rfl Ie fun al a4=>?_);refine Cb 7 ht rfl rfl (Co [8] ?_);refine Cu (S':= [[(a1,.cells #[pV k1 o2,sV O lk U,iV 0,nS,uV 0] 175 (0,0))],[(al,.cells #[iV 0,iV 0,nS] 133 (0,0))]]) rfl a4 fun a5=>BY 1 a5 AS fun Z=>?_;refine zg 3 rfl (Cu (S':= [[(a1,.cells #[pV k1 o2,.slice O lk.length U,iV 0,nS,uV 0] 175 (0,0))],[(al,.cells #[iV age,iV 0,nS] 133 (0,0))]]) rfl Z fun bC=>?_);refine IA [(3,pV ka a0),(4,pV kc ag),(5,pV a1 0),(6,pV al 0)] rfl ?_;have a6:Le E E:=Ar;refine zg 2 rfl (BH 0 (bB.Ah a6) Bt rfl rfl rfl ?_);refine BO Qy rfl rfl (AR func129 rfl) bC ?_;rintro _ cm _ bD ⟨a7,a8,rfl,rfl,bE,bF⟩ a3;have V:=a6.Ac bD;refine zg 2 rfl (DL (S':= [[(a1,.cells #[pV k1 o2,.slice O lk.length U,iV 0,nS,uV 0] 175 (0,0))],[(al,.cells #[iV age,iV 0,nS] 133 (0,0))]]) (by simp) a3 fun bG=>?_);refine JL.rangeFunc (caps:= [pV a7 0,pV a8 0]) rfl (by intro e;cases e) rfl (AR func152 rfl) bG fun Y l T a9 bH=>OO (S':= [[(a1,.cells #[pV k1 o2,.slice O lk.length U,iV 0,nS,uV 0] 175 (0,0))]++([(l,.loop ⟨.ready,none,127,T,#[17],Iy,Ix,Y⟩)]++ [(al,.cells #[iV age,iV 0,nS] 133 (0,0))]),[(Y,.deferred (some []))]]) SR bH fun a4=>?_;unfold GF at bz;obtain⟨cn,bI,bJ⟩:=Option.bind_eq_some_iff.1 bz;obtain⟨tr,bK,bL⟩:=Option.bind_eq_some_iff.1 bJ;refine QV (vs:= [.func (.yield l) #[] #[],pV a7 0,pV a8 0]) 0 (Q1 (I:=IP fuel age l al Y T) (ok:=fun ac=>(Ht fuel age ac).isSome) (acc:= []) IP.Ah (b8.Ah V) (b9.Ah V) (ca.Ah V) (Rp.Ah _ V cb) (cc.Ah V) bF bE ⟨(0,[]),none,0,[],rfl,rfl,OL.nil⟩ (fun E' bM ac co cp a c hle bN bO bP=>Sj (a9.sub ⟨rfl,trivial⟩) bN bO bP) bI bK) a4 rfl ?_;rintro _ cq _ bQ ⟨bR,bS,bT,bM,rfl,rfl,K,a,c,g,bU,rfl,bV⟩ bW;obtain rfl:K=q:=Option.some.inj (bU.symm.trans bL);refine Rz (S':= [[(a1,.cells #[pV k1 o2,.slice O lk.length U,bR,bS,bT] 175 (0,0))],[(l,.loop ⟨.ready,none,127,T,#[17],Iy,Ix,Y⟩)],[(al,.cells #[iV age,iV K.1,.slice a K.2.length c] 133 (0,0))],g,[(Y,.deferred (some []))]]) (by simp) bW fun a5=>P5 1 a5 rfl rfl rfl fun Z=>?_;refine(?_:JL (BA Tryz.prog false) (Stop Tryz.prog F (F.start j)) (baseD 127) Tryz.f127.ntmps [(4,pV kc ag),(6,pV al 0)] [⟨.collected Y,#[]⟩,dcall 128 #[.pointer (some F.sA)]] _ [HX Tryz.prog] _) T (a9.sub ⟨rfl,rfl,trivial⟩);have bb:=V.Ac bQ;have bY:dcall 128 #[.pointer (some F.sA)]=dcall L.done #[.pointer (some F.sA)]:=by rw [b2]
  rw [bY];refine zg 3 rfl (BM underlying133 Dr rfl rfl rfl ?_);refine BM underlying97 Dv rfl rfl rfl (AE (v:= .slice a K.2.length c) rfl (fun ρ h=>Yl.load ER (h _ _ rfl) (DX (j:=2) (off:=2) Z rfl rfl)) ?_);refine Be underlying95 rfl rfl rfl (zg 2 rfl ?_);refine Pb (p:=0<((K.2).length:Int)) rfl (fun bZ=>?_) (fun bZ=>?_)
  ·have ap:F.start j= .CH j:=by unfold Fam.start;rw [bA,decide_eq_true (show 0<K.2.length by omega)];rfl
   rw [ap];refine JL.region (BH 0 (cd.Ah bb) LS rfl rfl rfl ?_);refine B6 3 bV Z rfl fun cr b0 b1 bd=>AE rfl (fun ρ h=>FY (vs:= [iV age,iV K.1,.slice a K.2.length c]) Ct AS (h _ _ rfl) (FV (off:=0) 2 bd rfl rfl)) (Rn rfl rfl rfl rfl rfl rfl rfl (ce _ _ _ (bb.Ac b0) b1) ?_);exact JL.done (JL.out rfl (JO.collected 4 rfl bd rfl fun be=>JO.NK bi rfl rfl (JO.leaveD rfl func127 rfl (.inr rfl) Ks)))
  ·have ap:F.start j= .C6:=by unfold Fam.start;rw [bA,decide_eq_false (show ¬0<K.2.length by omega)];rfl
   rw [ap];exact JL.skip (JL.out rfl (JO.collected 4 rfl Z rfl fun be=>JO.NK bi rfl rfl (JO.leaveD rfl func127 rfl (.inr rfl) Ks)))
 ·refine Take.Lg cf rfl rfl rfl Ie fun am be=>JG.one (i:=3) rfl (by decide+kernel) (Take.TI (v:= .agg #[pV k1 o2,sV O lk U,iV 0,nS,uV 0]) be rfl rfl rfl rfl fun a2 ct=>?_);refine Cb 7 ht rfl rfl (Co [8] ?_);refine Cu (S':= [[(am,.cells #[iV 0,iV 0,nS] 133 (0,0))],[(a2,.cells #[pV k1 o2,sV O lk U,iV 0,nS,uV 0] 175 (0,0))]]) rfl ct fun cu=>BY 0 cu AS fun cv=>?_;refine zg 3 rfl (JS.perm (S':= [[(a2,.cells #[pV k1 o2,.slice O lk.length U,iV 0,nS,uV 0] 175 (0,0))],[(am,.cells #[iV age,iV 0,nS] 133 (0,0))]]) (List.Perm.swap _ _ _) cv fun bC=>?_);refine IA [(3,pV ka a0),(4,pV kc ag),(5,pV a2 0),(6,pV am 0)] rfl ?_;have a6:Le E E:=Ar;refine zg 2 rfl (BH 0 (bB.Ah a6) Bt rfl rfl rfl ?_);refine BO Qy rfl rfl (AR func129 rfl) bC ?_;rintro _ cm _ bD ⟨a7,a8,rfl,rfl,bE,bF⟩ a3;have V:=a6.Ac bD;refine zg 2 rfl (DL (S':= [[(a2,.cells #[pV k1 o2,.slice O lk.length U,iV 0,nS,uV 0] 175 (0,0))],[(am,.cells #[iV age,iV 0,nS] 133 (0,0))]]) (by simp) a3 fun bG=>?_);refine JL.rangeFunc (caps:= [pV a7 0,pV a8 0]) rfl (by intro e;cases e) rfl (AR func152 rfl) bG fun Y l T a9 bH=>OO (S':= [[(a2,.cells #[pV k1 o2,.slice O lk.length U,iV 0,nS,uV 0] 175 (0,0))]++([(l,.loop ⟨.ready,none,127,T,#[17],Iy,Ix,Y⟩)]++ [(am,.cells #[iV age,iV 0,nS] 133 (0,0))]),[(Y,.deferred (some []))]]) SR bH fun a4=>?_;unfold GF at bz;obtain⟨cn,bI,bJ⟩:=Option.bind_eq_some_iff.1 bz;obtain⟨tr,bK,bL⟩:=Option.bind_eq_some_iff.1 bJ;refine QV (vs:= [.func (.yield l) #[] #[],pV a7 0,pV a8 0]) 0 (Q1 (I:=IP fuel age l am Y T) (ok:=fun ac=>(Ht fuel age ac).isSome) (acc:= []) IP.Ah (b8.Ah V) (b9.Ah V) (ca.Ah V) (Rp.Ah _ V cb) (cc.Ah V) bF bE ⟨(0,[]),none,0,[],rfl,rfl,OL.nil⟩ (fun E' bM ac co cp a c hle bN bO bP=>Sj (a9.sub ⟨rfl,trivial⟩) bN bO bP) bI bK) a4 rfl ?_;rintro _ cq _ bQ ⟨bR,bS,bT,bM,rfl,rfl,K,a,c,g,bU,rfl,bV⟩ bW;obtain rfl:K=q:=Option.some.inj (bU.symm.trans bL);refine Rz (S':= [[(a2,.cells #[pV k1 o2,.slice O lk.length U,bR,bS,bT] 175 (0,0))],[(l,.loop ⟨.ready,none,127,T,#[17],Iy,Ix,Y⟩)],[(am,.cells #[iV age,iV K.1,.slice a K.2.length c] 133 (0,0))],g,[(Y,.deferred (some []))]]) (by simp) bW fun a5=>P5 1 a5 rfl rfl rfl fun Z=>?_;refine(?_:JL (BA Tryz.prog false) (Stop Tryz.prog F (F.start j)) (baseD 127) Tryz.f127.ntmps [(4,pV kc ag),(6,pV am 0)] [⟨.collected Y,#[]⟩,dcall 128 #[.pointer (some F.sA)]] _ [HX Tryz.prog] _) T (a9.sub ⟨rfl,rfl,trivial⟩);have bb:=V.Ac bQ;have bY:dcall 128 #[.pointer (some F.sA)]=dcall L.done #[.pointer (some F.sA)]:=by rw [b2]
  rw [bY];refine zg 3 rfl (BM underlying133 Dr rfl rfl rfl ?_);refine BM underlying97 Dv rfl rfl rfl (AE (v:= .slice a K.2.length c) rfl (fun ρ h=>Yl.load ER (h _ _ rfl) (DX (j:=2) (off:=2) Z rfl rfl)) ?_);refine Be underlying95 rfl rfl rfl (zg 2 rfl ?_);refine Pb (p:=0<((K.2).length:Int)) rfl (fun bZ=>?_) (fun bZ=>?_)
  ·have ap:F.start j= .CH j:=by unfold Fam.start;rw [bA,decide_eq_true (show 0<K.2.length by omega)];rfl
   rw [ap];refine JL.region (BH 0 (cd.Ah bb) LS rfl rfl rfl ?_);refine B6 3 bV Z rfl fun cr b0 b1 bd=>AE rfl (fun ρ h=>FY (vs:= [iV age,iV K.1,.slice a K.2.length c]) Ct AS (h _ _ rfl) (FV (off:=0) 2 bd rfl rfl)) (Rn rfl rfl rfl rfl rfl rfl rfl (ce _ _ _ (bb.Ac b0) b1) ?_);exact JL.done (JL.out rfl (JO.collected 4 rfl bd rfl fun be=>JO.NK bi rfl rfl (JO.leaveD rfl func127 rfl (.inr rfl) Ks)))
  ·have ap:F.start j= .C6:=by unfold Fam.start;rw [bA,decide_eq_false (show ¬0<K.2.length by omega)];rfl
   rw [ap];exact JL.skip (JL.out rfl (JO.collected 4 rfl Z rfl fun be=>JO.NK bi rfl rfl (JO.leaveD rfl func127 rfl (.inr rfl) Ks)))
end Pal
namespace Go.Proofs
abbrev Tryz.link:Go.Conc.Lib.WgLink:={add:=126,done:=128,wait:=132,relMerge:=139,disable:=140,enable:=141,inBubble:=142,associate:=143,fatal:=144,uOr:=145,uAdd:=146,raceRead:=147,uLoad:=148,uStore:=149,disassociate:=150,semrelease:=151,acquire:=157,isAssociated:=158,uCas:=159,raceWrite:=160,semacquire:=161,orU64:=170,addU64:=171,loadU64:=172,storeU64:=173,casU64:=177,tWgP:=189,tUP:=191,tAssoc:=192,tWg:=171,tAU:=168,tU64:=90,tUint:=156,tU32:=169,tPU32:=196,tPAU:=221,tPU64:=223,tNoCopy:=164,tANoCopy:=165,tAlign64:=166}
theorem Tryz.Pn:Go.Conc.Lib.WgLib Tryz.prog Tryz.link:=
 ⟨Tryz.func126,Tryz.func128,Tryz.func132,Tryz.func139,Tryz.func140,Tryz.func141,Tryz.func142,Tryz.func143,Tryz.func144,Tryz.func145,Tryz.func146,Tryz.func147,Tryz.func148,Tryz.func149,Tryz.func150,Tryz.func151,Tryz.func157,Tryz.func158,Tryz.func159,Tryz.func160,Tryz.func161,Tryz.func170,Tryz.func171,Tryz.func172,Tryz.func173,Tryz.func177,Tryz.underlying189,Tryz.runUnderlying189,Tryz.sizeOf189,Tryz.isAgg189,Tryz.zeroValue189,Tryz.underlying191,Tryz.runUnderlying191,Tryz.sizeOf191,Tryz.isAgg191,Tryz.zeroValue191,Tryz.underlying192,Tryz.runUnderlying192,Tryz.sizeOf192,Tryz.isAgg192,Tryz.zeroValue192,Tryz.underlying171,Tryz.runUnderlying171,Tryz.sizeOf171,Tryz.isAgg171,Tryz.zeroValue171,Tryz.underlying168,Tryz.runUnderlying168,Tryz.sizeOf168,Tryz.isAgg168,Tryz.zeroValue168,Tryz.underlying90,Tryz.runUnderlying90,Tryz.sizeOf90,Tryz.isAgg90,Tryz.zeroValue90,Tryz.underlying156,Tryz.runUnderlying156,Tryz.sizeOf156,Tryz.isAgg156,Tryz.zeroValue156,Tryz.underlying169,Tryz.runUnderlying169,Tryz.sizeOf169,Tryz.isAgg169,Tryz.zeroValue169,Tryz.underlying196,Tryz.runUnderlying196,Tryz.sizeOf196,Tryz.isAgg196,Tryz.zeroValue196,Tryz.underlying221,Tryz.runUnderlying221,Tryz.sizeOf221,Tryz.isAgg221,Tryz.zeroValue221,Tryz.underlying223,Tryz.runUnderlying223,Tryz.sizeOf223,Tryz.isAgg223,Tryz.zeroValue223,Tryz.underlying0,Tryz.runUnderlying0,Tryz.sizeOf0,Tryz.isAgg0,Tryz.zeroValue0,Tryz.underlying3,Tryz.runUnderlying3,Tryz.sizeOf3,Tryz.isAgg3,Tryz.zeroValue3,Tryz.underlying4,Tryz.runUnderlying4,Tryz.sizeOf4,Tryz.isAgg4,Tryz.zeroValue4,Tryz.underlying9,Tryz.runUnderlying9,Tryz.sizeOf9,Tryz.isAgg9,Tryz.zeroValue9,Tryz.underlying20,Tryz.runUnderlying20,Tryz.sizeOf20,Tryz.isAgg20,Tryz.zeroValue20,Tryz.underlying21,Tryz.runUnderlying21,Tryz.sizeOf21,Tryz.isAgg21,Tryz.zeroValue21,(by decide+kernel),(by decide+kernel)⟩
end Go.Proofs
namespace Pal
open Go Go.Conc Go.Proofs Go.Conc.Lib Go.ConcR.Gen
theorem Wd{F:Fam}(O:F.n<2147483648){E:LH}{kc K:Nat}(U:At E kc K [.chan (some F.ch)]):Way Tryz.prog false (Stop Tryz.prog F .C8) (born Tryz.prog ⟨.fn (.func 131) [.pointer (some F.sA),pV kc K].toArray,#[]⟩) ⟨E,fun _=>none,false⟩:=by
 refine Rr (fn:=Tryz.f131) (vs:= [.pointer (some F.sA),pV kc K]) Tryz.func131 rfl rfl (by simp) (Nat.le_of_ble_eq_true rfl) ?_;obtain⟨H,V⟩:∃H:LH,H=fun _=>none:=⟨_,rfl⟩;rw [← V];refine(?_:JL (BA Tryz.prog false) (Stop Tryz.prog F .C8) (baseD 131) Tryz.f131.ntmps (FM 0 [.pointer (some F.sA),pV kc K]) [] [.code _] [HX Tryz.prog] (Ao E H []));refine zg 2 rfl (JL.wait Tryz.Pn O rfl rfl rfl rfl rfl ?_);refine zg 2 rfl (BH 0 U LS rfl rfl rfl ?_);refine VE rfl rfl rfl rfl rfl rfl rfl (JL.done ?_);exact JL.out rfl (JO.leaveD rfl Tryz.func131 rfl (.inr rfl) Ks)
end Pal
namespace Pal
open Go Go.Conc Go.Proofs
open Go.Proofs.Tryz
open Go.Conc.Lib Go.ConcR.Gen
noncomputable def Jb:Code:=match Tryz.f102.body with | some (.seq _ (.seq _ (.seq _ (.seq (.seq _ (.block _ (.loop c))) _))))=>c | _=> .skip
theorem Ut{F:Fam}(bJ:F.n=13){E:LH}{k1 o2:Nat}{ap av a0:An}{a1 a2 a3:Nat}{a4:List Value}{O:BZ}{lk:AI}(a6:At E k1 o2 (([sV ap O.1 a1,sV av O.2.1 a2]:List Value)++a4))(a7:Am (rL rI) E ap a1 O.1)(a8:Am (rL rI) E av a2 O.2.1)(a9:(rA 13 (rN .u16)).r E a4 O.2.2)(bb:Am Bo E a0 a3 lk){V Y Z ol kc ag:Nat}(bd:At E V Y [pV k1 o2])(be:At E Z ol [.slice a0 lk.length a3])(bi:At E kc ag [.chan (some F.ch)]){fuel:Nat}{qs:Nat→Int×List (Ch)}(bo:∀j,j<13→GF fuel O lk ((j:Nat):Int)=some (qs j))(bv:∀j,j<13→F.has j=decide (0<(qs j).2.length))(bw:∀j,j<13→∀E' a c,Am Dq E' a c (qs j).2→F.msg j (.agg #[iV ((j:Nat):Int),iV (qs j).1,.slice a (qs j).2.length c]) E'){j:Nat}(al:j<13){am H:LH}(hle:Le E am)(bz:Ay am H []){k:List Item}{cs:List Frame}
  (h:∀U,Le E U→Ay U H []→JL (BA Tryz.prog true) (Stop Tryz.prog F (F.DU j)) (base 102) Tryz.f102.ntmps [(2,pV V Y),(3,pV Z ol),(5,pV kc ag),(6,.pointer (some F.sA)),(11,iV ((j+1:Nat):Int))] [] (.inLoop Jb::k) cs (Ao U H [])):
  JL (BA Tryz.prog true) (Stop Tryz.prog F (.Fy j)) (base 102) Tryz.f102.ntmps [(2,pV V Y),(3,pV Z ol),(5,pV kc ag),(6,.pointer (some F.sA)),(11,iV ((j:Nat):Int))] [] (.code Jb:: .inLoop Jb::k) cs (Ao am H []):=by
 refine zg 5 rfl ?_;rw [decide_eq_true (show((j:Nat):Int)<13 by omega)];refine zg 7 rfl (CU bz CK fun bA bB=>?_);refine BY 0 bB AU fun bC=>?_;refine C3 0 bC rfl fun U bD bE bF=>DL (S':= []) (by simp) bF fun bG=>?_;have K:=hle.trans bD;refine zg 3 rfl (VG Tryz.Pn rfl rfl rfl rfl rfl rfl ?_);refine zg 2 rfl (AE (v:= .func (.func 127) #[] ([.pointer (some F.sA),pV V Y,pV Z ol,pV bA 0,pV kc ag]:List Value).toArray) rfl (fun ρ h=>IV (by simp) (by simp [h (.tmp 6) _ rfl,h (.tmp 2) _ rfl,h (.tmp 3) _ rfl,h (.tmp 7) _ rfl,h (.tmp 5) _ rfl])) ?_);have a5:=WI Tryz.Pn rfl (F:=F) (j:=j) (a6.Ah K) (a7.Ah K) (a8.Ah K) (Rp.Ah _ K a9) (bb.Ah K) (bd.Ah K) (be.Ah K) bE (bi.Ah K) (bo j al) (bv j al) (fun E' a c _ bH=>bw j al E' a c bH);refine Zx (fi:= #[]) rfl rfl rfl rfl rfl rfl rfl (by first | exact a5 | (simp only [List.append_toArray,List.nil_append,Array.append_empty,Array.empty_append];exact a5)) ?_
 refine zg 3 rfl ?_;have bI:Au (((j:Nat):Int)+1)=some (((j+1:Nat)):Int):=by unfold Au;rw [if_pos (by omega)];simp
 refine Bc bI rfl rfl rfl (zg 2 rfl ?_);exact Ax (h U K bG) rfl
theorem UT{F:Fam}(V:F.n=13){E:LH}{k1 o2:Nat}{am ap av:An}{a0 a1 a2:Nat}{a3:List Value}{K:BZ}{lk:AI}(a6:At E k1 o2 (([sV am K.1 a0,sV ap K.2.1 a1]:List Value)++a3))(a7:Am (rL rI) E am a0 K.1)(a8:Am (rL rI) E ap a1 K.2.1)(a9:(rA 13 (rN .u16)).r E a3 K.2.2)(bb:Am Bo E av a2 lk){Y Z ag ol kc al:Nat}(bd:At E Y Z [pV k1 o2])(be:At E ag ol [.slice av lk.length a2])(bi:At E kc al [.chan (some F.ch)]){fuel:Nat}{qs:Nat→Int×List (Ch)}(bo:∀j,j<13→GF fuel K lk ((j:Nat):Int)=some (qs j))(bv:∀j,j<13→F.has j=decide (0<(qs j).2.length))(bw:∀j,j<13→∀E' a c,Am Dq E' a c (qs j).2→F.msg j (.agg #[iV ((j:Nat):Int),iV (qs j).1,.slice a (qs j).2.length c]) E'){H:LH}{k:List Item}{cs:List Frame}
  (h:∀O,Le E O→Ay O H []→JL (BA Tryz.prog true) (Stop Tryz.prog F .FO) (base 102) Tryz.f102.ntmps [(2,pV Y Z),(3,pV ag ol),(5,pV kc al),(6,.pointer (some F.sA)),(11,iV 13)] [] (.code Jb:: .inLoop Jb::k) cs (Ao O H [])):
  ∀(m j:Nat),j+m=13→0<m→∀U,Le E U→Ay U H []→JL (BA Tryz.prog true) (Stop Tryz.prog F (.Fy j)) (base 102) Tryz.f102.ntmps [(2,pV Y Z),(3,pV ag ol),(5,pV kc al),(6,.pointer (some F.sA)),(11,iV ((j:Nat):Int))] [] (.code Jb:: .inLoop Jb::k) cs (Ao U H []):=by
 intro m
 induction m with
 | zero=>intro j _ bz;cases bz
 | succ m bA=>
  intro j bD _ U hle bB;refine Ut V a6 a7 a8 a9 bb bd be bi bo bv bw (by omega) hle bB fun O a4 a5=>JL.again ?_;by_cases hm:m=0
  ·subst hm;have bC:j=12:=by omega
   subst bC;have e:F.DU 12= .FO:=by unfold Fam.DU;rw [V];rfl
   rw [e];exact h O a4 a5
  ·have e:F.DU j= .Fy (j+1):=by unfold Fam.DU;rw [V,if_neg (by omega)]
   rw [e];exact bA (j+1) (by omega) (by omega) O a4 a5
end Pal
namespace Pal
open Go Go.Conc Go.Proofs
open Go.Proofs.Tryz
open Go.Conc.Lib Go.ConcR.Gen
noncomputable def Tj:Code:=match Tryz.f102.body with | some (.seq _ (.seq _ (.seq _ (.seq _ (.seq _ (.seq _ (.seq (.seq _ (.block _ (.loop c))) _)))))))=>c | _=> .skip
def partOf(qs:Nat→Int×List (Ch))(k:Nat):(Bu):=(((k:Nat):Int),(qs k).1,(qs k).2)
theorem ZH{K:List Nat}{kk n:Nat}(O:kk<n)(U:kk ∉ K):((List.range n).filter (fun x=> !(K++ [kk]).contains x)).length<((List.range n).filter (fun x=> !K.contains x)).length:=by
 have e:(List.range n).filter (fun x=> !(K++ [kk]).contains x)=((List.range n).filter (fun x=> !K.contains x)).filter (fun x=>x != kk):=by
  rw [List.filter_filter];apply List.filter_congr;intro x _;by_cases V:x∈K <;> by_cases Y:x=kk <;> simp [V,Y]
 rw [e];apply List.length_filter_lt_length_iff_exists.2;exact⟨kk,by simp [O,U],by simp⟩
theorem Vb{F:Fam}(ag:F.n=13){Q:GP}(a6:∀g s,(DZ Tryz.prog).ok Q g s→F.fin g s){qs:Nat→Int×List (Ch)}(a7:∀kk v E',F.msg kk v E'→∃a c,v= .agg #[iV ((kk:Nat):Int),iV (qs kk).1,.slice a (qs kk).2.length c]∧Am Dq E' a c (qs kk).2)
  {E H:LH} {k:List Item} {cs:List Frame}
  (a8:∀(K:List Nat) (V:LH) (a:An) (c:Nat) (g:Seg),Le E V→K.Nodup→(∀x∈K,x<13∧F.has x=true)→(∀x,x<13→F.has x=true→x∈K)→OL 133 Cx V a c g (K.map (partOf qs))→Ay V H [g]→JL (DZ Tryz.prog) Q (base 102) Tryz.f102.ntmps [(8,.slice a (K.map (partOf qs)).length c)] [] k cs (Ao V H [g])):
  ∀(m:Nat) (K:List Nat) (vs:List Value) (U:LH) (a:An) (c:Nat) (g:Seg),((List.range 13).filter (fun x=> !K.contains x)).length=m→K.Nodup→(∀x∈K,x<13∧F.has x=true)→K.length+m≤13→Le E U→OL 133 Cx U a c g (K.map (partOf qs))→Ay U H [g]→
   JL (BA Tryz.prog true) (Stop Tryz.prog F (.Cp K vs)) (base 102) Tryz.f102.ntmps [(8,.slice a (K.map (partOf qs)).length c),(18,.chan (some F.ch))] [] (.code Tj:: .inLoop Tj:: .inBlock 2::k) cs (Ao U H [g]):=by
 intro m
 induction m using Nat.strongRecOn with
 | _ m a9=>
  intro K vs U a c g hm al am hlen hle ap av;refine zg 2 rfl (Ws rfl rfl rfl rfl rfl rfl underlying162 Ie ?_ ?_)
  ·intro kk v E' Y bb a0 a1 bd be;rw [ag] at Y;obtain⟨bI,bJ,rfl,bi⟩:=a7 kk v E' be;have bo:Ay E' H [g]:=av.up bd;refine(?_:JL (BA Tryz.prog true) (Stop Tryz.prog F (.Cp (K++ [kk]) (vs++ [_]))) (base 102) Tryz.f102.ntmps _ [] _ cs (Ao E' H [g]));refine zg 9 rfl (JS.alloc rfl rfl rfl bo Ie fun bK bv=>?_);refine BY 1 bv AS fun bw=>?_;refine C3 1 bw rfl fun bz Z bA bB=>DL (S':= [g]) (by simp) bB fun bC=>zg 3 rfl (BQ bA Ct AS rfl rfl ?_);have bD:(K.map (partOf qs)).length+1≤2 ^ 40:=by rw [List.length_map];omega
   refine Qo (pp:=Cx) (xv:=partOf qs kk) 0 rfl rfl rfl rfl (fun w=>rfl) rfl (fun w=>rfl) rfl rfl rfl underlying130 underlying130 underlying130 AS (CS type133) Ie rfl (by decide) (by decide) (by decide) (by decide) bD (ap.Ah (a1.trans Z)) ⟨_,_,rfl,rfl,⟨_,_,rfl,rfl,⟨_,_,rfl,bi.Ah Z⟩⟩⟩ bC rfl fun w a2 a3 g' a4 bE=>?_;have em:K.map (partOf qs)++ [partOf qs kk]=(K++ [kk]).map (partOf qs):=by simp
   rw [em] at a4;refine Bb (v:= .slice a2 ((K++ [kk]).map (partOf qs)).length a3) rfl rfl rfl (fun ρ h=>by rw [← em];exact Yl.assign (h _ _ rfl)) (zg 2 rfl ?_);refine JL.again ?_;have bF:((List.range 13).filter (fun x=> !(K++ [kk]).contains x)).length<m:=by rw [← hm];exact ZH Y a0
   exact Ax (a9 _ bF (K++ [kk]) (vs++ [_]) bz a2 a3 g' rfl (by rw [List.nodup_append];exact⟨al,by simp,by intro x O y a5;simp at a5;subst a5;intro e;exact a0 (e▸O)⟩) (by intro x O;simp at O;rcases O with O | rfl;exact am x O;exact⟨Y,bb⟩) (by simp only [List.length_append,List.length_cons,List.length_nil];omega) ((hle.trans a1).Ac Z) a4 bE) rfl
  ·intro bG T bH;refine a6 _ _ ?_;refine(?_:JL (DZ Tryz.prog) Q (base 102) Tryz.f102.ntmps _ [] _ cs (Ao U H [g])) T bH;exact zg 5 rfl (Ax (a8 K U a c g hle al am (fun x O hh=>bG x (by rw [ag];exact O) hh) ap av) rfl)
end Pal
namespace Pal
open Go Go.Conc Go.Proofs
open Go.Proofs.Tryz
variable {J:Judge Tryz.prog}{E:LH}
def SN:List Nat:= [0,1,2,2,3,3,3,3,4,4,4,4,4,4,4,4,5,5,5,5,5,5,5,5,5,5,5,5,5,5,5,5,6,6,6,6,6,6,6,6,6,6,6,6,6,6,6,6,6,6,6,6,6,6,6,6,6,6,6,6,6,6,6,6,7,7,7,7,7,7,7,7,7,7,7,7,7,7,7,7,7,7,7,7,7,7,7,7,7,7,7,7,7,7,7,7,7,7,7,7,7,7,7,7,7,7,7,7,7,7,7,7,7,7,7,7,7,7,7,7,7,7,7,7,7,7,7,7,8,8,8,8,8,8,8,8,8,8,8,8,8,8,8,8,8,8,8,8,8,8,8,8,8,8,8,8,8,8,8,8,8,8,8,8,8,8,8,8,8,8,8,8,8,8,8,8,8,8,8,8,8,8,8,8,8,8,8,8,8,8,8,8,8,8,8,8,8,8,8,8,8,8,8,8,8,8,8,8,8,8,8,8,8,8,8,8,8,8,8,8,8,8,8,8,8,8,8,8,8,8,8,8,8,8,8,8,8,8,8,8,8,8,8,8,8,8,8,8,8,8,8,8,8,8,8,8]
def f187(fuel:Nat)(p0:Nat):Option Int:= Option.bind (if(((4294967296):Nat):Int)≤(((p0):Nat):Int) then(some (p0>>>32,32)) else(some (p0,0))) fun K=> Option.bind (if(((65536):Nat):Int)≤(((K.1):Nat):Int) then((Au (K.2+16)).bind fun V=> some (K.1>>>16,V)) else(some K)) fun O=> Option.bind (if(((256):Nat):Int)≤(((O.1):Nat):Int) then((Au (O.2+8)).bind fun Y=> some (O.1>>>8,Y)) else(some O)) fun U=> (LB SN (((((U.1) % 256):Nat):Int))).bind fun Z=> (Au (((Z):Nat):Int)).bind fun ag=> (Au (U.2+ag)).bind fun al=> some al
theorem ZQ{p0:Nat}{fuel:Nat}{r:Int}(V:f187 fuel p0=some r):AM J 187 [.int .u64 ((p0:Nat):Int)] E [] (fun w E' B'=>w=iV r∧B'= []):=by
 refine A4 func187 fun Q bN cs H Y av=>?_;unfold f187 at V;obtain⟨K,a0,a1⟩:=bs V;refine zg 10 rfl (C4 [] [(0,.int .u64 ((K.1:Nat):Int)),(2,iV K.2)] (fun bO a2 Z=>?_) (fun ag=>?_))
 ·obtain⟨O,a3,a4⟩:=bs a1;refine zg 6 rfl (C4 [] [(0,.int .u64 ((O.1:Nat):Int)),(2,iV O.2)] (fun bP a5 al=>?_) (fun am=>?_))
  ·obtain⟨U,a6,a7⟩:=bs a4;refine zg 6 rfl (C4 [] [(0,.int .u64 ((U.1:Nat):Int)),(2,iV U.2)] (fun bQ a8 a9=>?_) (fun ap=>?_))
   ·refine zg 4 rfl (AE (v:= .int .u8 (((U.1) % 256:Nat):Int)) rfl (fun ρ h=>Ya underlying90 underlying5 (h _ _ rfl)) ?_);obtain⟨bb,bd,be⟩:=bs a7;refine AE (v:= .int .u8 ((bb:Nat):Int)) rfl (fun ρ h=>Oq (l:=SN) (by decide+kernel) underlying9 (h _ _ rfl) (h _ _ rfl) bd) ?_;obtain⟨bi,bo,bv⟩:=bs be;refine AE (v:=iV bi) rfl (fun ρ h=>RO underlying5 underlying3 (h _ _ rfl) bo) ?_;obtain⟨bR,bw,bz⟩:=bs bv;refine Bc bw rfl rfl rfl (zg 2 rfl ?_);obtain rfl:=oi bz;exact AA func187 rfl rfl (av ((a2.Ac a5).Ac a8) rfl ⟨rfl,rfl⟩ a9)
   ·refine AL a6 (fun bA bB=>?_) (fun bA bC=>?_)
    ·refine zg 3 rfl (AE (v:= .int .u64 ((O.1>>>8:Nat):Int)) rfl (fun ρ h=>JH 8 (h _ _ rfl) (h _ _ rfl) (by decide)) ?_);obtain⟨bS,bD,bE⟩:=bs bB;refine zg 4 rfl (Bc bD rfl rfl rfl ?_);refine zg 2 rfl ?_;obtain rfl:=oi bE;exact ap Ar al rfl
    ·refine JL.skip ?_;obtain rfl:=oi bC;exact ap Ar al rfl
  ·refine AL a3 (fun bF bG=>?_) (fun bF bH=>?_)
   ·refine zg 3 rfl (AE (v:= .int .u64 ((K.1>>>16:Nat):Int)) rfl (fun ρ h=>JH 16 (h _ _ rfl) (h _ _ rfl) (by decide)) ?_);obtain⟨bT,bI,bJ⟩:=bs bG;refine zg 4 rfl (Bc bI rfl rfl rfl ?_);refine zg 2 rfl ?_;obtain rfl:=oi bJ;exact am Ar Z rfl
   ·refine JL.skip ?_;obtain rfl:=oi bH;exact am Ar Z rfl
 ·refine AL a0 (fun bK bL=>?_) (fun bK bM=>?_)
  ·refine zg 3 rfl (AE (v:= .int .u64 ((p0>>>32:Nat):Int)) rfl (fun ρ h=>JH 32 (h _ _ rfl) (h _ _ rfl) (by decide)) ?_);refine zg 5 rfl ?_;obtain rfl:=oi bL;exact ag Ar Y rfl
  ·refine JL.skip ?_;obtain rfl:=oi bM;exact ag Ar Y rfl
def f163(fuel:Nat)(p0:Nat):Option Int:= (f187 fuel p0).bind fun K=> some K
theorem S1{p0:Nat}{fuel:Nat}{r:Int}(K:f163 fuel p0=some r):AM J 163 [.int .u64 ((p0:Nat):Int)] E [] (fun w E' B'=>w=iV r∧B'= []):=by
 refine A4 func163 fun Q al cs H O U=>?_;unfold f163 at K;obtain⟨am,V,Y⟩:=bs K;refine zg 10 rfl (BF (ZQ V) rfl rfl (AR func187 rfl) O fun ap Z ag=>?_);refine zg 2 rfl ?_;obtain rfl:=oi Y;exact AA func163 rfl rfl (U Z rfl ⟨rfl,rfl⟩ ag)
def f134(fuel:Nat)(p0:Bu)(p1:Bu):Option Int:= (Au (p0.1 - p1.1)).bind fun K=> some K
theorem G4{K:An}{c2:Nat}{O:An}{U:Nat}{p0:Bu}{p1:Bu}(a3:Am Dq E K c2 p0.2.2)(a4:Am Dq E O U p1.2.2){fuel:Nat}{r:Int}(V:f134 fuel p0 p1=some r):AM J 134 [.agg #[iV p0.1,iV p0.2.1,sV K p0.2.2 c2],.agg #[iV p1.1,iV p1.2.1,sV O p1.2.2 U]] E [] (fun w E' B'=>w=iV r∧B'= []):=by
 refine A4 func134 fun Q a5 cs H Z ag=>?_;unfold f134 at V;refine zg 2 rfl (B7 Z fun a6 a7 al am ap=>?_);refine B7 ap fun a8 a9 Y av a0=>?_;refine zg 4 rfl (JL.fl 0 (am.Ah Y) underlying133 AU Bt ?_);refine JL.fl 0 av underlying133 AU Bt ?_;obtain⟨bb,a1,a2⟩:=bs V;refine Cd a1 rfl rfl rfl (zg 2 rfl ?_);obtain rfl:=oi a2;exact AA func134 rfl rfl (ag (al.Ac Y) rfl ⟨rfl,rfl⟩ a0)
def JE(fuel:Nat)(p1:Int)(K:Int×(List Bu)):Option (Bf (Int×(List Bu)) ((List Bu))):= Option.bind (if p1<K.1 then((ix K.2 K.1).bind fun V=> (Au (K.1 - 1)).bind fun Y=> (ix K.2 Y).bind fun Z=> (f134 fuel V Z).bind fun ag=> some (decide (ag<0))) else(some false)) fun al=> if al=true then((Au (K.1 - 1)).bind fun O=> (Au (K.1 - 1)).bind fun am=> (ix K.2 am).bind fun U=> (ix K.2 K.1).bind fun ap=> (ix (K.2.set (Int.toNat K.1) U) O).bind fun a0=> (Au (K.1 - 1)).bind fun av=> some (.more (av,((K.2.set (Int.toNat K.1) U).set (Int.toNat O) ap)))) else(some (.done K.2))
def I2(fuel:Nat)(p1:Int)(p2:Int)(K:Int×(List Bu)):Option (Bf (Int×(List Bu)) ((List Bu))):= if K.1<p2 then(Option.bind (iter (JE fuel p1) fuel K) fun O=> (Au (K.1+1)).bind fun U=> some (.more (U,O))) else(some (.done K.2))
def f178(fuel:Nat)(p0:List Bu)(p1:Int)(p2:Int):Option ((List Bu)):= (Au (p1+1)).bind fun K=> Option.bind (iter (I2 fuel p1 p2) fuel (K,p0)) fun O=> some O
theorem S4{K:Nat}{U:Nat}{V:Nat}{a8:Array Value}{p0:List (Bu)}{p1:Int}{p2:Int}(hW:WL 133 Cx E K U V a8 p0){fuel:Nat}{r:(List Bu)}(bA:f178 fuel p0 p1 p2=some r):AM J 178 [.slice (AY K) V U,iV p1,iV p2,(fV 134)] E [(K,.cells a8 133 (0,0))] (fun w E' B'=>∃(bB:Array Value),w= .tuple #[]∧B'= [(K,.cells bB 133 (0,0))]∧WL 133 Cx E' K U V bB r):=by
 refine A4 func178 fun Q c4 cs H bU bV=>?_;unfold f178 at bA;obtain⟨c5,bW,bY⟩:=bs bA;refine zg 3 rfl (Bc bW rfl rfl rfl ?_);obtain⟨bZ,b0,b1⟩:=bs bY;refine zg 2 rfl (Bp (fun L s=>∃(a9:LH) (f17:Array Value),Jn E H a9 [bX K f17 133] [] L s (WL 133 Cx a9 K U V f17 bZ)) ?_ ?_)
 ·rintro _ _ ⟨a9,f17,rfl,rfl,b2,b3,b4⟩;obtain rfl:=oi b1;exact JL.fin (v:= .tuple #[]) rfl rfl (Cs.list func178 rfl (vs:= []) trivial) (bV b2 rfl ⟨f17,rfl,(by first | rfl | simp | (simp [Value.cells])),b4⟩ b3)
 ·intro b5;refine JL.block (CP b0 (fun L s am=>∃(al:LH) (f25:Array Value),Jn E H al [bX K f25 133] [(0,.slice (AY K) V U),(1,iV p1),(2,iV p2),(3,(fV 134)),(8,iV am.1)] L s (WL 133 Cx al K U V f25 am.2)) ⟨E,a8,rfl,rfl,Ar,bU,hW⟩ ?_);rintro _ _ am ⟨al,f25,rfl,rfl,bC,bD,bE⟩ b6 ⟨c6,bb⟩ b7;have bF:=bb;unfold I2 at bF;refine zg 7 rfl (AL bF (fun b8 b9=>?_) (fun b8 ca=>?_))
  ·obtain⟨bG,cb,cc⟩:=bs b9;refine zg 8 rfl (Bp (fun L s=>∃(a4:LH) (f48:Array Value),Jn al H a4 [bX K f48 133] [(0,.slice (AY K) V U),(1,iV p1),(2,iV p2),(3,(fV 134)),(8,iV am.1)] L s (WL 133 Cx a4 K U V f48 bG)) ?_ ?_)
   ·rintro _ _ ⟨a4,f48,rfl,rfl,cd,ce,cf⟩;obtain⟨cg,ci,ck⟩:=bs cc;refine zg 3 rfl (Bc ci rfl rfl rfl ?_);refine zg 2 rfl ?_;obtain rfl:=oi ck;exact Ax (b7 _ _ (cg,bG) ⟨a4,f48,rfl,rfl,(bC.Ac cd),ce,cf⟩ bb) rfl
   ·intro cm;refine JL.block (CP cb (fun L s ag=>∃(a1:LH) (f58:Array Value),Jn al H a1 [bX K f58 133] [(0,.slice (AY K) V U),(1,iV p1),(2,iV p2),(3,(fV 134)),(8,iV am.1),(9,iV ag.1)] L s (WL 133 Cx a1 K U V f58 ag.2)) ⟨al,f25,rfl,rfl,Ar,bD,bE⟩ ?_);rintro _ _ ag ⟨a1,f58,rfl,rfl,bH,a2,O⟩ cn ⟨c7,bd⟩ co;have bI:=bd;unfold JE at bI;refine zg 2 rfl (Dj 17 [K] ⟨⟨0,_,rfl⟩,trivial⟩ a2 fun ht=>?_);refine A0 ht rfl [0,1,2,3] rfl ?_;obtain⟨cp,bJ,cq⟩:=bs bI;refine Ed 0 #[true,true,true,true,true,true,true,true,true,true,true,true,true,true,true,true,true] (fun L s=>∃(a5:LH),Jm a1 H a5 [bX K f58 133] [(0,.slice (AY K) V U),(1,iV p1),(2,iV p2),(3,(fV 134)),(8,iV am.1),(9,iV ag.1),(34,.bool cp)] L s) ?_ ?_
    ·rintro _ _ ⟨a5,rfl,rfl,ap,a6⟩;refine AX.fin (by decide+kernel) (BJ cq (fun cr ct=>?_) (fun cr cu=>?_))
     ·refine zg 3 rfl (G0 [15,17] [K] mixed rfl ?_);refine Bs 0 rfl rfl (Bs 1 rfl rfl ?_);refine Bs 2 rfl rfl (Bs 3 rfl rfl ?_);obtain⟨bK,cv,cw⟩:=bs ct;refine GG 4 true rfl rfl (fun ρ h s' hs=>Dc (h _ _ rfl) (h _ _ rfl) cv) (Bs 5 rfl rfl ?_);refine Bs 6 rfl rfl ?_;obtain⟨c8,cy,cz⟩:=bs cw;refine GG 7 true rfl rfl (fun ρ h s' hs=>Dc (h _ _ rfl) (h _ _ rfl) cy) ?_;obtain⟨Y,bL,cA⟩:=bs cz;obtain⟨_,⟨_,_,rfl,rfl,⟨_,_,rfl,rfl,⟨be,bi,rfl,cB⟩⟩⟩,cC⟩:=WL.at (O.Ah ap) bL;refine CB 8 O.2 bL underlying130 AS ?_;refine Eg 9 [iV Y.1,iV Y.2.1,sV be Y.2.2 bi] 0 a6 cC Ct AS ?_;refine Bs 10 rfl rfl (Bs 11 rfl rfl ?_);obtain⟨Z,a7,cD⟩:=bs cA;obtain⟨_,⟨_,_,rfl,rfl,⟨_,_,rfl,rfl,⟨bo,bv,rfl,cE⟩⟩⟩,cF⟩:=WL.at (O.Ah ap) a7;refine CB 12 O.2 a7 underlying130 AS ?_;refine Eg 13 [iV Z.1,iV Z.2.1,sV bo Z.2.2 bv] 0 a6 cF Ct AS ?_;refine CB 14 O.2 a7 underlying130 AS ?_;have a3:=WL.put (x':=Y) (ws':= [iV Y.1,iV Y.2.1,sV be Y.2.2 bi]) (O.Ah ap) O.2 a7 ⟨_,_,rfl,rfl,⟨_,_,rfl,rfl,⟨_,_,rfl,cB⟩⟩⟩;refine Eh 15 0 a6 AS a3.2 fun cG=>?_;obtain⟨c9,bw,cH⟩:=bs cD;obtain⟨_,⟨_,_,rfl,rfl,⟨_,_,rfl,rfl,⟨da,db,rfl,dc⟩⟩⟩,dd⟩:=WL.at a3.1 bw;refine CB 16 (a3.1).2 bw underlying130 AS ?_;have bM:=WL.put (x':=Z) (ws':= [iV Z.1,iV Z.2.1,sV bo Z.2.2 bv]) a3.1 (a3.1).2 bw ⟨_,_,rfl,rfl,⟨_,_,rfl,rfl,⟨_,_,rfl,cE⟩⟩⟩;refine Eh 17 0 cG AS bM.2 fun cI=>?_;refine JB.fin (by decide+kernel) ?_;obtain⟨cJ,cK,cM⟩:=bs cH;refine zg 3 rfl (Cd cK rfl rfl rfl ?_);refine zg 2 rfl ?_;obtain rfl:=oi cM;exact Ax (co _ _ (cJ,((ag.2.set (Int.toNat ag.1) Y).set (Int.toNat bK) Z)) ⟨a5,(A1 (A1 f58 (Int.toNat (ag.1)*3) [iV Y.1,iV Y.2.1,sV be Y.2.2 bi]) (Int.toNat (bK)*3) [iV Z.1,iV Z.2.1,sV bo Z.2.2 bv]),rfl,rfl,(bH.Ac ap),cI,bM.1⟩ bd) rfl
     ·refine JL.exit rfl ?_;obtain rfl:=oi cu;obtain rfl:=cn _ bd;exact Ax (cm _ _ ⟨a5,f58,rfl,rfl,(bH.Ac ap),a6,(O.Ah ap)⟩) rfl
    ·intro bN;refine Ft (q:=p1<ag.1) (i:=21) rfl (fun bz=>?_) (fun bz=>?_)
     ·have cN:=ip bJ bz;refine A0 ht rfl [4,5,6] rfl ?_;obtain⟨av,bO,cO⟩:=bs cN;obtain⟨_,⟨_,_,rfl,rfl,⟨_,_,rfl,rfl,⟨bP,bQ,rfl,cP⟩⟩⟩,cQ⟩:=WL.at O bO;refine F3 7 ht (O).2 bO underlying130 AS ?_;refine D4 8 ht [iV av.1,iV av.2.1,sV bP av.2.2 bQ] 0 a2 cQ Ct AS ?_;refine A0 ht rfl [9,10] rfl ?_;obtain⟨de,cR,cT⟩:=bs cO;refine BC 11 ht rfl rfl (fun ρ h s' hs=>Dc (h _ _ rfl) (h _ _ rfl) cR) ?_;obtain⟨a0,bR,cV⟩:=bs cT;obtain⟨_,⟨_,_,rfl,rfl,⟨_,_,rfl,rfl,⟨bS,bT,rfl,cW⟩⟩⟩,cX⟩:=WL.at O bR;refine F3 12 ht (O).2 bR underlying130 AS ?_;refine D4 13 ht [iV a0.1,iV a0.2.1,sV bS a0.2.2 bT] 0 a2 cX Ct AS ?_;obtain⟨df,cY,cZ⟩:=bs cV;refine HP (i:=14) ⟨⟨0,_,rfl⟩,trivial⟩ (vs:= [.agg #[iV av.1,iV av.2.1,sV bP av.2.2 bQ],.agg #[iV a0.1,iV a0.2.1,sV bS a0.2.2 bT]]) (G4 cP cW cY) (by decide+kernel) rfl rfl rfl rfl GU rfl a2 ?_;rintro _ c0 _ c1 ⟨rfl,rfl⟩ c2;refine A0 ht rfl [15,16] rfl ?_;obtain rfl:=oi cZ;refine CE ?_ (bN _ _ ⟨c0,rfl,rfl,c1,c2⟩);exact⟨rfl,rfl,rfl,rfl,rfl,rfl,rfl,trivial⟩
     ·have c3:=im bJ bz;refine A0 ht rfl [4,5,6,7,8,9,10,11,12,13,14,15,16] rfl ?_;obtain rfl:=oi c3;refine CE ?_ (bN _ _ ⟨a1,rfl,rfl,Ar,a2⟩);exact⟨rfl,rfl,rfl,rfl,rfl,rfl,rfl,trivial⟩
  ·refine JL.exit rfl ?_;obtain rfl:=oi ca;obtain rfl:=b6 _ bb;exact Ax (b5 _ _ ⟨al,f25,rfl,rfl,bC,bD,bE⟩) rfl
def f200(fuel:Nat)(p0:List Bu)(p1:Int)(p2:Int)(p3:Int):Option (Int×Int×Int):= (ix p0 p2).bind fun K=> (ix p0 p1).bind fun O=> (f134 fuel K O).bind fun U=> if U<0 then((Au (p3+1)).bind fun V=> some (p2,p1,V)) else(some (p1,p2,p3))
theorem Pd{K:Nat}{ag:Nat}{al:Nat}{Y:Array Value}{bk:Nat}{p0:List (Bu)}{p1:Int}{p2:Int}{p3:Int}(hW:WL 133 Cx E K ag al Y p0){fuel:Nat}{r:Int×Int×Int}(am:f200 fuel p0 p1 p2 p3=some r):AM J 200 [.slice (AY K) al ag,iV p1,iV p2,pV bk 0,(fV 134)] E ([(bk,.cells #[iV p3] 3 (0,0))]++ [(K,.cells Y 133 (0,0))]) (fun w E' B'=>w= .tuple #[iV r.1,iV r.2.1]∧B'= [(bk,.cells #[iV r.2.2] 3 (0,0))]++ [(K,.cells Y 133 (0,0))]):=by
 refine A4 func200 fun Q bB cs H O ap=>?_;unfold f200 at am;refine DL (S':= [[(bk,.cells #[iV p3] 3 (0,0))],[(K,.cells Y 133 (0,0))]]) (by simp) O fun O=>zg 7 rfl (Dj 9 [K] ⟨⟨1,_,rfl⟩,trivial⟩ O fun ht=>?_);refine A0 ht rfl [0,1,2] rfl ?_;obtain⟨U,av,a5⟩:=bs am;obtain⟨_,⟨_,_,rfl,rfl,⟨_,_,rfl,rfl,⟨a0,c4,rfl,a6⟩⟩⟩,a7⟩:=WL.at hW av;refine F3 3 ht (hW).2 av underlying130 AS ?_;refine D4 4 ht [iV U.1,iV U.2.1,sV a0 U.2.2 c4] 1 O a7 Ct AS ?_;refine A0 ht rfl [5,6] rfl ?_;obtain⟨V,a1,a8⟩:=bs a5;obtain⟨_,⟨_,_,rfl,rfl,⟨_,_,rfl,rfl,⟨a2,a3,rfl,a9⟩⟩⟩,bb⟩:=WL.at hW a1;refine F3 7 ht (hW).2 a1 underlying130 AS ?_;refine D4 8 ht [iV V.1,iV V.2.1,sV a2 V.2.2 a3] 1 O bb Ct AS ?_;refine Co [9,10] ?_;obtain⟨bC,bd,be⟩:=bs a8;refine KD (vs:= [.agg #[iV U.1,iV U.2.1,sV a0 U.2.2 c4],.agg #[iV V.1,iV V.2.1,sV a2 V.2.2 a3]]) (G4 a6 a9 bd) rfl rfl rfl rfl GU rfl O ?_;rintro _ bD _ a4 ⟨rfl,rfl⟩ Z;refine zg 2 rfl (AL be (fun bi bo=>?_) (fun bi bv=>?_))
 ·refine zg 4 rfl (AE (v:=iV p3) rfl (fun ρ h=>Yl.load Bt (h _ _ rfl) (DX (j:=0) (off:=0) Z rfl rfl)) ?_);obtain⟨bE,bw,bz⟩:=bs bo;refine Bc bw rfl rfl rfl (zg 1 rfl ?_);refine BY 0 Z AU fun bA=>?_;refine zg 8 rfl ?_;obtain rfl:=oi bz;exact AA func200 rfl rfl (ap a4 rfl ⟨rfl,(by first | rfl | simp | (simp [Value.cells]))⟩ bA)
 ·refine zg 8 rfl ?_;obtain rfl:=oi bv;exact AA func200 rfl rfl (ap a4 rfl ⟨rfl,(by first | rfl | simp | (simp [Value.cells]))⟩ Z)
def f197(fuel:Nat)(p0:List Bu)(p1:Int)(p2:Int)(p3:Int)(p4:Int):Option (Int×Int):= (f200 fuel p0 p1 p2 p4).bind fun K=> (f200 fuel p0 K.2.1 p3 K.2.2).bind fun O=> (f200 fuel p0 K.1 O.1 O.2.2).bind fun U=> some U.2
theorem YW{K:Nat}{Y:Nat}{Z:Nat}{O:Array Value}{bk:Nat}{p0:List (Bu)}{p1:Int}{p2:Int}{p3:Int}{p4:Int}(hW:WL 133 Cx E K Y Z O p0){fuel:Nat}{r:Int×Int}(ag:f197 fuel p0 p1 p2 p3 p4=some r):AM J 197 [.slice (AY K) Z Y,iV p1,iV p2,iV p3,pV bk 0,(fV 134)] E ([(bk,.cells #[iV p4] 3 (0,0))]++ [(K,.cells O 133 (0,0))]) (fun w E' B'=>w=iV r.1∧B'= [(bk,.cells #[iV r.2] 3 (0,0))]++ [(K,.cells O 133 (0,0))]):=by
 refine A4 func197 fun Q bD cs H U ap=>?_;unfold f197 at ag;refine DL (S':= [[(bk,.cells #[iV p4] 3 (0,0))],[(K,.cells O 133 (0,0))]]) (by simp) U fun U=>?_;obtain⟨av,a0,a1⟩:=bs ag;refine zg 11 rfl (Ky 0 1 rfl rfl U fun a2=>?_);refine B9 0 (Pd hW a0) rfl rfl N6 a2 rfl ?_;rintro _ bE _ V ⟨rfl,rfl⟩ a3;refine ES 0 rfl a3 fun a4=>Cu (S':= [[(bk,.cells #[iV av.2.2] 3 (0,0))],[],[(K,.cells O 133 (0,0))]]) rfl a4 fun a5=>?_;obtain⟨a6,a7,a8⟩:=bs a1;refine zg 13 rfl (Ky 0 2 rfl rfl a5 fun a9=>?_);refine B9 0 (Pd (hW.Ah V) a7) rfl rfl N6 a9 rfl ?_;rintro _ bF _ al ⟨rfl,rfl⟩ bb;refine ES 0 rfl bb fun bd=>Cu (S':= [[(bk,.cells #[iV a6.2.2] 3 (0,0))],[],[],[(K,.cells O 133 (0,0))]]) rfl bd fun be=>?_;obtain⟨am,bi,bo⟩:=bs a8;refine zg 13 rfl (Ky 0 3 rfl rfl be fun bv=>?_);refine B9 0 (Pd (hW.Ah (V.Ac al)) bi) rfl rfl N6 bv rfl ?_;rintro _ bG _ bw ⟨rfl,rfl⟩ bz;refine ES 0 rfl bz fun bA=>Cu (S':= [[(bk,.cells #[iV am.2.2] 3 (0,0))],[],[],[],[(K,.cells O 133 (0,0))]]) rfl bA fun bB=>zg 11 rfl (Cu (S':= [[(bk,.cells #[iV am.2.2] 3 (0,0))],[],[],[],[(K,.cells O 133 (0,0))]]) rfl bB fun bC=>?_);obtain rfl:=oi bo;exact AA func197 rfl rfl (ap ((V.Ac al).Ac bw) rfl ⟨rfl,(by first | rfl | simp | (simp [Value.cells]))⟩ bC)
def f181(fuel:Nat)(p0:List Bu)(p1:Int)(p2:Int):Option (Int×Int):= (Au (p2 - p1)).bind fun K=> (HB K (4)).bind fun V=> (Au (V*1)).bind fun Y=> (Au (p1+Y)).bind fun Z=> (HB K (4)).bind fun ag=> (Au (ag*2)).bind fun al=> (Au (p1+al)).bind fun U=> (HB K (4)).bind fun am=> (Au (am*3)).bind fun ap=> (Au (p1+ap)).bind fun av=> Option.bind (if 8≤K then(Option.bind (if 50≤K then(none) else(some ())) fun a1=> (f197 fuel p0 Z U av 0).bind fun a0=> some a0) else(some (U,0))) fun O=> if O.2=0 then(some (O.1,1)) else(if O.2=12 then(some (O.1,2)) else(some (O.1,0)))
theorem SB{K:Nat}{Y:Nat}{Z:Nat}{O:Array Value}{p0:List (Bu)}{p1:Int}{p2:Int}(hW:WL 133 Cx E K Y Z O p0){fuel:Nat}{r:Int×Int}(ap:f181 fuel p0 p1 p2=some r):AM J 181 [.slice (AY K) Z Y,iV p1,iV p2,(fV 134)] E [(K,.cells O 133 (0,0))] (fun w E' B'=>w= .tuple #[iV r.1,iV r.2]∧B'= [(K,.cells O 133 (0,0))]):=by
 refine A4 func181 fun Q cg cs H a2 ag=>?_;unfold f181 at ap;obtain⟨ci,a3,a4⟩:=bs ap;refine zg 9 rfl (Cd a3 rfl rfl rfl ?_);refine zg 4 rfl (CU a2 CK fun U av=>?_);obtain⟨a5,a6,a7⟩:=bs a4;refine zg 5 rfl (AE (v:=iV a5) rfl (fun ρ h=>K0 (h _ _ rfl) (h _ _ rfl) a6) ?_);obtain⟨ck,a8,a9⟩:=bs a7;refine AE rfl (fun ρ h=>KT (h _ _ rfl) (h _ _ rfl) a8) ?_;obtain⟨bb,bd,be⟩:=bs a9;refine Bc bd rfl rfl rfl ?_;obtain⟨bi,bo,bv⟩:=bs be;refine zg 6 rfl (AE (v:=iV bi) rfl (fun ρ h=>K0 (h _ _ rfl) (h _ _ rfl) bo) ?_);obtain⟨cm,bw,bz⟩:=bs bv;refine AE rfl (fun ρ h=>KT (h _ _ rfl) (h _ _ rfl) bw) ?_;obtain⟨bA,bB,bC⟩:=bs bz;refine Bc bB rfl rfl rfl ?_;obtain⟨bD,bE,bF⟩:=bs bC;refine zg 6 rfl (AE (v:=iV bD) rfl (fun ρ h=>K0 (h _ _ rfl) (h _ _ rfl) bE) ?_);obtain⟨cn,bG,bH⟩:=bs bF;refine AE rfl (fun ρ h=>KT (h _ _ rfl) (h _ _ rfl) bG) ?_;obtain⟨bI,bJ,bK⟩:=bs bH;refine Bc bJ rfl rfl rfl ?_;obtain⟨al,bL,bM⟩:=bs bK;refine zg 8 rfl (C4 [bX K O 133,bX U #[iV al.2] 3] [(11,pV U 0),(13,iV al.1)] (fun co am V=>?_) (fun a0=>?_))
 ·refine zg 2 rfl (AE (v:=iV al.2) rfl (fun ρ h=>Yl.load Bt (h _ _ rfl) (DX (j:=1) (off:=0) V rfl rfl)) ?_);refine zg 7 rfl (AL bM (fun bN bO=>?_) (fun bN bP=>?_))
  ·refine zg 6 rfl (JS.drop 1 V rfl fun bQ=>?_);obtain rfl:=oi bO;exact AA func181 rfl rfl (ag am rfl ⟨rfl,(by first | rfl | simp | (simp [Value.cells]))⟩ bQ)
  ·refine zg 5 rfl (AL bP (fun bR bS=>?_) (fun bR bT=>?_))
   ·refine zg 6 rfl (JS.drop 1 V rfl fun bU=>?_);obtain rfl:=oi bS;exact AA func181 rfl rfl (ag am rfl ⟨rfl,(by first | rfl | simp | (simp [Value.cells]))⟩ bU)
   ·refine zg 6 rfl (JS.drop 1 V rfl fun bV=>?_);obtain rfl:=oi bT;exact AA func181 rfl rfl (ag am rfl ⟨rfl,(by first | rfl | simp | (simp [Value.cells]))⟩ bV)
 ·refine AL bL (fun bW bY=>?_) (fun bW bZ=>?_)
  ·obtain⟨cp,b0,b1⟩:=bs bY;refine zg 6 rfl (C4 [bX K O 133,bX U #[iV 0] 3] [(0,.slice (AY K) Z Y),(3,(fV 134)),(8,iV 0),(9,iV 0),(11,pV U 0),(12,iV bb),(13,iV bA),(14,iV bI)] (fun cq a1 b2=>?_) (fun b3=>?_))
   ·obtain⟨b4,b5,b6⟩:=bs b1;refine zg 6 rfl (Ky 1 0 rfl rfl b2 fun b7=>?_);refine B9 1 (YW (hW.Ah a1) b5) rfl rfl (AR func197 rfl) b7 rfl ?_;rintro _ cr _ b8 ⟨rfl,rfl⟩ b9;refine ES 1 rfl b9 fun ca=>Cu (S':= [[],[(U,.cells #[iV b4.2] 3 (0,0))],[(K,.cells O 133 (0,0))]]) rfl ca fun cb=>zg 2 rfl (JS.swap 1 2 rfl rfl rfl cb fun cc=>?_);obtain rfl:=oi b6;exact a0 (a1.Ac b8) cc rfl
   ·refine AL b0 (fun cd ce=>?_) (fun cd cf=>?_)
    ·refine zg 5 rfl ?_;cases ce
    ·refine JL.skip ?_;obtain rfl:=oi cf;exact b3 Ar av rfl
  ·refine JL.skip ?_;obtain rfl:=oi bZ;exact a0 Ar av rfl
end Pal
namespace Pal
open Go Go.Conc Go.Proofs
open Go.Proofs.Tryz
variable {J:Judge Tryz.prog}{E:LH}
def HR(fuel:Nat)(K:Int×Int×(List Bu)):Option (Bf (Int×Int×(List Bu)) ((List Bu))):= if K.1<K.2.1 then((ix K.2.2 K.2.1).bind fun O=> (ix K.2.2 K.1).bind fun U=> (Au (K.1+1)).bind fun V=> (Au (K.2.1 - 1)).bind fun Y=> some (.more (V,Y,((K.2.2.set (Int.toNat K.1) O).set (Int.toNat K.2.1) U)))) else(some (.done K.2.2))
def f182(fuel:Nat)(p0:List Bu)(p1:Int)(p2:Int):Option ((List Bu)):= (Au (p2 - 1)).bind fun K=> Option.bind (iter (HR fuel) fuel (p1,K,p0)) fun O=> some O
theorem SZ{K:Nat}{Z:Nat}{ag:Nat}{a0:Array Value}{p0:List (Bu)}{p1:Int}{p2:Int}(hW:WL 133 Cx E K Z ag a0 p0){fuel:Nat}{r:(List Bu)}(a7:f182 fuel p0 p1 p2=some r):AM J 182 [.slice (AY K) ag Z,iV p1,iV p2,(fV 134)] E [(K,.cells a0 133 (0,0))] (fun w E' B'=>∃(a8:Array Value),w= .tuple #[]∧B'= [(K,.cells a8 133 (0,0))]∧WL 133 Cx E' K Z ag a8 r):=by
 refine A4 func182 fun Q b0 cs H bi bo=>?_;unfold f182 at a7;obtain⟨b1,bv,bw⟩:=bs a7;refine zg 8 rfl (Cd bv rfl rfl rfl ?_);obtain⟨bz,bA,bB⟩:=bs bw;refine zg 2 rfl (Bp (fun L s=>∃(a1:LH) (f17:Array Value),Jn E H a1 [bX K f17 133] [] L s (WL 133 Cx a1 K Z ag f17 bz)) ?_ ?_)
 ·rintro _ _ ⟨a1,f17,rfl,rfl,bC,bD,bE⟩;obtain rfl:=oi bB;exact JL.fin (v:= .tuple #[]) rfl rfl (Cs.list func182 rfl (vs:= []) trivial) (bo bC rfl ⟨f17,rfl,(by first | rfl | simp | (simp [Value.cells])),bE⟩ bD)
 ·intro bF;refine JL.block (CP bA (fun L s Y=>∃(al:LH) (f25:Array Value),Jn E H al [bX K f25 133] [(0,.slice (AY K) ag Z),(8,iV Y.1),(9,iV Y.2.1)] L s (WL 133 Cx al K Z ag f25 Y.2.2)) ⟨E,a0,rfl,rfl,Ar,bi,hW⟩ ?_);rintro _ _ Y ⟨al,f25,rfl,rfl,a9,am,V⟩ bG ⟨b2,a2⟩ bH;have bb:=a2;unfold HR at bb;refine zg 7 rfl (AL bb (fun bI bJ=>?_) (fun bI bK=>?_))
  ·refine zg 3 rfl (G0 [13,15] [K] mixed rfl ?_);refine Bs 0 rfl rfl (Bs 1 rfl rfl ?_);refine Bs 2 rfl rfl (Bs 3 rfl rfl ?_);refine Bs 4 rfl rfl (Bs 5 rfl rfl ?_);obtain⟨O,ap,bL⟩:=bs bJ;obtain⟨_,⟨_,_,rfl,rfl,⟨_,_,rfl,rfl,⟨a3,a4,rfl,bM⟩⟩⟩,bN⟩:=WL.at V ap;refine CB 6 V.2 ap underlying130 AS ?_;refine Eg 7 [iV O.1,iV O.2.1,sV a3 O.2.2 a4] 0 am bN Ct AS ?_;refine Bs 8 rfl rfl (Bs 9 rfl rfl ?_);obtain⟨U,av,bO⟩:=bs bL;obtain⟨_,⟨_,_,rfl,rfl,⟨_,_,rfl,rfl,⟨a5,a6,rfl,bP⟩⟩⟩,bQ⟩:=WL.at V av;refine CB 10 V.2 av underlying130 AS ?_;refine Eg 11 [iV U.1,iV U.2.1,sV a5 U.2.2 a6] 0 am bQ Ct AS ?_;refine CB 12 V.2 av underlying130 AS ?_;have bd:=WL.put (x':=O) (ws':= [iV O.1,iV O.2.1,sV a3 O.2.2 a4]) V V.2 av ⟨_,_,rfl,rfl,⟨_,_,rfl,rfl,⟨_,_,rfl,bM⟩⟩⟩;refine Eh 13 0 am AS bd.2 fun bR=>?_;refine CB 14 V.2 ap underlying130 AS ?_;have be:=WL.put (x':=U) (ws':= [iV U.1,iV U.2.1,sV a5 U.2.2 a6]) bd.1 V.2 ap ⟨_,_,rfl,rfl,⟨_,_,rfl,rfl,⟨_,_,rfl,bP⟩⟩⟩;refine Eh 15 0 bR AS be.2 fun bS=>?_;refine JB.fin (by decide+kernel) ?_;obtain⟨bT,bU,bV⟩:=bs bO;refine zg 3 rfl (Bc bU rfl rfl rfl ?_);obtain⟨bW,bY,bZ⟩:=bs bV;refine zg 4 rfl (Cd bY rfl rfl rfl ?_);refine zg 3 rfl ?_;obtain rfl:=oi bZ;exact Ax (bH _ _ (bT,bW,((Y.2.2.set (Int.toNat Y.1) O).set (Int.toNat Y.2.1) U)) ⟨al,(A1 (A1 f25 (Int.toNat (Y.1)*3) [iV O.1,iV O.2.1,sV a3 O.2.2 a4]) (Int.toNat (Y.2.1)*3) [iV U.1,iV U.2.1,sV a5 U.2.2 a6]),rfl,rfl,a9,bS,be.1⟩ a2) rfl
  ·refine JL.exit rfl ?_;obtain rfl:=oi bK;obtain rfl:=bG _ a2;exact Ax (bF _ _ ⟨al,f25,rfl,rfl,a9,am,V⟩) rfl
def I5(fuel:Nat)(p2:Int)(O:Int×Int×(List Bu))(K:Int):Option (Bf Int Int):= Option.bind (if K<p2 then((ix O.2.2 K).bind fun U=> (Au (K - 1)).bind fun V=> (ix O.2.2 V).bind fun Y=> (f134 fuel U Y).bind fun Z=> some (decide (¬(Z<0)))) else(some false)) fun ag=> if ag=true then((Au (K+1)).bind fun al=> some (.more al)) else(some (.done K))
def Sc(fuel:Nat)(K:Int×(List Bu)):Option (Bf (Int×(List Bu)) ((List Bu))):= if 1≤K.1 then((ix K.2 K.1).bind fun O=> (Au (K.1 - 1)).bind fun Y=> (ix K.2 Y).bind fun Z=> (f134 fuel O Z).bind fun ag=> if ¬(ag<0) then(some (.done K.2)) else((Au (K.1 - 1)).bind fun U=> (Au (K.1 - 1)).bind fun al=> (ix K.2 al).bind fun V=> (ix (K.2.set (Int.toNat K.1) V) U).bind fun ap=> (Au (K.1 - 1)).bind fun am=> some (.more (am,((K.2.set (Int.toNat K.1) V).set (Int.toNat U) O))))) else(some (.done K.2))
def Sa(fuel:Nat)(p2:Int)(K:Int×(List Bu)):Option (Bf (Int×(List Bu)) ((List Bu))):= if K.1<p2 then((ix K.2 K.1).bind fun O=> (Au (K.1 - 1)).bind fun Y=> (ix K.2 Y).bind fun Z=> (f134 fuel O Z).bind fun ag=> if ¬(ag<0) then(some (.done K.2)) else((Au (K.1 - 1)).bind fun U=> (Au (K.1 - 1)).bind fun al=> (ix K.2 al).bind fun V=> (ix (K.2.set (Int.toNat K.1) V) U).bind fun ap=> (Au (K.1+1)).bind fun am=> some (.more (am,((K.2.set (Int.toNat K.1) V).set (Int.toNat U) O))))) else(some (.done K.2))
def MM(fuel:Nat)(p1:Int)(p2:Int)(K:Int×Int×(List Bu)):Option (Bf (Int×Int×(List Bu)) ((Bool×(List Bu))⊕((List Bu)))):= if K.2.1<5 then(Option.bind (iter (I5 fuel p2 K) fuel K.1) fun O=> if O=p2 then(some (.done (Sum.inl (true,K.2.2)))) else((Au (p2 - p1)).bind fun ag=> if ag<50 then(some (.done (Sum.inl (false,K.2.2)))) else((Au (O - 1)).bind fun U=> (Au (O - 1)).bind fun al=> (ix K.2.2 al).bind fun V=> (ix K.2.2 O).bind fun Y=> (ix (K.2.2.set (Int.toNat O) V) U).bind fun a5=> (Au (O - p1)).bind fun am=> Option.bind (if 2≤am then((Au (O - 1)).bind fun ap=> Option.bind (iter (Sc fuel) fuel (ap,((K.2.2.set (Int.toNat O) V).set (Int.toNat U) Y))) fun av=> some av) else(some ((K.2.2.set (Int.toNat O) V).set (Int.toNat U) Y))) fun Z=> (Au (p2 - O)).bind fun a0=> Option.bind (if 2≤a0 then((Au (O+1)).bind fun a1=> Option.bind (iter (Sa fuel p2) fuel (a1,Z)) fun a2=> some a2) else(some Z)) fun a3=> (Au (K.2.1+1)).bind fun a4=> some (.more (O,a4,a3))))) else(some (.done (Sum.inr K.2.2)))
def f183(fuel:Nat)(p0:List Bu)(p1:Int)(p2:Int):Option (Bool×(List Bu)):= (Au (p1+1)).bind fun K=> Option.bind (iter (MM fuel p1 p2) fuel (K,0,p0)) fun O=> Sum.elim (fun r=>some r) (fun U=> some (false,U)) O
theorem S3{K:Nat}{O:Nat}{U:Nat}{b3:Array Value}{p0:List (Bu)}{p1:Int}{p2:Int}(hW:WL 133 Cx E K O U b3 p0){fuel:Nat}{r:Bool×(List Bu)}(co:f183 fuel p0 p1 p2=some r):AM J 183 [.slice (AY K) U O,iV p1,iV p2,(fV 134)] E [(K,.cells b3 133 (0,0))] (fun w E' B'=>∃(cp:Array Value),w= .bool r.1∧B'= [(K,.cells cp 133 (0,0))]∧WL 133 Cx E' K O U cp r.2):=by
 refine A4 func183 fun Q gm cs H dh b4=>?_;unfold f183 at co;obtain⟨gn,di,dj⟩:=bs co;refine zg 7 rfl (Bc di rfl rfl rfl ?_);obtain⟨cq,dk,b5⟩:=bs dj;refine zg 7 rfl (Bp (fun L s=>∃(b6:(List Bu)) (b7:LH) (f18:Array Value),cq=Sum.inr b6∧Jn E H b7 [bX K f18 133] [] L s (WL 133 Cx b7 K O U f18 b6)) ?_ ?_)
 ·rintro _ _ ⟨b6,b7,f18,rfl,rfl,rfl,dl,dm,dn⟩;have dp:=elim_inr b5;refine zg 4 rfl ?_;obtain rfl:=oi dp;exact AA func183 rfl rfl (b4 dl rfl ⟨f18,rfl,(by first | rfl | simp | (simp [Value.cells])),dn⟩ dm)
 ·intro dq;refine JL.block (CP dk (fun L s Z=>∃(bM:LH) (f27:Array Value),Jn E H bM [bX K f27 133] [(0,.slice (AY K) U O),(1,iV p1),(2,iV p2),(3,(fV 134)),(9,iV Z.1),(10,iV Z.2.1)] L s (WL 133 Cx bM K O U f27 Z.2.2)) ⟨E,b3,rfl,rfl,Ar,dh,hW⟩ ?_);rintro _ _ Z ⟨bM,f27,rfl,rfl,bN,cr,ag⟩ b8 ⟨gp,bo⟩ dr;have ct:=bo;unfold MM at ct;refine zg 6 rfl (AL ct (fun dt du=>?_) (fun dt dv=>?_))
  ·obtain⟨a2,dw,dx⟩:=bs du;refine zg 4 rfl (C4 [bX K f27 133] [(0,.slice (AY K) U O),(1,iV p1),(2,iV p2),(3,(fV 134)),(9,iV a2),(10,iV Z.2.1)] (fun bv a3 bw=>?_) (fun dy=>?_))
   ·refine zg 7 rfl (AL dx (fun dz dA=>?_) (fun dz dB=>?_))
    ·refine zg 4 rfl ?_;obtain rfl:=oi dA;obtain rfl:=b8 _ bo;have dC:=elim_inl b5;obtain rfl:=oi dC;exact AA func183 rfl rfl (b4 (bN.Ac a3) rfl ⟨f27,rfl,(by first | rfl | simp | (simp [Value.cells])),(ag.Ah a3)⟩ bw)
    ·obtain⟨gq,dD,dE⟩:=bs dB;refine zg 6 rfl (Cd dD rfl rfl rfl ?_);refine zg 2 rfl (AL dE (fun dF dG=>?_) (fun dF dH=>?_))
     ·refine zg 4 rfl ?_;obtain rfl:=oi dG;obtain rfl:=b8 _ bo;have dI:=elim_inl b5;obtain rfl:=oi dI;exact AA func183 rfl rfl (b4 (bN.Ac a3) rfl ⟨f27,rfl,(by first | rfl | simp | (simp [Value.cells])),(ag.Ah a3)⟩ bw)
     ·refine zg 2 rfl (G0 [15,17] [K] mixed rfl ?_);refine Bs 0 rfl rfl (Bs 1 rfl rfl ?_);refine Bs 2 rfl rfl (Bs 3 rfl rfl ?_);obtain⟨cu,dJ,dK⟩:=bs dH;refine GG 4 true rfl rfl (fun ρ h s' hs=>Dc (h _ _ rfl) (h _ _ rfl) dJ) (Bs 5 rfl rfl ?_);refine Bs 6 rfl rfl ?_;obtain⟨gr,dL,dM⟩:=bs dK;refine GG 7 true rfl rfl (fun ρ h s' hs=>Dc (h _ _ rfl) (h _ _ rfl) dL) ?_;obtain⟨al,cv,dN⟩:=bs dM;obtain⟨_,⟨_,_,rfl,rfl,⟨_,_,rfl,rfl,⟨bO,bP,rfl,dO⟩⟩⟩,dP⟩:=WL.at (ag.Ah a3) cv;refine CB 8 ag.2 cv underlying130 AS ?_;refine Eg 9 [iV al.1,iV al.2.1,sV bO al.2.2 bP] 0 bw dP Ct AS ?_;refine Bs 10 rfl rfl (Bs 11 rfl rfl ?_);obtain⟨am,bQ,dQ⟩:=bs dN;obtain⟨_,⟨_,_,rfl,rfl,⟨_,_,rfl,rfl,⟨bR,bS,rfl,dR⟩⟩⟩,dS⟩:=WL.at (ag.Ah a3) bQ;refine CB 12 ag.2 bQ underlying130 AS ?_;refine Eg 13 [iV am.1,iV am.2.1,sV bR am.2.2 bS] 0 bw dS Ct AS ?_;refine CB 14 ag.2 bQ underlying130 AS ?_;have bz:=WL.put (x':=al) (ws':= [iV al.1,iV al.2.1,sV bO al.2.2 bP]) (ag.Ah a3) ag.2 bQ ⟨_,_,rfl,rfl,⟨_,_,rfl,rfl,⟨_,_,rfl,dO⟩⟩⟩;refine Eh 15 0 bw AS bz.2 fun dT=>?_;obtain⟨gt,b9,dU⟩:=bs dQ;obtain⟨_,⟨_,_,rfl,rfl,⟨_,_,rfl,rfl,⟨gu,gv,rfl,gw⟩⟩⟩,gx⟩:=WL.at bz.1 b9;refine CB 16 (bz.1).2 b9 underlying130 AS ?_;have ca:=WL.put (x':=am) (ws':= [iV am.1,iV am.2.1,sV bR am.2.2 bS]) bz.1 (bz.1).2 b9 ⟨_,_,rfl,rfl,⟨_,_,rfl,rfl,⟨_,_,rfl,dR⟩⟩⟩;refine Eh 17 0 dT AS ca.2 fun cw=>?_;refine JB.fin (by decide+kernel) ?_;obtain⟨gy,dV,dW⟩:=bs dU;refine zg 5 rfl (Cd dV rfl rfl rfl ?_);obtain⟨dX,dY,dZ⟩:=bs dW;refine zg 2 rfl (Bp (fun L s=>∃(a4:LH) (f99:Array Value),Jn bv H a4 [bX K f99 133] [(0,.slice (AY K) U O),(1,iV p1),(2,iV p2),(3,(fV 134)),(9,iV a2),(10,iV Z.2.1)] L s (WL 133 Cx a4 K O U f99 dX)) ?_ ?_)
      ·rintro _ _ ⟨a4,f99,rfl,rfl,ea,cy,cz⟩;obtain⟨gz,eb,ec⟩:=bs dZ;refine zg 4 rfl (Cd eb rfl rfl rfl ?_);obtain⟨cA,ed,ee⟩:=bs ec;refine zg 2 rfl (Bp (fun L s=>∃(bT:LH) (f109:Array Value),Jn a4 H bT [bX K f109 133] [(0,.slice (AY K) U O),(1,iV p1),(2,iV p2),(3,(fV 134)),(9,iV a2),(10,iV Z.2.1)] L s (WL 133 Cx bT K O U f109 cA)) ?_ ?_)
       ·rintro _ _ ⟨bT,f109,rfl,rfl,ef,eg,eh⟩;obtain⟨ei,ej,ek⟩:=bs ee;refine zg 3 rfl (Bc ej rfl rfl rfl ?_);refine zg 2 rfl ?_;obtain rfl:=oi ek;exact Ax (dr _ _ (a2,ei,cA) ⟨bT,f109,rfl,rfl,(((bN.Ac a3).Ac ea).Ac ef),eg,eh⟩ bo) rfl
       ·intro cB;refine AL ed (fun el em=>?_) (fun el en=>?_)
        ·obtain⟨gA,eo,ep⟩:=bs em;refine zg 3 rfl (Bc eo rfl rfl rfl ?_);obtain⟨eq,er,et⟩:=bs ep;refine zg 2 rfl (Bp (fun L s=>∃(bU:LH) (f134:Array Value),Jn a4 H bU [bX K f134 133] [(0,.slice (AY K) U O),(1,iV p1),(2,iV p2),(3,(fV 134)),(9,iV a2),(10,iV Z.2.1)] L s (WL 133 Cx bU K O U f134 eq)) ?_ ?_)
         ·rintro _ _ ⟨bU,f134,rfl,rfl,eu,ew,ex⟩;obtain rfl:=oi et;exact Ax (cB _ _ ⟨bU,f134,rfl,rfl,eu,ew,ex⟩) rfl
         ·intro cC;refine JL.block (CP er (fun L s a5=>∃(bV:LH) (f142:Array Value),Jn a4 H bV [bX K f142 133] [(0,.slice (AY K) U O),(1,iV p1),(2,iV p2),(3,(fV 134)),(9,iV a2),(10,iV Z.2.1),(12,iV a5.1)] L s (WL 133 Cx bV K O U f142 a5.2)) ⟨a4,f99,rfl,rfl,Ar,cy,cz⟩ ?_);rintro _ _ a5 ⟨bV,f142,rfl,rfl,cb,bA,ap⟩ cD ⟨gB,bW⟩ ey;have cE:=bW;unfold Sa at cE;refine zg 7 rfl (AL cE (fun ez eA=>?_) (fun ez eB=>?_))
          ·refine zg 5 rfl (Dj 10 [K] ⟨⟨0,_,rfl⟩,trivial⟩ bA fun ht=>?_);refine A0 ht rfl [0,1,2] rfl ?_;obtain⟨V,bB,eC⟩:=bs eA;obtain⟨_,⟨_,_,rfl,rfl,⟨_,_,rfl,rfl,⟨bC,bD,rfl,cF⟩⟩⟩,cG⟩:=WL.at ap bB;refine F3 3 ht (ap).2 bB underlying130 AS ?_;refine D4 4 ht [iV V.1,iV V.2.1,sV bC V.2.2 bD] 0 bA cG Ct AS ?_;refine A0 ht rfl [5,6] rfl ?_;obtain⟨gC,eD,eE⟩:=bs eC;refine BC 7 ht rfl rfl (fun ρ h s' hs=>Dc (h _ _ rfl) (h _ _ rfl) eD) ?_;obtain⟨a6,cH,eF⟩:=bs eE;obtain⟨_,⟨_,_,rfl,rfl,⟨_,_,rfl,rfl,⟨cI,cJ,rfl,eG⟩⟩⟩,eH⟩:=WL.at ap cH;refine F3 8 ht (ap).2 cH underlying130 AS ?_;refine D4 9 ht [iV a6.1,iV a6.2.1,sV cI a6.2.2 cJ] 0 bA eH Ct AS ?_;refine Co [10,11,12] ?_;obtain⟨eI,eJ,eK⟩:=bs eF;refine KD (vs:= [.agg #[iV V.1,iV V.2.1,sV bC V.2.2 bD],.agg #[iV a6.1,iV a6.2.1,sV cI a6.2.2 cJ]]) (G4 cF eG eJ) rfl rfl rfl rfl GU rfl bA ?_;rintro _ cK _ a7 ⟨rfl,rfl⟩ bY;refine zg 1 rfl (AE (v:= .bool (decide (¬(eI<0)))) rfl (fun ρ h=>I1 (h _ _ rfl)) ?_);refine JL.done (AL eK (fun eL eM=>?_) (fun eL eN=>?_))
           ·refine JL.exit rfl ?_;obtain rfl:=oi eM;obtain rfl:=cD _ bW;exact Ax (cC _ _ ⟨cK,f142,rfl,rfl,(cb.Ac a7),bY,(ap.Ah a7)⟩) rfl
           ·refine JL.skip (G0 [15,17] [K] mixed rfl ?_);refine Bs 0 rfl rfl (Bs 1 rfl rfl ?_);refine Bs 2 rfl rfl (Bs 3 rfl rfl ?_);obtain⟨cM,eO,eP⟩:=bs eN;refine GG 4 true rfl rfl (fun ρ h s' hs=>Dc (h _ _ rfl) (h _ _ rfl) eO) (Bs 5 rfl rfl ?_);refine Bs 6 rfl rfl ?_;obtain⟨gD,eQ,eR⟩:=bs eP;refine GG 7 true rfl rfl (fun ρ h s' hs=>Dc (h _ _ rfl) (h _ _ rfl) eQ) ?_;obtain⟨a0,cN,eS⟩:=bs eR;obtain⟨_,⟨_,_,rfl,rfl,⟨_,_,rfl,rfl,⟨cc,cd,rfl,eT⟩⟩⟩,eU⟩:=WL.at (ap.Ah a7) cN;refine CB 8 ap.2 cN underlying130 AS ?_;refine Eg 9 [iV a0.1,iV a0.2.1,sV cc a0.2.2 cd] 0 bY eU Ct AS ?_;refine Bs 10 rfl rfl (Bs 11 rfl rfl ?_);refine CB 12 ap.2 bB underlying130 AS ?_;refine Eg 13 [iV V.1,iV V.2.1,sV bC V.2.2 bD] 0 bY cG Ct AS ?_;refine CB 14 ap.2 bB underlying130 AS ?_;have bE:=WL.put (x':=a0) (ws':= [iV a0.1,iV a0.2.1,sV cc a0.2.2 cd]) (ap.Ah a7) ap.2 bB ⟨_,_,rfl,rfl,⟨_,_,rfl,rfl,⟨_,_,rfl,eT⟩⟩⟩;refine Eh 15 0 bY AS bE.2 fun eV=>?_;obtain⟨gE,ce,eW⟩:=bs eS;obtain⟨_,⟨_,_,rfl,rfl,⟨_,_,rfl,rfl,⟨gF,gG,rfl,gH⟩⟩⟩,gI⟩:=WL.at bE.1 ce;refine CB 16 (bE.1).2 ce underlying130 AS ?_;have cO:=WL.put (x':=V) (ws':= [iV V.1,iV V.2.1,sV bC V.2.2 bD]) bE.1 (bE.1).2 ce ⟨_,_,rfl,rfl,⟨_,_,rfl,rfl,⟨_,_,rfl,(cF.Ah a7)⟩⟩⟩;refine Eh 17 0 eV AS cO.2 fun eX=>?_;refine JB.fin (by decide+kernel) ?_;obtain⟨eY,eZ,e0⟩:=bs eW;refine zg 3 rfl (Bc eZ rfl rfl rfl ?_);refine zg 2 rfl ?_;obtain rfl:=oi e0;exact Ax (ey _ _ (eY,((a5.2.set (Int.toNat a5.1) a0).set (Int.toNat cM) V)) ⟨cK,(A1 (A1 f142 (Int.toNat (a5.1)*3) [iV a0.1,iV a0.2.1,sV cc a0.2.2 cd]) (Int.toNat (cM)*3) [iV V.1,iV V.2.1,sV bC V.2.2 bD]),rfl,rfl,(cb.Ac a7),eX,cO.1⟩ bW) rfl
          ·refine JL.exit rfl ?_;obtain rfl:=oi eB;obtain rfl:=cD _ bW;exact Ax (cC _ _ ⟨bV,f142,rfl,rfl,cb,bA,ap⟩) rfl
        ·refine JL.skip ?_;obtain rfl:=oi en;exact Ax (cB _ _ ⟨a4,f99,rfl,rfl,Ar,cy,cz⟩) rfl
      ·intro cP;refine AL dY (fun e1 e2=>?_) (fun e1 e3=>?_)
       ·obtain⟨gJ,e4,e5⟩:=bs e2;refine zg 3 rfl (Cd e4 rfl rfl rfl ?_);obtain⟨e6,e7,e8⟩:=bs e5;refine zg 2 rfl (Bp (fun L s=>∃(bZ:LH) (f224:Array Value),Jn bv H bZ [bX K f224 133] [(0,.slice (AY K) U O),(1,iV p1),(2,iV p2),(3,(fV 134)),(9,iV a2),(10,iV Z.2.1)] L s (WL 133 Cx bZ K O U f224 e6)) ?_ ?_)
        ·rintro _ _ ⟨bZ,f224,rfl,rfl,e9,fa,fb⟩;obtain rfl:=oi e8;exact Ax (cP _ _ ⟨bZ,f224,rfl,rfl,e9,fa,fb⟩) rfl
        ·intro cQ;refine JL.block (CP e7 (fun L s a8=>∃(b0:LH) (f232:Array Value),Jn bv H b0 [bX K f232 133] [(0,.slice (AY K) U O),(1,iV p1),(2,iV p2),(3,(fV 134)),(9,iV a2),(10,iV Z.2.1),(11,iV a8.1)] L s (WL 133 Cx b0 K O U f232 a8.2)) ⟨bv,(A1 (A1 f27 (Int.toNat (a2)*3) [iV al.1,iV al.2.1,sV bO al.2.2 bP]) (Int.toNat (cu)*3) [iV am.1,iV am.2.1,sV bR am.2.2 bS]),rfl,rfl,Ar,cw,ca.1⟩ ?_);rintro _ _ a8 ⟨b0,f232,rfl,rfl,cf,bF,av⟩ cR ⟨gK,b1⟩ fc;have cT:=b1;unfold Sc at cT;refine zg 6 rfl (AL cT (fun fd fe=>?_) (fun fd ff=>?_))
         ·refine zg 5 rfl (Dj 10 [K] ⟨⟨0,_,rfl⟩,trivial⟩ bF fun ht=>?_);refine A0 ht rfl [0,1,2] rfl ?_;obtain⟨Y,bG,fg⟩:=bs fe;obtain⟨_,⟨_,_,rfl,rfl,⟨_,_,rfl,rfl,⟨bH,bI,rfl,cV⟩⟩⟩,cW⟩:=WL.at av bG;refine F3 3 ht (av).2 bG underlying130 AS ?_;refine D4 4 ht [iV Y.1,iV Y.2.1,sV bH Y.2.2 bI] 0 bF cW Ct AS ?_;refine A0 ht rfl [5,6] rfl ?_;obtain⟨gL,fh,fj⟩:=bs fg;refine BC 7 ht rfl rfl (fun ρ h s' hs=>Dc (h _ _ rfl) (h _ _ rfl) fh) ?_;obtain⟨a9,cX,fk⟩:=bs fj;obtain⟨_,⟨_,_,rfl,rfl,⟨_,_,rfl,rfl,⟨cY,cZ,rfl,fm⟩⟩⟩,fo⟩:=WL.at av cX;refine F3 8 ht (av).2 cX underlying130 AS ?_;refine D4 9 ht [iV a9.1,iV a9.2.1,sV cY a9.2.2 cZ] 0 bF fo Ct AS ?_;refine Co [10,11,12] ?_;obtain⟨fp,fq,fs⟩:=bs fk;refine KD (vs:= [.agg #[iV Y.1,iV Y.2.1,sV bH Y.2.2 bI],.agg #[iV a9.1,iV a9.2.1,sV cY a9.2.2 cZ]]) (G4 cV fm fq) rfl rfl rfl rfl GU rfl bF ?_;rintro _ c0 _ bb ⟨rfl,rfl⟩ b2;refine zg 1 rfl (AE (v:= .bool (decide (¬(fp<0)))) rfl (fun ρ h=>I1 (h _ _ rfl)) ?_);refine JL.done (AL fs (fun fu fv=>?_) (fun fu fw=>?_))
          ·refine JL.exit rfl ?_;obtain rfl:=oi fv;obtain rfl:=cR _ b1;exact Ax (cQ _ _ ⟨c0,f232,rfl,rfl,(cf.Ac bb),b2,(av.Ah bb)⟩) rfl
          ·refine JL.skip (G0 [15,17] [K] mixed rfl ?_);refine Bs 0 rfl rfl (Bs 1 rfl rfl ?_);refine Bs 2 rfl rfl (Bs 3 rfl rfl ?_);obtain⟨c1,fx,fy⟩:=bs fw;refine GG 4 true rfl rfl (fun ρ h s' hs=>Dc (h _ _ rfl) (h _ _ rfl) fx) (Bs 5 rfl rfl ?_);refine Bs 6 rfl rfl ?_;obtain⟨gM,fz,fA⟩:=bs fy;refine GG 7 true rfl rfl (fun ρ h s' hs=>Dc (h _ _ rfl) (h _ _ rfl) fz) ?_;obtain⟨a1,c2,fB⟩:=bs fA;obtain⟨_,⟨_,_,rfl,rfl,⟨_,_,rfl,rfl,⟨cg,ci,rfl,fC⟩⟩⟩,fD⟩:=WL.at (av.Ah bb) c2;refine CB 8 av.2 c2 underlying130 AS ?_;refine Eg 9 [iV a1.1,iV a1.2.1,sV cg a1.2.2 ci] 0 b2 fD Ct AS ?_;refine Bs 10 rfl rfl (Bs 11 rfl rfl ?_);refine CB 12 av.2 bG underlying130 AS ?_;refine Eg 13 [iV Y.1,iV Y.2.1,sV bH Y.2.2 bI] 0 b2 cW Ct AS ?_;refine CB 14 av.2 bG underlying130 AS ?_;have bJ:=WL.put (x':=a1) (ws':= [iV a1.1,iV a1.2.1,sV cg a1.2.2 ci]) (av.Ah bb) av.2 bG ⟨_,_,rfl,rfl,⟨_,_,rfl,rfl,⟨_,_,rfl,fC⟩⟩⟩;refine Eh 15 0 b2 AS bJ.2 fun fE=>?_;obtain⟨gN,ck,fF⟩:=bs fB;obtain⟨_,⟨_,_,rfl,rfl,⟨_,_,rfl,rfl,⟨gO,gP,rfl,gQ⟩⟩⟩,gR⟩:=WL.at bJ.1 ck;refine CB 16 (bJ.1).2 ck underlying130 AS ?_;have c3:=WL.put (x':=Y) (ws':= [iV Y.1,iV Y.2.1,sV bH Y.2.2 bI]) bJ.1 (bJ.1).2 ck ⟨_,_,rfl,rfl,⟨_,_,rfl,rfl,⟨_,_,rfl,(cV.Ah bb)⟩⟩⟩;refine Eh 17 0 fE AS c3.2 fun fG=>?_;refine JB.fin (by decide+kernel) ?_;obtain⟨fH,fI,fJ⟩:=bs fF;refine zg 3 rfl (Cd fI rfl rfl rfl ?_);refine zg 2 rfl ?_;obtain rfl:=oi fJ;exact Ax (fc _ _ (fH,((a8.2.set (Int.toNat a8.1) a1).set (Int.toNat c1) Y)) ⟨c0,(A1 (A1 f232 (Int.toNat (a8.1)*3) [iV a1.1,iV a1.2.1,sV cg a1.2.2 ci]) (Int.toNat (c1)*3) [iV Y.1,iV Y.2.1,sV bH Y.2.2 bI]),rfl,rfl,(cf.Ac bb),fG,c3.1⟩ b1) rfl
         ·refine JL.exit rfl ?_;obtain rfl:=oi ff;obtain rfl:=cR _ b1;exact Ax (cQ _ _ ⟨b0,f232,rfl,rfl,cf,bF,av⟩) rfl
       ·refine JL.skip ?_;obtain rfl:=oi e3;exact Ax (cP _ _ ⟨bv,(A1 (A1 f27 (Int.toNat (a2)*3) [iV al.1,iV al.2.1,sV bO al.2.2 bP]) (Int.toNat (cu)*3) [iV am.1,iV am.2.1,sV bR am.2.2 bS]),rfl,rfl,Ar,cw,ca.1⟩) rfl
   ·refine JL.block (Cz dw (fun bK=> [bX K f27 133]) (fun bK=> [(0,.slice (AY K) U O),(1,iV p1),(2,iV p2),(3,(fV 134)),(9,iV bK),(10,iV Z.2.1)]) Ar cr ?_);rintro bK c4 bd bL fK ⟨gS,cm⟩ fL;have c5:=cm;unfold I5 at c5;refine zg 2 rfl (Dj 18 [K] ⟨⟨0,_,rfl⟩,trivial⟩ bL fun ht=>?_);refine A0 ht rfl [0,1,2,3] rfl ?_;obtain⟨fM,c6,fN⟩:=bs c5;refine Ed 0 #[true,true,true,true,true,true,true,true,true,true,true,true,true,true,true,true,true,true] (fun L s=>∃(c7:LH),Jm c4 H c7 [bX K f27 133] [(0,.slice (AY K) U O),(1,iV p1),(2,iV p2),(3,(fV 134)),(9,iV bK),(10,iV Z.2.1),(36,.bool fM)] L s) ?_ ?_
    ·rintro _ _ ⟨c7,rfl,rfl,c8,c9⟩;refine AX.fin (by decide+kernel) (BJ fN (fun fO fP=>?_) (fun fO fQ=>?_))
     ·obtain⟨fR,fS,fT⟩:=bs fP;refine zg 4 rfl (Bc fS rfl rfl rfl ?_);refine zg 3 rfl ?_;obtain rfl:=oi fT;exact fL fR (bd.Ac c8) c9 rfl cm
     ·refine JL.exit rfl ?_;obtain rfl:=oi fQ;obtain rfl:=fK _ cm;exact dy (bd.Ac c8) c9 rfl
    ·intro da;refine Ft (q:=bK<p2) (i:=22) rfl (fun cn=>?_) (fun cn=>?_)
     ·have fU:=ip c6 cn;refine A0 ht rfl [4,5,6] rfl ?_;obtain⟨be,db,fW⟩:=bs fU;obtain⟨_,⟨_,_,rfl,rfl,⟨_,_,rfl,rfl,⟨dc,dd,rfl,fX⟩⟩⟩,fY⟩:=WL.at (ag.Ah bd) db;refine BC 7 ht rfl rfl (fun ρ h s' hs=>Gx ((ag.Ah bd)).2 db underlying130 AS (h _ _ rfl) (h _ _ rfl)) ?_;refine D4 8 ht [iV be.1,iV be.2.1,sV dc be.2.2 dd] 0 bL fY Ct AS ?_;refine A0 ht rfl [9,10] rfl ?_;obtain⟨gT,fZ,ga⟩:=bs fW;refine BC 11 ht rfl rfl (fun ρ h s' hs=>Dc (h _ _ rfl) (h _ _ rfl) fZ) ?_;obtain⟨bi,de,gb⟩:=bs ga;obtain⟨_,⟨_,_,rfl,rfl,⟨_,_,rfl,rfl,⟨df,dg,rfl,gc⟩⟩⟩,gd⟩:=WL.at (ag.Ah bd) de;refine BC 12 ht rfl rfl (fun ρ h s' hs=>Gx ((ag.Ah bd)).2 de underlying130 AS (h _ _ rfl) (h _ _ rfl)) ?_;refine D4 13 ht [iV bi.1,iV bi.2.1,sV df bi.2.2 dg] 0 bL gd Ct AS ?_;obtain⟨ge,gf,gg⟩:=bs gb;refine HP (i:=14) ⟨⟨0,_,rfl⟩,trivial⟩ (vs:= [.agg #[iV be.1,iV be.2.1,sV dc be.2.2 dd],.agg #[iV bi.1,iV bi.2.1,sV df bi.2.2 dg]]) (G4 fX gc gf) (by decide+kernel) rfl rfl rfl rfl GU rfl bL ?_;rintro _ gh _ gi ⟨rfl,rfl⟩ gj;refine Cb 15 ht rfl rfl ?_;refine BC (v:= .bool (decide (¬(ge<0)))) 16 ht rfl rfl (fun ρ h s' hs=>I1 (h _ _ rfl)) ?_;refine Cb 17 ht rfl rfl ?_;obtain rfl:=oi gg;refine CE ?_ (da _ _ ⟨gh,rfl,rfl,gi,gj⟩);exact⟨rfl,rfl,rfl,rfl,rfl,rfl,rfl,trivial⟩
     ·have gk:=im c6 cn;refine A0 ht rfl [4,5,6,7,8,9,10,11,12,13,14,15,16,17] rfl ?_;obtain rfl:=oi gk;refine CE ?_ (da _ _ ⟨c4,rfl,rfl,Ar,bL⟩);exact⟨rfl,rfl,rfl,rfl,rfl,rfl,rfl,trivial⟩
  ·refine JL.exit rfl ?_;obtain rfl:=oi dv;have gl:cq=(Sum.inr Z.2.2):=(b8 _ bo).symm;exact Ax (dq _ _ ⟨Z.2.2,bM,f27,gl,rfl,rfl,bN,cr,ag⟩) rfl
def KX(fuel:Nat)(p0:List Bu)(p1:Int)(p3:Int)(O:Bu)(U:Bu)(V:Int)(K:Int):Option (Bf Int Int):= Option.bind (if K≤V then((ix ((p0.set (Int.toNat p1) O).set (Int.toNat p3) U) K).bind fun Y=> (ix ((p0.set (Int.toNat p1) O).set (Int.toNat p3) U) p1).bind fun Z=> (f134 fuel Y Z).bind fun ag=> some (decide (ag<0))) else(some false)) fun al=> if al=true then((Au (K+1)).bind fun am=> some (.more am)) else(some (.done K))
def KS(fuel:Nat)(p0:List Bu)(p1:Int)(p3:Int)(O:Bu)(U:Bu)(V:Int)(K:Int):Option (Bf Int Int):= Option.bind (if V≤K then((ix ((p0.set (Int.toNat p1) O).set (Int.toNat p3) U) K).bind fun Y=> (ix ((p0.set (Int.toNat p1) O).set (Int.toNat p3) U) p1).bind fun Z=> (f134 fuel Y Z).bind fun ag=> some (decide (¬(ag<0)))) else(some false)) fun al=> if al=true then((Au (K - 1)).bind fun am=> some (.more am)) else(some (.done K))
def JM(fuel:Nat)(p1:Int)(O:Int×Int×(List Bu))(K:Int):Option (Bf Int Int):= Option.bind (if K≤O.2.1 then((ix O.2.2 K).bind fun U=> (ix O.2.2 p1).bind fun V=> (f134 fuel U V).bind fun Y=> some (decide (Y<0))) else(some false)) fun Z=> if Z=true then((Au (K+1)).bind fun ag=> some (.more ag)) else(some (.done K))
def JK(fuel:Nat)(p1:Int)(O:Int×Int×(List Bu))(U:Int)(K:Int):Option (Bf Int Int):= Option.bind (if U≤K then((ix O.2.2 K).bind fun V=> (ix O.2.2 p1).bind fun Y=> (f134 fuel V Y).bind fun Z=> some (decide (¬(Z<0)))) else(some false)) fun ag=> if ag=true then((Au (K - 1)).bind fun al=> some (.more al)) else(some (.done K))
def I4(fuel:Nat)(p1:Int)(K:Int×Int×(List Bu)):Option (Bf (Int×Int×(List Bu)) (Int×(List Bu))):= Option.bind (iter (JM fuel p1 K) fuel K.1) fun O=> Option.bind (iter (JK fuel p1 K O) fuel K.2.1) fun U=> if U<O then(some (.done (U,K.2.2))) else((ix K.2.2 U).bind fun V=> (ix K.2.2 O).bind fun Y=> (Au (O+1)).bind fun Z=> (Au (U - 1)).bind fun ag=> some (.more (Z,ag,((K.2.2.set (Int.toNat O) V).set (Int.toNat U) Y))))
def f185(fuel:Nat)(p0:List Bu)(p1:Int)(p2:Int)(p3:Int):Option (Int×Bool×(List Bu)):= (ix p0 p3).bind fun K=> (ix p0 p1).bind fun O=> (Au (p1+1)).bind fun ag=> (Au (p2 - 1)).bind fun Z=> Option.bind (iter (KX fuel p0 p1 p3 K O Z) fuel ag) fun Y=> Option.bind (iter (KS fuel p0 p1 p3 K O Y) fuel Z) fun U=> if U<Y then((ix ((p0.set (Int.toNat p1) K).set (Int.toNat p3) O) p1).bind fun al=> (ix ((p0.set (Int.toNat p1) K).set (Int.toNat p3) O) U).bind fun am=> some (U,true,((((p0.set (Int.toNat p1) K).set (Int.toNat p3) O).set (Int.toNat U) al).set (Int.toNat p1) am))) else((ix ((p0.set (Int.toNat p1) K).set (Int.toNat p3) O) U).bind fun ap=> (ix ((p0.set (Int.toNat p1) K).set (Int.toNat p3) O) Y).bind fun av=> (Au (Y+1)).bind fun a0=> (Au (U - 1)).bind fun a1=> Option.bind (iter (I4 fuel p1) fuel (a0,a1,((((p0.set (Int.toNat p1) K).set (Int.toNat p3) O).set (Int.toNat Y) ap).set (Int.toNat U) av))) fun V=> (ix V.2 p1).bind fun a2=> (ix V.2 V.1).bind fun a3=> some (V.1,false,((V.2.set (Int.toNat V.1) a2).set (Int.toNat p1) a3)))
theorem Sz{K:Nat}{Y:Nat}{Z:Nat}{av:Array Value}{p0:List (Bu)}{p1:Int}{p2:Int}{p3:Int}(hW:WL 133 Cx E K Y Z av p0){fuel:Nat}{r:Int×Bool×(List Bu)}(cI:f185 fuel p0 p1 p2 p3=some r):AM J 185 [.slice (AY K) Z Y,iV p1,iV p2,iV p3,(fV 134)] E [(K,.cells av 133 (0,0))] (fun w E' B'=>∃(cJ:Array Value),w= .tuple #[iV r.1,.bool r.2.1]∧B'= [(K,.cells cJ 133 (0,0))]∧WL 133 Cx E' K Y Z cJ r.2.2):=by
 refine A4 func185 fun Q hd cs H b5 cK=>?_;unfold f185 at cI;refine zg 6 rfl (G0 [13,15] [K] mixed rfl ?_);refine Bs 0 rfl rfl (Bs 1 rfl rfl ?_);refine Bs 2 rfl rfl (Bs 3 rfl rfl ?_);refine Bs 4 rfl rfl (Bs 5 rfl rfl ?_);obtain⟨O,bU,dT⟩:=bs cI;obtain⟨_,⟨_,_,rfl,rfl,⟨_,_,rfl,rfl,⟨a0,c4,rfl,dU⟩⟩⟩,dV⟩:=WL.at hW bU;refine CB 6 hW.2 bU underlying130 AS ?_;refine Eg 7 [iV O.1,iV O.2.1,sV a0 O.2.2 c4] 0 b5 dV Ct AS ?_;refine Bs 8 rfl rfl (Bs 9 rfl rfl ?_);obtain⟨U,bL,dW⟩:=bs dT;obtain⟨_,⟨_,_,rfl,rfl,⟨_,_,rfl,rfl,⟨a1,a2,rfl,dX⟩⟩⟩,dY⟩:=WL.at hW bL;refine CB 10 hW.2 bL underlying130 AS ?_;refine Eg 11 [iV U.1,iV U.2.1,sV a1 U.2.2 a2] 0 b5 dY Ct AS ?_;refine CB 12 hW.2 bL underlying130 AS ?_;have cM:=WL.put (x':=O) (ws':= [iV O.1,iV O.2.1,sV a0 O.2.2 c4]) hW hW.2 bL ⟨_,_,rfl,rfl,⟨_,_,rfl,rfl,⟨_,_,rfl,dU⟩⟩⟩;refine Eh 13 0 b5 AS cM.2 fun dZ=>?_;refine CB 14 hW.2 bU underlying130 AS ?_;have V:=WL.put (x':=U) (ws':= [iV U.1,iV U.2.1,sV a1 U.2.2 a2]) cM.1 hW.2 bU ⟨_,_,rfl,rfl,⟨_,_,rfl,rfl,⟨_,_,rfl,dX⟩⟩⟩;refine Eh 15 0 dZ AS V.2 fun ea=>?_;refine JB.fin (by decide+kernel) ?_;obtain⟨he,eb,ec⟩:=bs dW;refine zg 3 rfl (Bc eb rfl rfl rfl ?_);obtain⟨bV,ed,ee⟩:=bs ec;refine zg 1 rfl (Cd ed rfl rfl rfl ?_);obtain⟨bo,ef,eg⟩:=bs ee;refine zg 4 rfl (C4 [bX K (A1 (A1 av (Int.toNat (p1)*3) [iV O.1,iV O.2.1,sV a0 O.2.2 c4]) (Int.toNat (p3)*3) [iV U.1,iV U.2.1,sV a1 U.2.2 a2]) 133] [(0,.slice (AY K) Z Y),(1,iV p1),(4,(fV 134)),(12,iV bo),(13,iV bV)] (fun hf al eh=>?_) (fun ei=>?_))
 ·obtain⟨b6,ej,ek⟩:=bs eg;refine JL.seq (C4 [bX K (A1 (A1 av (Int.toNat (p1)*3) [iV O.1,iV O.2.1,sV a0 O.2.2 c4]) (Int.toNat (p3)*3) [iV U.1,iV U.2.1,sV a1 U.2.2 a2]) 133] [(0,.slice (AY K) Z Y),(1,iV p1),(4,(fV 134)),(12,iV bo),(13,iV b6)] (fun b7 be bv=>?_) (fun el=>?_))
  ·refine zg 7 rfl (AL ek (fun em en=>?_) (fun em eo=>?_))
   ·refine JL.seq (G0 [13,15] [K] mixed rfl ?_);refine Bs 0 rfl rfl (Bs 1 rfl rfl ?_);refine Bs 2 rfl rfl (Bs 3 rfl rfl ?_);refine Bs 4 rfl rfl (Bs 5 rfl rfl ?_);refine CB 6 hW.2 bL underlying130 AS ?_;obtain⟨a3,b8,ep⟩:=bs en;obtain⟨_,⟨_,_,rfl,rfl,⟨_,_,rfl,rfl,⟨b9,ca,rfl,eq⟩⟩⟩,er⟩:=WL.at (V.1.Ah (al.Ac be)) b8;refine Eg 7 [iV a3.1,iV a3.2.1,sV b9 a3.2.2 ca] 0 bv er Ct AS ?_;refine Bs 8 rfl rfl (Bs 9 rfl rfl ?_);obtain⟨a4,bW,et⟩:=bs ep;obtain⟨_,⟨_,_,rfl,rfl,⟨_,_,rfl,rfl,⟨cb,cc,rfl,eu⟩⟩⟩,ew⟩:=WL.at (V.1.Ah (al.Ac be)) bW;refine CB 10 (V.1).2 bW underlying130 AS ?_;refine Eg 11 [iV a4.1,iV a4.2.1,sV cb a4.2.2 cc] 0 bv ew Ct AS ?_;refine CB 12 (V.1).2 bW underlying130 AS ?_;have cN:=WL.put (x':=a3) (ws':= [iV a3.1,iV a3.2.1,sV b9 a3.2.2 ca]) (V.1.Ah (al.Ac be)) (V.1).2 bW ⟨_,_,rfl,rfl,⟨_,_,rfl,rfl,⟨_,_,rfl,eq⟩⟩⟩;refine Eh 13 0 bv AS cN.2 fun ex=>?_;refine CB 14 (V.1).2 b8 underlying130 AS ?_;have cO:=WL.put (x':=a4) (ws':= [iV a4.1,iV a4.2.1,sV cb a4.2.2 cc]) cN.1 (V.1).2 b8 ⟨_,_,rfl,rfl,⟨_,_,rfl,rfl,⟨_,_,rfl,eu⟩⟩⟩;refine Eh 15 0 ex AS cO.2 fun ey=>?_;refine JB.fin (by decide+kernel) (zg 6 rfl ?_);obtain rfl:=oi et;exact AA func185 rfl rfl (cK (al.Ac be) rfl ⟨(A1 (A1 (A1 (A1 av (Int.toNat (p1)*3) [iV O.1,iV O.2.1,sV a0 O.2.2 c4]) (Int.toNat (p3)*3) [iV U.1,iV U.2.1,sV a1 U.2.2 a2]) (Int.toNat (b6)*3) [iV a3.1,iV a3.2.1,sV b9 a3.2.2 ca]) (Int.toNat (p1)*3) [iV a4.1,iV a4.2.1,sV cb a4.2.2 cc]),rfl,(by first | rfl | simp | (simp [Value.cells])),cO.1⟩ ey)
   ·refine zg 2 rfl (G0 [13,15] [K] mixed rfl ?_);refine Bs 0 rfl rfl (Bs 1 rfl rfl ?_);refine Bs 2 rfl rfl (Bs 3 rfl rfl ?_);refine Bs 4 rfl rfl (Bs 5 rfl rfl ?_);obtain⟨a5,bY,ez⟩:=bs eo;obtain⟨_,⟨_,_,rfl,rfl,⟨_,_,rfl,rfl,⟨cd,ce,rfl,eA⟩⟩⟩,eB⟩:=WL.at (V.1.Ah (al.Ac be)) bY;refine CB 6 (V.1).2 bY underlying130 AS ?_;refine Eg 7 [iV a5.1,iV a5.2.1,sV cd a5.2.2 ce] 0 bv eB Ct AS ?_;refine Bs 8 rfl rfl (Bs 9 rfl rfl ?_);obtain⟨a6,bZ,eC⟩:=bs ez;obtain⟨_,⟨_,_,rfl,rfl,⟨_,_,rfl,rfl,⟨cf,cg,rfl,eD⟩⟩⟩,eE⟩:=WL.at (V.1.Ah (al.Ac be)) bZ;refine CB 10 (V.1).2 bZ underlying130 AS ?_;refine Eg 11 [iV a6.1,iV a6.2.1,sV cf a6.2.2 cg] 0 bv eE Ct AS ?_;refine CB 12 (V.1).2 bZ underlying130 AS ?_;have cP:=WL.put (x':=a5) (ws':= [iV a5.1,iV a5.2.1,sV cd a5.2.2 ce]) (V.1.Ah (al.Ac be)) (V.1).2 bZ ⟨_,_,rfl,rfl,⟨_,_,rfl,rfl,⟨_,_,rfl,eA⟩⟩⟩;refine Eh 13 0 bv AS cP.2 fun eF=>?_;refine CB 14 (V.1).2 bY underlying130 AS ?_;have cQ:=WL.put (x':=a6) (ws':= [iV a6.1,iV a6.2.1,sV cf a6.2.2 cg]) cP.1 (V.1).2 bY ⟨_,_,rfl,rfl,⟨_,_,rfl,rfl,⟨_,_,rfl,eD⟩⟩⟩;refine Eh 15 0 eF AS cQ.2 fun eG=>?_;refine JB.fin (by decide+kernel) ?_;obtain⟨hj,eH,eI⟩:=bs eC;refine zg 3 rfl (Bc eH rfl rfl rfl ?_);obtain⟨hk,eJ,eK⟩:=bs eI;refine zg 5 rfl (Cd eJ rfl rfl rfl ?_);obtain⟨ci,eL,eM⟩:=bs eK;refine zg 3 rfl (Bp (fun L s=>∃(ck:LH) (f102:Array Value),Jn b7 H ck [bX K f102 133] [(0,.slice (AY K) Z Y),(1,iV p1),(13,iV ci.1)] L s (WL 133 Cx ck K Y Z f102 ci.2)) ?_ ?_)
    ·rintro _ _ ⟨ck,f102,rfl,rfl,eN,cm,bb⟩;refine JL.seq (G0 [13,15] [K] mixed rfl ?_);refine Bs 0 rfl rfl (Bs 1 rfl rfl ?_);refine Bs 2 rfl rfl (Bs 3 rfl rfl ?_);refine Bs 4 rfl rfl (Bs 5 rfl rfl ?_);obtain⟨a7,b0,eO⟩:=bs eM;obtain⟨_,⟨_,_,rfl,rfl,⟨_,_,rfl,rfl,⟨cn,co,rfl,eP⟩⟩⟩,eQ⟩:=WL.at bb b0;refine CB 6 bb.2 b0 underlying130 AS ?_;refine Eg 7 [iV a7.1,iV a7.2.1,sV cn a7.2.2 co] 0 cm eQ Ct AS ?_;refine Bs 8 rfl rfl (Bs 9 rfl rfl ?_);obtain⟨a8,b1,eR⟩:=bs eO;obtain⟨_,⟨_,_,rfl,rfl,⟨_,_,rfl,rfl,⟨cp,cq,rfl,eS⟩⟩⟩,eT⟩:=WL.at bb b1;refine CB 10 bb.2 b1 underlying130 AS ?_;refine Eg 11 [iV a8.1,iV a8.2.1,sV cp a8.2.2 cq] 0 cm eT Ct AS ?_;refine CB 12 bb.2 b1 underlying130 AS ?_;have cR:=WL.put (x':=a7) (ws':= [iV a7.1,iV a7.2.1,sV cn a7.2.2 co]) bb bb.2 b1 ⟨_,_,rfl,rfl,⟨_,_,rfl,rfl,⟨_,_,rfl,eP⟩⟩⟩;refine Eh 13 0 cm AS cR.2 fun eU=>?_;refine CB 14 bb.2 b0 underlying130 AS ?_;have cT:=WL.put (x':=a8) (ws':= [iV a8.1,iV a8.2.1,sV cp a8.2.2 cq]) cR.1 bb.2 b0 ⟨_,_,rfl,rfl,⟨_,_,rfl,rfl,⟨_,_,rfl,eS⟩⟩⟩;refine Eh 15 0 eU AS cT.2 fun eV=>?_;refine JB.fin (by decide+kernel) (zg 6 rfl ?_);obtain rfl:=oi eR;exact AA func185 rfl rfl (cK ((al.Ac be).Ac eN) rfl ⟨(A1 (A1 f102 (Int.toNat (ci.1)*3) [iV a7.1,iV a7.2.1,sV cn a7.2.2 co]) (Int.toNat (p1)*3) [iV a8.1,iV a8.2.1,sV cp a8.2.2 cq]),rfl,(by first | rfl | simp | (simp [Value.cells])),cT.1⟩ eV)
    ·intro eW;refine JL.block (CP eL (fun L s bd=>∃(cr:LH) (f127:Array Value),Jn b7 H cr [bX K f127 133] [(0,.slice (AY K) Z Y),(1,iV p1),(4,(fV 134)),(12,iV bd.1),(13,iV bd.2.1)] L s (WL 133 Cx cr K Y Z f127 bd.2.2)) ⟨b7,(A1 (A1 (A1 (A1 av (Int.toNat (p1)*3) [iV O.1,iV O.2.1,sV a0 O.2.2 c4]) (Int.toNat (p3)*3) [iV U.1,iV U.2.1,sV a1 U.2.2 a2]) (Int.toNat (bo)*3) [iV a5.1,iV a5.2.1,sV cd a5.2.2 ce]) (Int.toNat (b6)*3) [iV a6.1,iV a6.2.1,sV cf a6.2.2 cg]),rfl,rfl,Ar,eG,cQ.1⟩ ?_);rintro _ _ bd ⟨cr,f127,rfl,rfl,cV,eX,ag⟩ eY ⟨hl,ct⟩ eZ;have cW:=ct;unfold I4 at cW;obtain⟨bi,e0,e1⟩:=bs cW;refine zg 2 rfl (C4 [bX K f127 133] [(0,.slice (AY K) Z Y),(1,iV p1),(4,(fV 134)),(12,iV bi),(13,iV bd.2.1)] (fun hm a9 e2=>?_) (fun e3=>?_))
     ·obtain⟨cu,e4,e5⟩:=bs e1;refine JL.seq (C4 [bX K f127 133] [(0,.slice (AY K) Z Y),(1,iV p1),(4,(fV 134)),(12,iV bi),(13,iV cu)] (fun cX bw b2=>?_) (fun e6=>?_))
      ·refine zg 7 rfl (AL e5 (fun e7 e8=>?_) (fun e7 e9=>?_))
       ·refine JL.exit rfl ?_;obtain rfl:=oi e8;obtain rfl:=eY _ ct;exact Ax (eW _ _ ⟨cX,f127,rfl,rfl,((cV.Ac a9).Ac bw),b2,(ag.Ah (a9.Ac bw))⟩) rfl
       ·refine zg 2 rfl (G0 [13,15] [K] mixed rfl ?_);refine Bs 0 rfl rfl (Bs 1 rfl rfl ?_);refine Bs 2 rfl rfl (Bs 3 rfl rfl ?_);refine Bs 4 rfl rfl (Bs 5 rfl rfl ?_);obtain⟨am,b3,fa⟩:=bs e9;obtain⟨_,⟨_,_,rfl,rfl,⟨_,_,rfl,rfl,⟨cv,cw,rfl,fb⟩⟩⟩,fc⟩:=WL.at (ag.Ah (a9.Ac bw)) b3;refine CB 6 ag.2 b3 underlying130 AS ?_;refine Eg 7 [iV am.1,iV am.2.1,sV cv am.2.2 cw] 0 b2 fc Ct AS ?_;refine Bs 8 rfl rfl (Bs 9 rfl rfl ?_);obtain⟨ap,b4,fd⟩:=bs fa;obtain⟨_,⟨_,_,rfl,rfl,⟨_,_,rfl,rfl,⟨cy,cz,rfl,fe⟩⟩⟩,ff⟩:=WL.at (ag.Ah (a9.Ac bw)) b4;refine CB 10 ag.2 b4 underlying130 AS ?_;refine Eg 11 [iV ap.1,iV ap.2.1,sV cy ap.2.2 cz] 0 b2 ff Ct AS ?_;refine CB 12 ag.2 b4 underlying130 AS ?_;have cY:=WL.put (x':=am) (ws':= [iV am.1,iV am.2.1,sV cv am.2.2 cw]) (ag.Ah (a9.Ac bw)) ag.2 b4 ⟨_,_,rfl,rfl,⟨_,_,rfl,rfl,⟨_,_,rfl,fb⟩⟩⟩;refine Eh 13 0 b2 AS cY.2 fun fg=>?_;refine CB 14 ag.2 b3 underlying130 AS ?_;have cZ:=WL.put (x':=ap) (ws':= [iV ap.1,iV ap.2.1,sV cy ap.2.2 cz]) cY.1 ag.2 b3 ⟨_,_,rfl,rfl,⟨_,_,rfl,rfl,⟨_,_,rfl,fe⟩⟩⟩;refine Eh 15 0 fg AS cZ.2 fun fh=>?_;refine JB.fin (by decide+kernel) ?_;obtain⟨fj,fk,fm⟩:=bs fd;refine zg 3 rfl (Bc fk rfl rfl rfl ?_);obtain⟨fo,fp,fq⟩:=bs fm;refine zg 4 rfl (Cd fp rfl rfl rfl ?_);refine zg 3 rfl ?_;obtain rfl:=oi fq;exact Ax (eZ _ _ (fj,fo,((bd.2.2.set (Int.toNat bi) am).set (Int.toNat cu) ap)) ⟨cX,(A1 (A1 f127 (Int.toNat (bi)*3) [iV am.1,iV am.2.1,sV cv am.2.2 cw]) (Int.toNat (cu)*3) [iV ap.1,iV ap.2.1,sV cy ap.2.2 cz]),rfl,rfl,((cV.Ac a9).Ac bw),fh,cZ.1⟩ ct) rfl
      ·refine JL.block (Cz e4 (fun bM=> [bX K f127 133]) (fun bM=> [(0,.slice (AY K) Z Y),(1,iV p1),(4,(fV 134)),(12,iV bi),(13,iV bM)]) Ar e2 ?_);rintro bM c0 bz bN fs ⟨hn,cA⟩ fu;have c1:=cA;unfold JK at c1;refine zg 2 rfl (Dj 17 [K] ⟨⟨0,_,rfl⟩,trivial⟩ bN fun ht=>?_);refine A0 ht rfl [0,1,2,3] rfl ?_;obtain⟨fv,c2,fw⟩:=bs c1;refine Ed 0 #[true,true,true,true,true,true,true,true,true,true,true,true,true,true,true,true,true] (fun L s=>∃(c3:LH),Jm c0 H c3 [bX K f127 133] [(0,.slice (AY K) Z Y),(1,iV p1),(4,(fV 134)),(12,iV bi),(13,iV bM),(139,.bool fv)] L s) ?_ ?_
       ·rintro _ _ ⟨c3,rfl,rfl,c5,c6⟩;refine AX.fin (by decide+kernel) (BJ fw (fun fx fy=>?_) (fun fx fz=>?_))
        ·obtain⟨fA,fB,fC⟩:=bs fy;refine zg 4 rfl (Cd fB rfl rfl rfl ?_);refine zg 3 rfl ?_;obtain rfl:=oi fC;exact fu fA (bz.Ac c5) c6 rfl cA
        ·refine JL.exit rfl ?_;obtain rfl:=oi fz;obtain rfl:=fs _ cA;exact e6 (bz.Ac c5) c6 rfl
       ·intro c7;refine Ft (q:=bi≤bM) (i:=126) rfl (fun cB=>?_) (fun cB=>?_)
        ·have fD:=ip c2 cB;refine A0 ht rfl [4,5,6] rfl ?_;obtain⟨bA,c8,fE⟩:=bs fD;obtain⟨_,⟨_,_,rfl,rfl,⟨_,_,rfl,rfl,⟨c9,da,rfl,fF⟩⟩⟩,fG⟩:=WL.at (ag.Ah (a9.Ac bz)) c8;refine BC 7 ht rfl rfl (fun ρ h s' hs=>Gx ((ag.Ah (a9.Ac bz))).2 c8 underlying130 AS (h _ _ rfl) (h _ _ rfl)) ?_;refine D4 8 ht [iV bA.1,iV bA.2.1,sV c9 bA.2.2 da] 0 bN fG Ct AS ?_;refine A0 ht rfl [9,10] rfl ?_;obtain⟨bB,db,fH⟩:=bs fE;obtain⟨_,⟨_,_,rfl,rfl,⟨_,_,rfl,rfl,⟨dc,dd,rfl,fI⟩⟩⟩,fJ⟩:=WL.at (ag.Ah (a9.Ac bz)) db;refine BC 11 ht rfl rfl (fun ρ h s' hs=>Gx ((ag.Ah (a9.Ac bz))).2 db underlying130 AS (h _ _ rfl) (h _ _ rfl)) ?_;refine D4 12 ht [iV bB.1,iV bB.2.1,sV dc bB.2.2 dd] 0 bN fJ Ct AS ?_;obtain⟨fK,fL,fM⟩:=bs fH;refine HP (i:=13) ⟨⟨0,_,rfl⟩,trivial⟩ (vs:= [.agg #[iV bA.1,iV bA.2.1,sV c9 bA.2.2 da],.agg #[iV bB.1,iV bB.2.1,sV dc bB.2.2 dd]]) (G4 fF fI fL) (by decide+kernel) rfl rfl rfl rfl GU rfl bN ?_;rintro _ fN _ fO ⟨rfl,rfl⟩ fP;refine Cb 14 ht rfl rfl ?_;refine BC (v:= .bool (decide (¬(fK<0)))) 15 ht rfl rfl (fun ρ h s' hs=>I1 (h _ _ rfl)) ?_;refine Cb 16 ht rfl rfl ?_;obtain rfl:=oi fM;refine CE ?_ (c7 _ _ ⟨fN,rfl,rfl,fO,fP⟩);exact⟨rfl,rfl,rfl,rfl,rfl,rfl,trivial⟩
        ·have fQ:=im c2 cB;refine A0 ht rfl [4,5,6,7,8,9,10,11,12,13,14,15,16] rfl ?_;obtain rfl:=oi fQ;refine CE ?_ (c7 _ _ ⟨c0,rfl,rfl,Ar,bN⟩);exact⟨rfl,rfl,rfl,rfl,rfl,rfl,trivial⟩
     ·refine JL.block (Cz e0 (fun bO=> [bX K f127 133]) (fun bO=> [(0,.slice (AY K) Z Y),(1,iV p1),(4,(fV 134)),(12,iV bO),(13,iV bd.2.1)]) Ar eX ?_);rintro bO de bC bP fR ⟨ho,cC⟩ fS;have df:=cC;unfold JM at df;refine zg 2 rfl (Dj 16 [K] ⟨⟨0,_,rfl⟩,trivial⟩ bP fun ht=>?_);refine A0 ht rfl [0,1,2,3] rfl ?_;obtain⟨fT,dg,fU⟩:=bs df;refine Ed 0 #[true,true,true,true,true,true,true,true,true,true,true,true,true,true,true,true] (fun L s=>∃(dh:LH),Jm de H dh [bX K f127 133] [(0,.slice (AY K) Z Y),(1,iV p1),(4,(fV 134)),(12,iV bO),(13,iV bd.2.1),(120,.bool fT)] L s) ?_ ?_
      ·rintro _ _ ⟨dh,rfl,rfl,di,dj⟩;refine AX.fin (by decide+kernel) (BJ fU (fun fW fX=>?_) (fun fW fY=>?_))
       ·obtain⟨fZ,ga,gb⟩:=bs fX;refine zg 4 rfl (Bc ga rfl rfl rfl ?_);refine zg 3 rfl ?_;obtain rfl:=oi gb;exact fS fZ (bC.Ac di) dj rfl cC
       ·refine JL.exit rfl ?_;obtain rfl:=oi fY;obtain rfl:=fR _ cC;exact e3 (bC.Ac di) dj rfl
      ·intro dk;refine Ft (q:=bO≤bd.2.1) (i:=108) rfl (fun cD=>?_) (fun cD=>?_)
       ·have gc:=ip dg cD;refine A0 ht rfl [4,5,6] rfl ?_;obtain⟨bD,dl,gd⟩:=bs gc;obtain⟨_,⟨_,_,rfl,rfl,⟨_,_,rfl,rfl,⟨dm,dn,rfl,ge⟩⟩⟩,gf⟩:=WL.at (ag.Ah bC) dl;refine BC 7 ht rfl rfl (fun ρ h s' hs=>Gx ((ag.Ah bC)).2 dl underlying130 AS (h _ _ rfl) (h _ _ rfl)) ?_;refine D4 8 ht [iV bD.1,iV bD.2.1,sV dm bD.2.2 dn] 0 bP gf Ct AS ?_;refine A0 ht rfl [9,10] rfl ?_;obtain⟨bE,dp,gg⟩:=bs gd;obtain⟨_,⟨_,_,rfl,rfl,⟨_,_,rfl,rfl,⟨dq,dr,rfl,gh⟩⟩⟩,gi⟩:=WL.at (ag.Ah bC) dp;refine BC 11 ht rfl rfl (fun ρ h s' hs=>Gx ((ag.Ah bC)).2 dp underlying130 AS (h _ _ rfl) (h _ _ rfl)) ?_;refine D4 12 ht [iV bE.1,iV bE.2.1,sV dq bE.2.2 dr] 0 bP gi Ct AS ?_;obtain⟨hp,gj,gk⟩:=bs gg;refine HP (i:=13) ⟨⟨0,_,rfl⟩,trivial⟩ (vs:= [.agg #[iV bD.1,iV bD.2.1,sV dm bD.2.2 dn],.agg #[iV bE.1,iV bE.2.1,sV dq bE.2.2 dr]]) (G4 ge gh gj) (by decide+kernel) rfl rfl rfl rfl GU rfl bP ?_;rintro _ gl _ gm ⟨rfl,rfl⟩ gn;refine A0 ht rfl [14,15] rfl ?_;obtain rfl:=oi gk;refine CE ?_ (dk _ _ ⟨gl,rfl,rfl,gm,gn⟩);exact⟨rfl,rfl,rfl,rfl,rfl,rfl,trivial⟩
       ·have gp:=im dg cD;refine A0 ht rfl [4,5,6,7,8,9,10,11,12,13,14,15] rfl ?_;obtain rfl:=oi gp;refine CE ?_ (dk _ _ ⟨de,rfl,rfl,Ar,bP⟩);exact⟨rfl,rfl,rfl,rfl,rfl,rfl,trivial⟩
  ·refine JL.block (Cz ej (fun bQ=> [bX K (A1 (A1 av (Int.toNat (p1)*3) [iV O.1,iV O.2.1,sV a0 O.2.2 c4]) (Int.toNat (p3)*3) [iV U.1,iV U.2.1,sV a1 U.2.2 a2]) 133]) (fun bQ=> [(0,.slice (AY K) Z Y),(1,iV p1),(4,(fV 134)),(12,iV bo),(13,iV bQ)]) Ar eh ?_);rintro bQ dt bF bR gq ⟨hq,cE⟩ gr;have du:=cE;unfold KS at du;refine zg 2 rfl (Dj 17 [K] ⟨⟨0,_,rfl⟩,trivial⟩ bR fun ht=>?_);refine A0 ht rfl [0,1,2,3] rfl ?_;obtain⟨gt,dv,gu⟩:=bs du;refine Ed 0 #[true,true,true,true,true,true,true,true,true,true,true,true,true,true,true,true,true] (fun L s=>∃(dw:LH),Jm dt H dw [bX K (A1 (A1 av (Int.toNat (p1)*3) [iV O.1,iV O.2.1,sV a0 O.2.2 c4]) (Int.toNat (p3)*3) [iV U.1,iV U.2.1,sV a1 U.2.2 a2]) 133] [(0,.slice (AY K) Z Y),(1,iV p1),(4,(fV 134)),(12,iV bo),(13,iV bQ),(66,.bool gt)] L s) ?_ ?_
   ·rintro _ _ ⟨dw,rfl,rfl,dx,dy⟩;refine AX.fin (by decide+kernel) (BJ gu (fun gv gw=>?_) (fun gv gx=>?_))
    ·obtain⟨gy,gz,gA⟩:=bs gw;refine zg 4 rfl (Cd gz rfl rfl rfl ?_);refine zg 3 rfl ?_;obtain rfl:=oi gA;exact gr gy (bF.Ac dx) dy rfl cE
    ·refine JL.exit rfl ?_;obtain rfl:=oi gx;obtain rfl:=gq _ cE;exact el (bF.Ac dx) dy rfl
   ·intro dz;refine Ft (q:=bo≤bQ) (i:=53) rfl (fun cF=>?_) (fun cF=>?_)
    ·have gB:=ip dv cF;refine A0 ht rfl [4,5,6] rfl ?_;obtain⟨bG,dA,gC⟩:=bs gB;obtain⟨_,⟨_,_,rfl,rfl,⟨_,_,rfl,rfl,⟨dB,dC,rfl,gD⟩⟩⟩,gE⟩:=WL.at (V.1.Ah (al.Ac bF)) dA;refine BC 7 ht rfl rfl (fun ρ h s' hs=>Gx ((V.1.Ah (al.Ac bF))).2 dA underlying130 AS (h _ _ rfl) (h _ _ rfl)) ?_;refine D4 8 ht [iV bG.1,iV bG.2.1,sV dB bG.2.2 dC] 0 bR gE Ct AS ?_;refine A0 ht rfl [9,10] rfl ?_;obtain⟨bH,dD,gF⟩:=bs gC;obtain⟨_,⟨_,_,rfl,rfl,⟨_,_,rfl,rfl,⟨dE,dF,rfl,gG⟩⟩⟩,gH⟩:=WL.at (V.1.Ah (al.Ac bF)) dD;refine BC 11 ht rfl rfl (fun ρ h s' hs=>Gx ((V.1.Ah (al.Ac bF))).2 dD underlying130 AS (h _ _ rfl) (h _ _ rfl)) ?_;refine D4 12 ht [iV bH.1,iV bH.2.1,sV dE bH.2.2 dF] 0 bR gH Ct AS ?_;obtain⟨gI,gJ,gK⟩:=bs gF;refine HP (i:=13) ⟨⟨0,_,rfl⟩,trivial⟩ (vs:= [.agg #[iV bG.1,iV bG.2.1,sV dB bG.2.2 dC],.agg #[iV bH.1,iV bH.2.1,sV dE bH.2.2 dF]]) (G4 gD gG gJ) (by decide+kernel) rfl rfl rfl rfl GU rfl bR ?_;rintro _ gL _ gM ⟨rfl,rfl⟩ gN;refine Cb 14 ht rfl rfl ?_;refine BC (v:= .bool (decide (¬(gI<0)))) 15 ht rfl rfl (fun ρ h s' hs=>I1 (h _ _ rfl)) ?_;refine Cb 16 ht rfl rfl ?_;obtain rfl:=oi gK;refine CE ?_ (dz _ _ ⟨gL,rfl,rfl,gM,gN⟩);exact⟨rfl,rfl,rfl,rfl,rfl,rfl,trivial⟩
    ·have gO:=im dv cF;refine A0 ht rfl [4,5,6,7,8,9,10,11,12,13,14,15,16] rfl ?_;obtain rfl:=oi gO;refine CE ?_ (dz _ _ ⟨dt,rfl,rfl,Ar,bR⟩);exact⟨rfl,rfl,rfl,rfl,rfl,rfl,trivial⟩
 ·refine JL.block (Cz ef (fun bS=> [bX K (A1 (A1 av (Int.toNat (p1)*3) [iV O.1,iV O.2.1,sV a0 O.2.2 c4]) (Int.toNat (p3)*3) [iV U.1,iV U.2.1,sV a1 U.2.2 a2]) 133]) (fun bS=> [(0,.slice (AY K) Z Y),(1,iV p1),(4,(fV 134)),(12,iV bS),(13,iV bV)]) Ar ea ?_);rintro bS dG bI bT gP ⟨hr,cG⟩ gQ;have dH:=cG;unfold KX at dH;refine zg 2 rfl (Dj 16 [K] ⟨⟨0,_,rfl⟩,trivial⟩ bT fun ht=>?_);refine A0 ht rfl [0,1,2,3] rfl ?_;obtain⟨gR,dI,gS⟩:=bs dH;refine Ed 0 #[true,true,true,true,true,true,true,true,true,true,true,true,true,true,true,true] (fun L s=>∃(dJ:LH),Jm dG H dJ [bX K (A1 (A1 av (Int.toNat (p1)*3) [iV O.1,iV O.2.1,sV a0 O.2.2 c4]) (Int.toNat (p3)*3) [iV U.1,iV U.2.1,sV a1 U.2.2 a2]) 133] [(0,.slice (AY K) Z Y),(1,iV p1),(4,(fV 134)),(12,iV bS),(13,iV bV),(47,.bool gR)] L s) ?_ ?_
  ·rintro _ _ ⟨dJ,rfl,rfl,dK,dL⟩;refine AX.fin (by decide+kernel) (BJ gS (fun gT gU=>?_) (fun gT gV=>?_))
   ·obtain⟨gW,gX,gY⟩:=bs gU;refine zg 4 rfl (Bc gX rfl rfl rfl ?_);refine zg 3 rfl ?_;obtain rfl:=oi gY;exact gQ gW (bI.Ac dK) dL rfl cG
   ·refine JL.exit rfl ?_;obtain rfl:=oi gV;obtain rfl:=gP _ cG;exact ei (bI.Ac dK) dL rfl
  ·intro dM;refine Ft (q:=bS≤bV) (i:=35) rfl (fun cH=>?_) (fun cH=>?_)
   ·have gZ:=ip dI cH;refine A0 ht rfl [4,5,6] rfl ?_;obtain⟨bJ,dN,g0⟩:=bs gZ;obtain⟨_,⟨_,_,rfl,rfl,⟨_,_,rfl,rfl,⟨dO,dP,rfl,g1⟩⟩⟩,g3⟩:=WL.at (V.1.Ah bI) dN;refine BC 7 ht rfl rfl (fun ρ h s' hs=>Gx ((V.1.Ah bI)).2 dN underlying130 AS (h _ _ rfl) (h _ _ rfl)) ?_;refine D4 8 ht [iV bJ.1,iV bJ.2.1,sV dO bJ.2.2 dP] 0 bT g3 Ct AS ?_;refine A0 ht rfl [9,10] rfl ?_;obtain⟨bK,dQ,g4⟩:=bs g0;obtain⟨_,⟨_,_,rfl,rfl,⟨_,_,rfl,rfl,⟨dR,dS,rfl,g5⟩⟩⟩,g6⟩:=WL.at (V.1.Ah bI) dQ;refine BC 11 ht rfl rfl (fun ρ h s' hs=>Gx ((V.1.Ah bI)).2 dQ underlying130 AS (h _ _ rfl) (h _ _ rfl)) ?_;refine D4 12 ht [iV bK.1,iV bK.2.1,sV dR bK.2.2 dS] 0 bT g6 Ct AS ?_;obtain⟨hu,g7,g8⟩:=bs g4;refine HP (i:=13) ⟨⟨0,_,rfl⟩,trivial⟩ (vs:= [.agg #[iV bJ.1,iV bJ.2.1,sV dO bJ.2.2 dP],.agg #[iV bK.1,iV bK.2.1,sV dR bK.2.2 dS]]) (G4 g1 g5 g7) (by decide+kernel) rfl rfl rfl rfl GU rfl bT ?_;rintro _ g9 _ ha ⟨rfl,rfl⟩ hb;refine A0 ht rfl [14,15] rfl ?_;obtain rfl:=oi g8;refine CE ?_ (dM _ _ ⟨g9,rfl,rfl,ha,hb⟩);exact⟨rfl,rfl,rfl,rfl,rfl,rfl,trivial⟩
   ·have hc:=im dI cH;refine A0 ht rfl [4,5,6,7,8,9,10,11,12,13,14,15] rfl ?_;obtain rfl:=oi hc;refine CE ?_ (dM _ _ ⟨dG,rfl,rfl,Ar,bT⟩);exact⟨rfl,rfl,rfl,rfl,rfl,rfl,trivial⟩
end Pal
namespace Pal
open Go Go.Conc Go.Proofs
open Go.Proofs.Tryz
variable {J:Judge Tryz.prog}{E:LH}
def Mo(fuel:Nat)(p0:List Bu)(p1:Int)(p2:Int)(p3:Int)(a8:Unit):Option (Bf Unit (((List Bu))⊕(Unit))):= (Au (p2 - p1)).bind fun Z=> if Z≤12 then((f178 fuel p0 p1 p2).bind fun ag=> some (.done (Sum.inl ag))) else(if p3=0 then(none) else((f181 fuel p0 p1 p2).bind fun O=> Option.bind (if O.2=2 then((f182 fuel p0 p1 p2).bind fun al=> (Au (p2 - 1)).bind fun am=> (Au (O.1 - p1)).bind fun ap=> (Au (am - ap)).bind fun av=> some (av,1,al)) else(some (O.1,O.2,p0))) fun K=> Option.bind (if K.2.1=1 then((f183 fuel K.2.2 p1 p2).bind fun U=> if U.1=true then(some (Sum.inl U.2)) else(some (Sum.inr U.2))) else(some (Sum.inr K.2.2))) fun a0=>Sum.elim (fun r=>some (.done (Sum.inl r))) (fun V=> Option.bind (if 0<p1 then((Au (p1 - 1)).bind fun a1=> (ix V a1).bind fun a2=> (ix V K.1).bind fun a3=> (f134 fuel a2 a3).bind fun a4=> some (decide (¬(a4<0)))) else(some false)) fun a5=> if a5=true then(none) else((f185 fuel V p1 p2 K.1).bind fun Y=> (Au (Y.1 - p1)).bind fun a6=> (Au (p2 - Y.1)).bind fun a7=> (HB Z (8)).bind fun a9=> if a6<a7 then(none) else((Au (Y.1+1)).bind fun bb=> none))) a0))
def IB(fuel:Nat)(p0:List Bu)(p1:Int)(p2:Int)(p3:Int):Option ((List Bu)):= Option.bind (iter (Mo fuel p0 p1 p2 p3) fuel ()) fun K=> Sum.elim (fun r=>some r) (fun O=> none) K
theorem RE{K:Nat}{O:Nat}{U:Nat}{a0:Array Value}{p0:List (Bu)}{p1:Int}{p2:Int}{p3:Int}(hW:WL 133 Cx E K O U a0 p0){fuel:Nat}{r:(List Bu)}(a6:IB fuel p0 p1 p2 p3=some r):AM J 162 [.slice (AY K) U O,iV p1,iV p2,iV p3,(fV 134)] E [(K,.cells a0 133 (0,0))] (fun w E' B'=>∃(a7:Array Value),w= .tuple #[]∧B'= [(K,.cells a7 133 (0,0))]∧WL 133 Cx E' K O U a7 r):=by
 refine A4 func162 fun Q dq cs H bP a8=>?_;unfold IB at a6;obtain⟨dr,bQ,a9⟩:=bs a6;refine zg 8 rfl (Bp (fun L s=>False) ?_ ?_)
 ·intro _ _ bR;exact bR.elim
 ·intro dt;refine JL.block (Cz bQ (fun bb=> [bX K a0 133]) (fun bb=> [(0,.slice (AY K) U O),(1,iV p1),(2,iV p2),(3,iV p3),(4,(fV 134)),(10,.bool true),(11,.bool true)]) Ar bP ?_);rintro bb du V bd be ⟨dv,a1⟩ dw;have bi:=a1;unfold Mo at bi;obtain⟨a2,bS,bT⟩:=bs bi;refine zg 5 rfl (Cd bS rfl rfl rfl ?_);refine zg 8 rfl (AL bT (fun bU bV=>?_) (fun bU bW=>?_))
  ·obtain⟨dx,bY,bZ⟩:=bs bV;refine zg 6 rfl (B9 0 (S4 (hW.Ah V) bY) rfl rfl N5 bd rfl ?_);rintro _ dy _ b0 ⟨f32,rfl,rfl,b1⟩ b2;refine JL.done ?_;obtain rfl:=oi bZ;obtain rfl:=be _ a1;have b3:=elim_inl a9;obtain rfl:=oi b3;exact AA func162 rfl rfl (a8 (V.Ac b0) rfl ⟨f32,rfl,(by first | rfl | simp | (simp [Value.cells])),b1⟩ b2)
  ·refine zg 7 rfl (AL bW (fun b4 b5=>?_) (fun b4 b6=>?_))
   ·refine zg 6 rfl ?_;cases b5
   ·refine zg 5 rfl (AE (v:= .bool false) rfl (fun ρ h=>Yl.not (c:=true) (h _ _ rfl)) ?_);obtain⟨dz,b7,b8⟩:=bs b6;refine zg 9 rfl (B9 0 (SB (hW.Ah V) b7) rfl rfl (AR func181 rfl) bd rfl ?_);rintro _ bo _ a3 ⟨rfl,rfl⟩ bv;obtain⟨Y,b9,ca⟩:=bs b8;refine zg 12 rfl (Bp (fun L s=>∃(al:LH) (f56:Array Value),Jn bo H al [bX K f56 133] [(0,.slice (AY K) U O),(1,iV p1),(2,iV p2),(3,iV p3),(4,(fV 134)),(10,.bool true),(11,.bool true),(12,iV a2),(13,iV Y.1),(14,iV Y.2.1)] L s (WL 133 Cx al K O U f56 Y.2.2)) ?_ ?_)
    ·rintro _ _ ⟨al,f56,rfl,rfl,cb,bw,bz⟩;obtain⟨cc,cd,bA⟩:=bs ca;refine zg 12 rfl (Bp (fun L s=>∃(a4:(List Bu)) (am:LH) (f65:Array Value),cc=Sum.inr a4∧Jn al H am [bX K f65 133] [(0,.slice (AY K) U O),(1,iV p1),(2,iV p2),(3,iV p3),(4,(fV 134)),(10,.bool true),(11,.bool true),(12,iV a2),(13,iV Y.1)] L s (WL 133 Cx am K O U f65 a4)) ?_ ?_)
     ·rintro _ _ ⟨a4,am,f65,rfl,rfl,rfl,dA,ap,av⟩;have ce:=elim_inr bA;refine zg 2 rfl (Dj 17 [K] ⟨⟨0,_,rfl⟩,trivial⟩ ap fun ht=>?_);refine A0 ht rfl [0,1,2] rfl ?_;obtain⟨cf,bB,cg⟩:=bs ce;refine Ed 0 #[true,true,true,true,true,true,true,true,true,true,true,true,true,true,true,true,true] (fun L s=>∃(bC:LH),Jm am H bC [bX K f65 133] [(0,.slice (AY K) U O),(1,iV p1),(2,iV p2),(3,iV p3),(4,(fV 134)),(10,.bool true),(11,.bool true),(12,iV a2),(13,iV Y.1),(97,.bool cf)] L s) ?_ ?_
      ·rintro _ _ ⟨bC,rfl,rfl,ci,ck⟩;refine AX.fin (by decide+kernel) (BJ cg (fun cm cn=>?_) (fun cm co=>?_))
       ·refine zg 7 rfl ?_;cases cn
       ·obtain⟨dB,cp,cq⟩:=bs co;refine zg 8 rfl (B9 0 (Sz (av.Ah ci) cp) rfl rfl (AR func185 rfl) ck rfl ?_);rintro _ dC _ dD ⟨f83,rfl,rfl,dE⟩ dF;obtain⟨dG,cr,ct⟩:=bs cq;refine zg 15 rfl (Cd cr rfl rfl rfl ?_);obtain⟨dH,cu,cv⟩:=bs ct;refine zg 2 rfl (Cd cu rfl rfl rfl ?_);obtain⟨cw,cy,cz⟩:=bs cv;refine zg 6 rfl (AE (v:=iV cw) rfl (fun ρ h=>K0 (h _ _ rfl) (h _ _ rfl) cy) ?_);refine zg 8 rfl (AL cz (fun cA cB=>?_) (fun cA cC=>?_))
        ·refine zg 14 rfl ?_;cases cB
        ·obtain⟨dI,cD,cE⟩:=bs cC;refine zg 11 rfl (Bc cD rfl rfl rfl ?_);refine zg 3 rfl ?_;cases cE
      ·intro bD;refine Ft (q:=0<p1) (i:=83) rfl (fun a5=>?_) (fun a5=>?_)
       ·have cF:=ip bB a5;refine A0 ht rfl [3,4,5] rfl ?_;obtain⟨dJ,cG,cH⟩:=bs cF;refine BC 6 ht rfl rfl (fun ρ h s' hs=>Dc (h _ _ rfl) (h _ _ rfl) cG) ?_;obtain⟨Z,bE,cI⟩:=bs cH;obtain⟨_,⟨_,_,rfl,rfl,⟨_,_,rfl,rfl,⟨bF,bG,rfl,cJ⟩⟩⟩,cK⟩:=WL.at av bE;refine F3 7 ht (av).2 bE underlying130 AS ?_;refine D4 8 ht [iV Z.1,iV Z.2.1,sV bF Z.2.2 bG] 0 ap cK Ct AS ?_;refine A0 ht rfl [9,10] rfl ?_;obtain⟨ag,bH,cM⟩:=bs cI;obtain⟨_,⟨_,_,rfl,rfl,⟨_,_,rfl,rfl,⟨bI,bJ,rfl,cN⟩⟩⟩,cO⟩:=WL.at av bH;refine F3 11 ht (av).2 bH underlying130 AS ?_;refine D4 12 ht [iV ag.1,iV ag.2.1,sV bI ag.2.2 bJ] 0 ap cO Ct AS ?_;obtain⟨cP,cQ,cR⟩:=bs cM;refine HP (i:=13) ⟨⟨0,_,rfl⟩,trivial⟩ (vs:= [.agg #[iV Z.1,iV Z.2.1,sV bF Z.2.2 bG],.agg #[iV ag.1,iV ag.2.1,sV bI ag.2.2 bJ]]) (G4 cJ cN cQ) (by decide+kernel) rfl rfl rfl rfl GU rfl ap ?_;rintro _ cT _ cV ⟨rfl,rfl⟩ cW;refine Cb 14 ht rfl rfl ?_;refine BC (v:= .bool (decide (¬(cP<0)))) 15 ht rfl rfl (fun ρ h s' hs=>I1 (h _ _ rfl)) ?_;refine Cb 16 ht rfl rfl ?_;obtain rfl:=oi cR;refine CE ?_ (bD _ _ ⟨cT,rfl,rfl,cV,cW⟩);exact⟨rfl,rfl,rfl,rfl,rfl,rfl,rfl,rfl,rfl,rfl,trivial⟩
       ·have cX:=im bB a5;refine A0 ht rfl [3,4,5,6,7,8,9,10,11,12,13,14,15,16] rfl ?_;obtain rfl:=oi cX;refine CE ?_ (bD _ _ ⟨am,rfl,rfl,Ar,ap⟩);exact⟨rfl,rfl,rfl,rfl,rfl,rfl,rfl,rfl,rfl,rfl,trivial⟩
     ·intro bK;refine AL cd (fun cY cZ=>?_) (fun cY c0=>?_)
      ·obtain⟨c1,c2,c3⟩:=bs cZ;refine zg 6 rfl (B9 0 (S3 bz c2) rfl rfl (AR func183 rfl) bw rfl ?_);rintro _ c4 _ bL ⟨f133,rfl,rfl,bM⟩ bN;refine JL.done (BJ c3 (fun c5 c6=>?_) (fun c5 c7=>?_))
       ·obtain rfl:=oi c6;have c8:=elim_inl bA;obtain rfl:=oi c8;obtain rfl:=be _ a1;have c9:=elim_inl a9;obtain rfl:=oi c9;exact AA func162 rfl rfl (a8 (((V.Ac a3).Ac cb).Ac bL) rfl ⟨f133,rfl,(by first | rfl | simp | (simp [Value.cells])),bM⟩ bN)
       ·exact JL.skip (Ax (bK _ _ ⟨c1.2,c4,f133,(Option.some.inj c7).symm,rfl,rfl,bL,bN,bM⟩) rfl)
      ·exact JL.skip (Ax (bK _ _ ⟨Y.2.2,al,f56,(Option.some.inj c0).symm,rfl,rfl,Ar,bw,bz⟩) rfl)
    ·intro bO;refine AL b9 (fun da db=>?_) (fun da dc=>?_)
     ·obtain⟨dK,dd,de⟩:=bs db;refine zg 6 rfl (B9 0 (SZ (hW.Ah (V.Ac a3)) dd) rfl rfl (AR func182 rfl) bv rfl ?_);rintro _ df _ dg ⟨f156,rfl,rfl,dh⟩ di;obtain⟨dL,dj,dk⟩:=bs de;refine zg 4 rfl (Cd dj rfl rfl rfl ?_);obtain⟨dM,dl,dm⟩:=bs dk;refine zg 2 rfl (Cd dl rfl rfl rfl ?_);obtain⟨dN,dn,dp⟩:=bs dm;refine Cd dn rfl rfl rfl (zg 5 rfl ?_);obtain rfl:=oi dp;exact Ax (bO _ _ ⟨df,f156,rfl,rfl,dg,di,dh⟩) rfl
     ·refine JL.skip ?_;obtain rfl:=oi dc;exact Ax (bO _ _ ⟨bo,a0,rfl,rfl,Ar,bv,(hW.Ah (V.Ac a3))⟩) rfl
def Hr(fuel:Nat)(p3:Int)(K:Int×Int×Bool×Bool×(List Bu)):Option (Bf (Int×Int×Bool×Bool×(List Bu)) (((List Bu))⊕(Unit))):= Option.bind ((Au (K.2.1 - K.1)).bind fun al=> if al≤12 then((f178 fuel K.2.2.2.2 K.1 K.2.1).bind fun a0=> some (Sum.inl a0)) else(if p3=0 then(none) else(Option.bind (if(!K.2.2.1)=true then(none) else(some ())) fun bB=> (f181 fuel K.2.2.2.2 K.1 K.2.1).bind fun V=> Option.bind (if V.2=2 then((f182 fuel K.2.2.2.2 K.1 K.2.1).bind fun a1=> (Au (K.2.1 - 1)).bind fun a2=> (Au (V.1 - K.1)).bind fun a3=> (Au (a2 - a3)).bind fun a4=> some (a4,1,a1)) else(some (V.1,V.2,K.2.2.2.2))) fun U=> Option.bind (if K.2.2.1=true then(some K.2.2.2.1) else(some false)) fun a5=> Option.bind (if a5=true then(some (decide (U.2.1=1))) else(some false)) fun a6=> Option.bind (if a6=true then((f183 fuel U.2.2 K.1 K.2.1).bind fun Z=> if Z.1=true then(some (Sum.inl Z.2)) else(some (Sum.inr Z.2))) else(some (Sum.inr U.2.2))) fun a7=>Sum.elim (fun r=>some (Sum.inl r)) (fun ag=> Option.bind (if 0<K.1 then((Au (K.1 - 1)).bind fun a8=> (ix ag a8).bind fun a9=> (ix ag U.1).bind fun bb=> (f134 fuel a9 bb).bind fun bd=> some (decide (¬(bd<0)))) else(some false)) fun be=> if be=true then(none) else((f185 fuel ag K.1 K.2.1 U.1).bind fun O=> (Au (O.1 - K.1)).bind fun am=> (Au (K.2.1 - O.1)).bind fun ap=> (HB al (8)).bind fun av=> Option.bind (if am<ap then((IB fuel O.2.2 K.1 O.1 p3).bind fun bi=> (Au (O.1+1)).bind fun bo=> some (bo,K.2.1,decide (av≤am),bi)) else((Au (O.1+1)).bind fun bv=> (IB fuel O.2.2 bv K.2.1 p3).bind fun bw=> some (K.1,O.1,decide (av≤ap),bw))) fun Y=> some (Sum.inr (Y.1,Y.2.1,Y.2.2.1,O.2.1,Y.2.2.2)))) a7))) fun bz=>Sum.elim (fun r=>some (.done (Sum.inl r))) (fun bA=> some (.more bA)) bz
def f162(fuel:Nat)(p0:List Bu)(p1:Int)(p2:Int)(p3:Int):Option ((List Bu)):= Option.bind (iter (Hr fuel p3) fuel (p1,p2,true,true,p0)) fun K=> Sum.elim (fun r=>some r) (fun O=> none) K
theorem Y3{O:Nat}{U:Nat}{V:Nat}{be:Array Value}{p0:List (Bu)}{p1:Int}{p2:Int}{p3:Int}(hW:WL 133 Cx E O U V be p0){fuel:Nat}{r:(List Bu)}(bB:f162 fuel p0 p1 p2 p3=some r):AM J 162 [.slice (AY O) V U,iV p1,iV p2,iV p3,(fV 134)] E [(O,.cells be 133 (0,0))] (fun w E' B'=>∃(bC:Array Value),w= .tuple #[]∧B'= [(O,.cells bC 133 (0,0))]∧WL 133 Cx E' O U V bC r):=by
 refine A4 func162 fun Q eN cs H cc bD=>?_;unfold f162 at bB;obtain⟨eO,cd,bE⟩:=bs bB;refine zg 8 rfl (Bp (fun L s=>False) ?_ ?_)
 ·intro _ _ ce;exact ce.elim
 ·intro eP;refine JL.block (CP cd (fun L s K=>∃(a3:LH) (f22:Array Value),Jn E H a3 [bX O f22 133] [(0,.slice (AY O) V U),(1,iV K.1),(2,iV K.2.1),(3,iV p3),(4,(fV 134)),(10,.bool K.2.2.1),(11,.bool K.2.2.2.1)] L s (WL 133 Cx a3 O U V f22 K.2.2.2.2)) ⟨E,be,rfl,rfl,Ar,cc,hW⟩ ?_);rintro _ _ K ⟨a3,f22,rfl,rfl,bi,bF,a4⟩ bG ⟨eQ,a5⟩ cf;have bH:=a5;unfold Hr at bH;obtain⟨cg,ci,bo⟩:=bs bH;refine Bp (fun L s=>∃(Z:Int×Int×Bool×Bool×(List Bu)) (a6:LH) (f36:Array Value),cg=Sum.inr Z∧Jn a3 H a6 [bX O f36 133] [(0,.slice (AY O) V U),(1,iV Z.1),(2,iV Z.2.1),(3,iV p3),(4,(fV 134)),(10,.bool Z.2.2.1),(11,.bool Z.2.2.2.1)] L s (WL 133 Cx a6 O U V f36 Z.2.2.2.2)) ?_ ?_
  ·rintro _ _ ⟨Z,a6,f36,rfl,rfl,rfl,ck,cm,cn⟩;have co:=elim_inr bo;obtain rfl:=oi co;exact Ax (cf _ _ Z ⟨a6,f36,rfl,rfl,(bi.Ac ck),cm,cn⟩ a5) rfl
  ·intro cp;obtain⟨al,cq,cr⟩:=bs ci;refine zg 5 rfl (Cd cq rfl rfl rfl ?_);refine zg 8 rfl (AL cr (fun ct cu=>?_) (fun ct cv=>?_))
   ·obtain⟨eR,cw,cy⟩:=bs cu;refine zg 6 rfl (B9 0 (S4 a4 cw) rfl rfl N5 bF rfl ?_);rintro _ eS _ cz ⟨f52,rfl,rfl,cA⟩ cB;refine JL.done ?_;obtain rfl:=oi cy;have cC:=elim_inl bo;obtain rfl:=oi cC;obtain rfl:=bG _ a5;have cD:=elim_inl bE;obtain rfl:=oi cD;exact AA func162 rfl rfl (bD (bi.Ac cz) rfl ⟨f52,rfl,(by first | rfl | simp | (simp [Value.cells])),cA⟩ cB)
   ·refine zg 7 rfl (AL cv (fun cE cF=>?_) (fun cE cG=>?_))
    ·refine zg 6 rfl ?_;cases cF
    ·refine zg 5 rfl (AE (v:= .bool (!K.2.2.1)) rfl (fun ρ h=>Yl.not (h _ _ rfl)) ?_);obtain⟨eT,cH,cI⟩:=bs cG;refine JL.done (C4 [bX O f22 133] [(0,.slice (AY O) V U),(1,iV K.1),(2,iV K.2.1),(3,iV p3),(4,(fV 134)),(10,.bool K.2.2.1),(11,.bool K.2.2.2.1),(12,iV al)] (fun eU av cJ=>?_) (fun cK=>?_))
     ·obtain⟨eV,cM,cN⟩:=bs cI;refine zg 6 rfl (B9 0 (SB (a4.Ah av) cM) rfl rfl (AR func181 rfl) cJ rfl ?_);rintro _ bI _ a7 ⟨rfl,rfl⟩ bJ;obtain⟨Y,cO,cP⟩:=bs cN;refine zg 12 rfl (Bp (fun L s=>∃(bv:LH) (f84:Array Value),Jn bI H bv [bX O f84 133] [(0,.slice (AY O) V U),(1,iV K.1),(2,iV K.2.1),(3,iV p3),(4,(fV 134)),(10,.bool K.2.2.1),(11,.bool K.2.2.2.1),(12,iV al),(13,iV Y.1),(14,iV Y.2.1)] L s (WL 133 Cx bv O U V f84 Y.2.2)) ?_ ?_)
      ·rintro _ _ ⟨bv,f84,rfl,rfl,bK,bL,bM⟩;obtain⟨cQ,cR,cT⟩:=bs cP;refine zg 5 rfl (Dp 4 4 [bX O f84 133] [(0,.slice (AY O) V U),(1,iV K.1),(2,iV K.2.1),(3,iV p3),(4,(fV 134)),(10,.bool K.2.2.1),(11,.bool K.2.2.2.1),(12,iV al),(13,iV Y.1),(14,iV Y.2.1),(71,.bool cQ)] (fun bw a8 bN=>?_) (fun bO=>?_))
       ·obtain⟨cV,cW,cX⟩:=bs cT;refine zg 1 rfl (ED [] (fun L s=>∃(a9:LH),Jm bw H a9 [bX O f84 133] [(0,.slice (AY O) V U),(1,iV K.1),(2,iV K.2.1),(3,iV p3),(4,(fV 134)),(10,.bool K.2.2.1),(11,.bool K.2.2.2.1),(12,iV al),(13,iV Y.1),(75,.bool cV)] L s) ?_ ?_)
        ·rintro _ _ ⟨a9,rfl,rfl,bb,bP⟩;obtain⟨cY,cZ,bQ⟩:=bs cX;refine JL.done (Bp (fun L s=>∃(bz:(List Bu)) (a0:LH) (f105:Array Value),cY=Sum.inr bz∧Jn a9 H a0 [bX O f105 133] [(0,.slice (AY O) V U),(1,iV K.1),(2,iV K.2.1),(3,iV p3),(4,(fV 134)),(10,.bool K.2.2.1),(11,.bool K.2.2.2.1),(12,iV al),(13,iV Y.1)] L s (WL 133 Cx a0 O U V f105 bz)) ?_ ?_)
         ·rintro _ _ ⟨bz,a0,f105,rfl,rfl,rfl,c0,a1,a2⟩;have c1:=elim_inr bQ;refine zg 2 rfl (Dj 17 [O] ⟨⟨0,_,rfl⟩,trivial⟩ a1 fun ht=>?_);refine A0 ht rfl [0,1,2] rfl ?_;obtain⟨c2,bR,c3⟩:=bs c1;refine Ed 0 #[true,true,true,true,true,true,true,true,true,true,true,true,true,true,true,true,true] (fun L s=>∃(bS:LH),Jm a0 H bS [bX O f105 133] [(0,.slice (AY O) V U),(1,iV K.1),(2,iV K.2.1),(3,iV p3),(4,(fV 134)),(10,.bool K.2.2.1),(11,.bool K.2.2.2.1),(12,iV al),(13,iV Y.1),(97,.bool c2)] L s) ?_ ?_
          ·rintro _ _ ⟨bS,rfl,rfl,bT,c4⟩;refine AX.fin (by decide+kernel) (BJ c3 (fun c5 c6=>?_) (fun c5 c7=>?_))
           ·refine zg 7 rfl ?_;cases c6
           ·obtain⟨bU,c8,c9⟩:=bs c7;refine zg 8 rfl (B9 0 (Sz (a2.Ah bT) c8) rfl rfl (AR func185 rfl) c4 rfl ?_);rintro _ da _ db ⟨f123,rfl,rfl,bV⟩ bW;obtain⟨eW,dc,dd⟩:=bs c9;refine zg 15 rfl (Cd dc rfl rfl rfl ?_);obtain⟨eX,de,df⟩:=bs dd;refine zg 2 rfl (Cd de rfl rfl rfl ?_);obtain⟨dg,dh,di⟩:=bs df;refine zg 6 rfl (AE (v:=iV dg) rfl (fun ρ h=>K0 (h _ _ rfl) (h _ _ rfl) dh) ?_);obtain⟨ag,dj,dk⟩:=bs di;refine zg 8 rfl (Bp (fun L s=>∃(bd:LH) (f138:Array Value),Jn da H bd [bX O f138 133] [(0,.slice (AY O) V U),(1,iV ag.1),(2,iV ag.2.1),(3,iV p3),(4,(fV 134)),(10,.bool ag.2.2.1),(11,.bool bU.2.1)] L s (WL 133 Cx bd O U V f138 ag.2.2.2)) ?_ ?_)
            ·rintro _ _ ⟨bd,f138,rfl,rfl,dl,dm,dn⟩;exact Ma (Ax (cp _ _ ⟨(ag.1,ag.2.1,ag.2.2.1,bU.2.1,ag.2.2.2),bd,f138,(Option.some.inj dk).symm,rfl,rfl,((((((((av.Ac a7).Ac bK).Ac a8).Ac bb).Ac c0).Ac bT).Ac db).Ac dl),dm,dn⟩) rfl)
            ·intro bY;refine AL dj (fun dp dq=>?_) (fun dp dr=>?_)
             ·obtain⟨eY,dt,du⟩:=bs dq;refine zg 14 rfl (B9 0 (RE bV dt) rfl rfl LZ bW rfl ?_);rintro _ dv _ dw ⟨f150,rfl,rfl,dx⟩ dy;obtain⟨eZ,dz,dA⟩:=bs du;refine zg 3 rfl (Bc dz rfl rfl rfl ?_);refine zg 2 rfl ?_;obtain rfl:=oi dA;exact Ax (bY _ _ ⟨dv,f150,rfl,rfl,dw,dy,dx⟩) rfl
             ·obtain⟨e0,dB,dC⟩:=bs dr;refine zg 11 rfl (Bc dB rfl rfl rfl ?_);obtain⟨e1,dD,dE⟩:=bs dC;refine zg 3 rfl (B9 0 (RE bV dD) rfl rfl LZ bW rfl ?_);rintro _ dF _ dG ⟨f165,rfl,rfl,dH⟩ dI;refine zg 5 rfl ?_;obtain rfl:=oi dE;exact Ax (bY _ _ ⟨dF,f165,rfl,rfl,dG,dI,dH⟩) rfl
          ·intro bZ;refine Ft (q:=0<K.1) (i:=83) rfl (fun bA=>?_) (fun bA=>?_)
           ·have dJ:=ip bR bA;refine A0 ht rfl [3,4,5] rfl ?_;obtain⟨e2,dK,dL⟩:=bs dJ;refine BC 6 ht rfl rfl (fun ρ h s' hs=>Dc (h _ _ rfl) (h _ _ rfl) dK) ?_;obtain⟨am,b0,dM⟩:=bs dL;obtain⟨_,⟨_,_,rfl,rfl,⟨_,_,rfl,rfl,⟨b1,b2,rfl,dN⟩⟩⟩,dO⟩:=WL.at a2 b0;refine F3 7 ht (a2).2 b0 underlying130 AS ?_;refine D4 8 ht [iV am.1,iV am.2.1,sV b1 am.2.2 b2] 0 a1 dO Ct AS ?_;refine A0 ht rfl [9,10] rfl ?_;obtain⟨ap,b3,dP⟩:=bs dM;obtain⟨_,⟨_,_,rfl,rfl,⟨_,_,rfl,rfl,⟨b4,b5,rfl,dQ⟩⟩⟩,dR⟩:=WL.at a2 b3;refine F3 11 ht (a2).2 b3 underlying130 AS ?_;refine D4 12 ht [iV ap.1,iV ap.2.1,sV b4 ap.2.2 b5] 0 a1 dR Ct AS ?_;obtain⟨dS,dT,dU⟩:=bs dP;refine HP (i:=13) ⟨⟨0,_,rfl⟩,trivial⟩ (vs:= [.agg #[iV am.1,iV am.2.1,sV b1 am.2.2 b2],.agg #[iV ap.1,iV ap.2.1,sV b4 ap.2.2 b5]]) (G4 dN dQ dT) (by decide+kernel) rfl rfl rfl rfl GU rfl a1 ?_;rintro _ dV _ dW ⟨rfl,rfl⟩ dX;refine Cb 14 ht rfl rfl ?_;refine BC (v:= .bool (decide (¬(dS<0)))) 15 ht rfl rfl (fun ρ h s' hs=>I1 (h _ _ rfl)) ?_;refine Cb 16 ht rfl rfl ?_;obtain rfl:=oi dU;refine CE ?_ (bZ _ _ ⟨dV,rfl,rfl,dW,dX⟩);exact⟨rfl,rfl,rfl,rfl,rfl,rfl,rfl,rfl,rfl,rfl,trivial⟩
           ·have dY:=im bR bA;refine A0 ht rfl [3,4,5,6,7,8,9,10,11,12,13,14,15,16] rfl ?_;obtain rfl:=oi dY;refine CE ?_ (bZ _ _ ⟨a0,rfl,rfl,Ar,a1⟩);exact⟨rfl,rfl,rfl,rfl,rfl,rfl,rfl,rfl,rfl,rfl,trivial⟩
         ·intro b6;refine BJ cZ (fun dZ ea=>?_) (fun dZ eb=>?_)
          ·obtain⟨ec,ed,ee⟩:=bs ea;refine zg 6 rfl (B9 0 (S3 (bM.Ah (a8.Ac bb)) ed) rfl rfl (AR func183 rfl) bP rfl ?_);rintro _ ef _ b7 ⟨f205,rfl,rfl,b8⟩ b9;refine JL.done (BJ ee (fun eg eh=>?_) (fun eg ei=>?_))
           ·obtain rfl:=oi eh;have ej:=elim_inl bQ;obtain rfl:=oi ej;have ek:=elim_inl bo;obtain rfl:=oi ek;obtain rfl:=bG _ a5;have el:=elim_inl bE;obtain rfl:=oi el;exact AA func162 rfl rfl (bD ((((((bi.Ac av).Ac a7).Ac bK).Ac a8).Ac bb).Ac b7) rfl ⟨f205,rfl,(by first | rfl | simp | (simp [Value.cells])),b8⟩ b9)
           ·exact JL.skip (Ax (b6 _ _ ⟨ec.2,ef,f205,(Option.some.inj ei).symm,rfl,rfl,b7,b9,b8⟩) rfl)
          ·exact JL.skip (Ax (b6 _ _ ⟨Y.2.2,a9,f84,(Option.some.inj eb).symm,rfl,rfl,Ar,bP,(bM.Ah (a8.Ac bb))⟩) rfl)
        ·intro ca;refine Dy 72 cW (fun em en=>?_) (fun em eo=>?_)
         ·refine zg 3 rfl ?_;obtain rfl:=oi en;exact Ax (ca _ _ ⟨bw,rfl,rfl,Ar,bN⟩) rfl
         ·refine zg 3 rfl ?_;obtain rfl:=oi eo;exact Ax (ca _ _ ⟨bw,rfl,rfl,Ar,bN⟩) rfl
       ·refine Dy 69 cR (fun ep eq=>?_) (fun ep er=>?_)
        ·refine zg 2 rfl ?_;obtain rfl:=oi eq;exact bO Ar bL rfl
        ·refine zg 2 rfl ?_;obtain rfl:=oi er;exact bO Ar bL rfl
      ·intro cb;refine AL cO (fun et eu=>?_) (fun et ew=>?_)
       ·obtain⟨e3,ex,ey⟩:=bs eu;refine zg 6 rfl (B9 0 (SZ (a4.Ah (av.Ac a7)) ex) rfl rfl (AR func182 rfl) bJ rfl ?_);rintro _ ez _ eA ⟨eB,rfl,rfl,eC⟩ eD;obtain⟨e4,eE,eF⟩:=bs ey;refine zg 4 rfl (Cd eE rfl rfl rfl ?_);obtain⟨e5,eG,eH⟩:=bs eF;refine zg 2 rfl (Cd eG rfl rfl rfl ?_);obtain⟨e6,eI,eJ⟩:=bs eH;refine Cd eI rfl rfl rfl (zg 5 rfl ?_);obtain rfl:=oi eJ;exact Ax (cb _ _ ⟨ez,eB,rfl,rfl,eA,eD,eC⟩) rfl
       ·refine JL.skip ?_;obtain rfl:=oi ew;exact Ax (cb _ _ ⟨bI,f22,rfl,rfl,Ar,bJ,(a4.Ah (av.Ac a7))⟩) rfl
     ·refine BJ cH (fun eK eL=>?_) (fun eK eM=>?_)
      ·refine zg 6 rfl ?_;cases eL
      ·refine JL.skip ?_;obtain rfl:=oi eM;exact cK Ar bF rfl
def f133(fuel:Nat)(p0:List Bu):Option ((List Bu)):= (f163 fuel (Dh (p0.length:Int))).bind fun K=> (f162 fuel p0 0 (p0.length:Int) K).bind fun O=> some O
theorem Z2{K:Nat}{O:Nat}{U:Nat}{V:Array Value}{p0:List (Bu)}(hW:WL 133 Cx E K O U V p0){fuel:Nat}{r:(List Bu)}(Y:f133 fuel p0=some r):AM J 133 [.slice (AY K) U O,(fV 134)] E [(K,.cells V 133 (0,0))] (fun w E' B'=>∃(Z:Array Value),w= .tuple #[]∧B'= [(K,.cells Z 133 (0,0))]∧WL 133 Cx E' K O U Z r):=by
 refine A4 func133 fun Q a6 cs H al am=>?_;unfold f133 at Y;refine zg 3 rfl (AE (v:=iV (p0.length:Int)) rfl (fun ρ h=>RA (hW).2 rfl underlying130 (h _ _ rfl)) ?_);refine zg 6 rfl (AE (v:= .int .u64 ((Dh (p0.length:Int):Nat):Int)) rfl (fun ρ h=>Yl.Dh underlying3 underlying156 (h _ _ rfl)) ?_);obtain⟨a7,ap,av⟩:=bs Y;refine BF (S1 ap) rfl rfl (AR func163 rfl) al fun a8 ag a0=>?_;obtain⟨a9,a1,a2⟩:=bs av;refine zg 1 rfl (B9 0 (Y3 (hW.Ah ag) a1) rfl rfl LZ a0 rfl ?_);rintro _ bb _ a3 ⟨f12,rfl,rfl,a4⟩ a5;refine JL.done ?_;obtain rfl:=oi a2;exact JL.fin (v:= .tuple #[]) rfl rfl (Cs.list func133 rfl (vs:= []) trivial) (am (ag.Ac a3) rfl ⟨f12,rfl,(by first | rfl | simp | (simp [Value.cells])),a4⟩ a5)
end Pal
namespace Pal
def AZ{α:Type}(o:Option α)(Q:α→Prop):Prop:=∃a,o=some a∧Q a
section
variable {α β:Type}{Q R:α→Prop}
theorem Ak{a:α}(h:Q a):AZ (some a) Q:=⟨a,rfl,h⟩
theorem AZ.Ah{o:Option α}(h:AZ o R)(k:∀a,R a→Q a):AZ o Q:=let ⟨a,K,O⟩:=h;⟨a,K,k a O⟩
theorem AZ.of_eq{o:Option α}{a:α}(h:o=some a)(k:Q a):AZ o Q:=⟨a,h,k⟩
theorem AD{o:Option β}{f:β→Option α}{S:β→Prop}(h:AZ o S)(k:∀b,S b→AZ (f b) Q):AZ (o.bind f) Q:=by
 obtain⟨b,rfl,hb⟩:=h;obtain⟨a,K,O⟩:=k b hb;exact⟨a,K,O⟩
theorem AO{o:Option β}{f:β→Option α}{b:β}(h:o=some b)(k:AZ (f b) Q):AZ (o.bind f) Q:=by subst h;exact k
theorem AZ.bu{f:Int→Option α}{x:Int}(K: -9223372036854775808≤x)(O:x≤9223372036854775807)(k:AZ (f x) Q):AZ ((Au x).bind f) Q:=AO (if_pos ⟨K,O⟩) k
theorem DC{xs:List β}{i:Int}{m:Nat}{b:β}(h:i=(m:Int))(hb:xs[m]? =some b):ix xs i=some b:=by subst h;simpa [ix] using hb
theorem Bl{f:β→Option α}{xs:List β}{i:Int}{m:Nat}(h:i=(m:Int))(hm:m<xs.length)(k:AZ (f xs[m]) Q):AZ ((ix xs i).bind f) Q:=AO (DC h (List.getElem?_eq_getElem hm)) k
theorem IN{f:List β→Option α}{xs:List β}{x:β}(h:xs.length+1≤2 ^ 40)(k:AZ (f (xs++ [x])) Q):AZ ((room xs x).bind f) Q:=AO (if_pos h) k
theorem Bn{c:Prop} [Decidable c] {x y:Option α}(K:c→AZ x Q)(O:¬c→AZ y Q):AZ (if c then x else y) Q:=by
 by_cases h:c
 ·rw [if_pos h];exact K h
 ·rw [if_neg h];exact O h
theorem Br{c:Prop} [Decidable c] {x y:Option α}(h:c)(k:AZ x Q):AZ (if c then x else y) Q:=by rw [if_pos h];exact k
theorem A9{c:Prop} [Decidable c] {x y:Option α}(h:¬c)(k:AZ y Q):AZ (if c then x else y) Q:=by rw [if_neg h];exact k
def Bf.sat{S A:Type}(I:S→Prop)(Q:A→Prop):Bf S A→Prop
 | .more s=>I s
 | .done a=>Q a
theorem Mv{S:Type}{body:S→Option (Bf S α)}(I:Nat→S→Prop)(round:∀m s,I m s→AZ (body s) (Bf.sat (fun s'=>∃m',m'<m∧I m' s') Q)):
  ∀{m fuel:Nat} {s:S},I m s→m<fuel→AZ (iter body fuel s) Q:=by
 intro m
 induction m using Nat.strongRecOn with
 | _ m O=>
  intro fuel s U ag;obtain⟨fuel,rfl⟩:∃k,fuel=k+1:=⟨fuel - 1,by omega⟩;obtain⟨st,V,K⟩:=round m s U;unfold Pal.iter;rw [V];cases st with
  | more s'=>
   obtain⟨m',Y,Z⟩:=K;exact O m' Y Z (by omega)
  | done a=>exact⟨a,rfl,K⟩
end
end Pal
namespace Pal
open Go.Sort
abbrev PT:=Int×Int×(List (Int×(List Int)×Nat))
def AN(x y:PT):Bool:=decide (x.1<y.1)
theorem MQ:SWO AN:=⟨fun x=>by simp [AN],fun x y z K O=>by simp [AN] at*;omega,fun x y z K O=>by simp [AN] at*;omega⟩
def KO(xs:List PT):Prop:=∀x∈xs,0≤x.1∧x.1≤1000
theorem KN{fuel:Nat}{x y:PT}(K:0≤x.1∧x.1≤1000)(O:0≤y.1∧y.1≤1000):f134 fuel x y=some (x.1 - y.1):=by
 unfold f134;rw [show Au (x.1 - y.1)=some (x.1 - y.1) from if_pos (by omega)];rfl
theorem JI(x y:PT):decide (x.1 - y.1<0)=AN x y:=by unfold AN;congr 1;apply propext;omega
theorem KO.get{xs:List PT}(h:KO xs){i:Nat}(hi:i<xs.length):0≤xs[i].1∧xs[i].1≤1000:=h _ (List.getElem_mem hi)
theorem KO.set{xs:List PT}(h:KO xs){i:Nat}{x:PT}(K:0≤x.1∧x.1≤1000):KO (xs.set i x):=fun y O=>by
 rcases List.mem_or_eq_of_mem_set O with q | q
 ·exact h y q
 ·subst q;exact K
theorem IW{xs:List PT}{i j:Nat}(hi:i<xs.length)(K:j<xs.length):((xs.set i xs[j]).set j xs[i]).toArray=swp xs.toArray i j:=by
 unfold swp;rw [show xs.toArray[j]! =xs[j] by simp [getElem!_pos,K],show xs.toArray[i]! =xs[i] by simp [getElem!_pos,hi]];simp
theorem Gy{xs:List PT}{i:Nat}(hi:i<xs.length):xs.toArray[i]! =xs[i]:=by simp [getElem!_pos,hi]
section
variable {α:Type}{Q:α→Prop}
theorem AV{f:Int→Option α}{x:Int}(y:Int)(h:x=y)(K: -9223372036854775808≤y)(O:y≤9223372036854775807)(k:AZ (f y) Q):AZ ((Au x).bind f) Q:=by subst h;exact AZ.bu K O k
end
theorem Xj{F:Nat}(a:Nat):∀(j fuel:Nat) (xs:List PT),j<fuel→j<xs.length→xs.length<1000→KO xs→
  AZ (iter (JE F (a:Int)) fuel ((j:Int),xs)) (fun ys=>ys.toArray=insInner AN a j xs.toArray∧KO ys∧ys.length=xs.length):=by
 intro j
 induction j with
 | zero=>
  intro fuel xs al U Z K;obtain⟨fuel,rfl⟩:∃k,fuel=k+1:=⟨fuel - 1,by omega⟩;refine⟨xs,?_,rfl,K,rfl⟩;have am:¬((a:Int)<0):=by omega
  simp [iter,JE,am]
 | succ j ap=>
  intro fuel xs al U Z K;obtain⟨fuel,rfl⟩:∃k,fuel=k+1:=⟨fuel - 1,by omega⟩;have O:j<xs.length:=by omega
  have av:AZ (JE F (a:Int) (((j+1:Nat):Int),xs)) (fun st=>st=if(decide (j+1>a)&&AN xs[j+1] xs[j])=true then .more ((j:Int),(xs.set (j+1) xs[j]).set j xs[j+1]) else .done xs):=by
   unfold JE;refine AD (S:=fun c=>c=(decide (j+1>a)&&AN xs[j+1] xs[j])) ?_ ?_
   ·refine Bn (fun h=>?_) (fun h=>?_)
    ·have Y:a<j+1:=by simp at h;omega
     refine Bl (m:=j+1) rfl U (AV (j:Int) (by simp) (by omega) (by omega) ?_);refine Bl (m:=j) rfl O (AO (KN (K.get U) (K.get O)) ?_);refine Ak ?_;rw [JI];simp [Y]
    ·have Y:¬a<j+1:=by simp at h;omega
     refine Ak ?_;simp [Y]
   ·rintro c rfl;refine Bn (fun h=>?_) (fun h=>?_)
    ·refine AV (j:Int) (by simp) (by omega) (by omega) (AV (j:Int) (by simp) (by omega) (by omega) ?_);refine Bl (m:=j) rfl O (Bl (m:=j+1) rfl U ?_);refine AO (b:=(xs.set (j+1) xs[j])[j]'(by simpa using O)) (DC rfl (List.getElem?_eq_getElem _)) ?_;refine AV (j:Int) (by simp) (by omega) (by omega) (Ak ?_);rw [if_pos h];simp
    ·refine Ak ?_;rw [if_neg h]
  obtain⟨st,a0,rfl⟩:=av;unfold iter;rw [a0];have V:insInner AN a (j+1) xs.toArray=if(decide (j+1>a)&&AN xs[j+1] xs[j])=true then insInner AN a j (swp xs.toArray (j+1) j) else xs.toArray:=by
   rw [insInner,Gy U,Gy O]
  by_cases ag:(decide (j+1>a)&&AN xs[j+1] xs[j])=true
  ·rw [if_pos ag] at V ⊢;have a1:KO ((xs.set (j+1) xs[j]).set j xs[j+1]):=(K.set (K.get O)).set (K.get U);refine(ap fuel ((xs.set (j+1) xs[j]).set j xs[j+1]) (by omega) (by simpa using O) (by simpa using Z) a1).Ah ?_;rintro ys ⟨a2,a3,a4⟩;refine⟨?_,a3,by simpa using a4⟩;rw [a2,IW U O,V]
  ·rw [if_neg ag] at V ⊢;exact⟨xs,rfl,V.symm,K,rfl⟩
theorem Wl{F:Nat}(a b:Nat)(av:2000<F):∀(m i fuel:Nat) (xs:List PT),b - i=m→m<fuel→b≤xs.length→xs.length<1000→KO xs→
  AZ (iter (I2 F (a:Int) (b:Int)) fuel ((i:Int),xs)) (fun ys=>ys.toArray=insOuter AN a b i xs.toArray∧KO ys∧ys.length=xs.length):=by
 intro m
 induction m with
 | zero=>
  intro i fuel xs hm Y hb V O;obtain⟨fuel,rfl⟩:∃k,fuel=k+1:=⟨fuel - 1,by omega⟩;have U:¬i<b:=by omega
  have K:AZ (I2 F (a:Int) (b:Int) ((i:Int),xs)) (fun st=>st= .done xs):=by
   unfold I2;exact A9 (show ¬(i:Int)<(b:Int) by omega) (Ak rfl)
  obtain⟨st,K,rfl⟩:=K;unfold iter;rw [K];refine⟨xs,rfl,?_,O,rfl⟩;rw [insOuter,if_neg U]
 | succ m Z=>
  intro i fuel xs hm Y hb V O;obtain⟨fuel,rfl⟩:∃k,fuel=k+1:=⟨fuel - 1,by omega⟩;have U:i<b:=by omega
  obtain⟨ys,ag,al,am,a0⟩:=Xj (F:=F) a i F xs (by omega) (by omega) V O;have K:AZ (I2 F (a:Int) (b:Int) ((i:Int),xs)) (fun st=>st= .more (((i+1:Nat):Int),ys)):=by
   unfold I2;refine Br (show(i:Int)<(b:Int) by omega) (AO ag ?_);exact AV ((i+1:Nat):Int) (by simp) (by omega) (by omega) (Ak rfl)
  obtain⟨st,K,rfl⟩:=K;unfold iter;rw [K];refine(Z (i+1) fuel ys (by omega) (by omega) (by omega) (by omega) am).Ah ?_;rintro a1 ⟨k1,ap,a2⟩;refine⟨?_,ap,by omega⟩;rw [k1,al,insOuter.eq_def AN a b i,if_pos U]
theorem Sd{F a b:Nat}{xs:List PT}(K:2000<F)(hb:b≤xs.length)(O:xs.length<1000)(U:KO xs)(ag:a≤b):
  AZ (f178 F xs (a:Int) (b:Int)) (fun ys=>ys.toArray=insertionSort AN xs.toArray a b∧KO ys∧ys.length=xs.length):=by
 unfold f178;refine AV ((a+1:Nat):Int) (by simp) (by omega) (by omega) (AD (Wl (F:=F) a b K (b - (a+1)) (a+1) F xs rfl (by omega) hb O U) ?_);rintro ys ⟨V,Y,Z⟩;exact⟨ys,rfl,V,Y,Z⟩
end Pal
namespace Pal
open Go.Sort
theorem OW{F a b sw:Nat}{xs:List PT}(O:a<xs.length)(hb:b<xs.length)(hs:sw<1000)(V:xs.length<1000)(U:KO xs):
  f200 F xs (a:Int) (b:Int) (sw:Int)=some ((((order2 AN xs.toArray a b sw).1:Nat):Int),(((order2 AN xs.toArray a b sw).2.1:Nat):Int),(((order2 AN xs.toArray a b sw).2.2:Nat):Int)):=by
 have h:AZ (f200 F xs (a:Int) (b:Int) (sw:Int)) (fun r=>r=((((order2 AN xs.toArray a b sw).1:Nat):Int),(((order2 AN xs.toArray a b sw).2.1:Nat):Int),(((order2 AN xs.toArray a b sw).2.2:Nat):Int))):=by
  unfold f200;refine Bl (m:=b) rfl hb (Bl (m:=a) rfl O ?_);refine AO (KN (U.get hb) (U.get O)) ?_;have e:order2 AN xs.toArray a b sw=if AN xs[b] xs[a] then(b,a,sw+1) else(a,b,sw):=by unfold order2;rw [Gy O,Gy hb]
  refine Bn (fun h=>?_) (fun h=>?_)
  ·have K:AN xs[b] xs[a]=true:=by rw [← JI];exact decide_eq_true h
   refine AV ((sw+1:Nat):Int) (by simp) (by omega) (by omega) (Ak ?_);rw [e,if_pos K]
  ·have K:¬AN xs[b] xs[a]=true:=by rw [← JI];simpa using h
   refine Ak ?_;rw [e,if_neg K]
 obtain⟨r,K,rfl⟩:=h;exact K
theorem QP{n a b sw:Nat}{d:Array PT}(K:a<n)(hb:b<n):(order2 AN d a b sw).1<n∧(order2 AN d a b sw).2.1<n∧(order2 AN d a b sw).2.2≤sw+1:=by
 unfold order2;split
 ·exact⟨hb,K,Nat.le_refl _⟩
 ·exact⟨K,hb,Nat.le_succ _⟩
theorem Yq{F a b c sw:Nat}{xs:List PT}(U:a<xs.length)(hb:b<xs.length)(V:c<xs.length)(hs:sw<900)(K:xs.length<1000)(O:KO xs):
  f197 F xs (a:Int) (b:Int) (c:Int) (sw:Int)=some ((((median AN xs.toArray a b c sw).1:Nat):Int),(((median AN xs.toArray a b c sw).2:Nat):Int)):=by
 unfold f197 median;obtain⟨Z,Y,al⟩:=QP (sw:=sw) (d:=xs.toArray) U hb;rw [OW U hb (by omega) K O];simp only [Option.bind_some];obtain⟨ag,am,ap⟩:=QP (sw:=(order2 AN xs.toArray a b sw).2.2) (d:=xs.toArray) Y V;rw [OW Y V (by omega) K O];simp only [Option.bind_some];rw [OW Z ag (by omega) K O];simp only [Option.bind_some]
def IC:Hint→Int | .unknown=>0 | .increasing=>1 | .decreasing=>2
theorem AZ.quo{α:Type}{Q:α→Prop}{f:Int→Option α}{x:Int}(m k:Nat)(K:x=(m:Int))(hm:m<1000)(O:0<k)(h:AZ (f ((m / k:Nat):Int)) Q):AZ ((HB x (k:Int)).bind f) Q:=by
 subst K;refine AO ?_ h;unfold HB;rw [if_neg (by omega)];have e:((m:Int).tdiv (k:Int))=((m / k:Nat):Int):=by rw [Int.tdiv_eq_ediv_of_nonneg (by omega)];rfl
 have hle:m / k≤m:=Nat.div_le_self _ _;rw [e];generalize m / k=z at hle ⊢;exact if_pos (by omega)
theorem Xh{F a b:Nat}{xs:List PT}(av:a+8≤b)(a0:b<a+50)(hb:b≤xs.length)(Z:xs.length<1000)(ag:KO xs):
  f181 F xs (a:Int) (b:Int)=some ((((choosePivot AN xs.toArray a b).1:Nat):Int),IC (choosePivot AN xs.toArray a b).2):=by
 have h:AZ (f181 F xs (a:Int) (b:Int)) (fun r=>r=((((choosePivot AN xs.toArray a b).1:Nat):Int),IC (choosePivot AN xs.toArray a b).2)):=by
  unfold f181;have a1:(b - a) / 4≤b - a:=Nat.div_le_self _ _;have a2:(b - a) / 4*3<b - a:=by omega
  refine AV ((b - a:Nat):Int) (by omega) (by omega) (by omega) (AZ.quo (b - a) 4 rfl (by omega) (by omega) ?_);refine AV (((b - a) / 4*1:Nat):Int) (by push_cast;rfl) (by omega) (by omega) (AV ((a+(b - a) / 4*1:Nat):Int) (by push_cast;rfl) (by omega) (by omega) ?_);refine AZ.quo (b - a) 4 rfl (by omega) (by omega) (AV (((b - a) / 4*2:Nat):Int) (by push_cast;rfl) (by omega) (by omega) ?_);refine AV ((a+(b - a) / 4*2:Nat):Int) (by push_cast;rfl) (by omega) (by omega) (AZ.quo (b - a) 4 rfl (by omega) (by omega) ?_);refine AV (((b - a) / 4*3:Nat):Int) (by push_cast;rfl) (by omega) (by omega) (AV ((a+(b - a) / 4*3:Nat):Int) (by push_cast;rfl) (by omega) (by omega) ?_);have al:choosePivot AN xs.toArray a b=((median AN xs.toArray (a+(b - a) / 4*1) (a+(b - a) / 4*2) (a+(b - a) / 4*3) 0).1,if(median AN xs.toArray (a+(b - a) / 4*1) (a+(b - a) / 4*2) (a+(b - a) / 4*3) 0).2=0 then .increasing else if(median AN xs.toArray (a+(b - a) / 4*1) (a+(b - a) / 4*2) (a+(b - a) / 4*3) 0).2=12 then .decreasing else .unknown):=by
   unfold choosePivot;simp only;rw [if_pos (by omega),if_neg (by omega)]
  rw [al];generalize am:median AN xs.toArray (a+(b - a) / 4*1) (a+(b - a) / 4*2) (a+(b - a) / 4*3) 0=K;refine AD (S:=fun r=>r=(((K.1:Nat):Int),((K.2:Nat):Int))) ?_ ?_
  ·refine Br (by omega) (AD (S:=fun _=>True) (A9 (by omega) (Ak trivial)) fun _ _=>?_);have Y:=Yq (F:=F) (a:=a+(b - a) / 4*1) (b:=a+(b - a) / 4*2) (c:=a+(b - a) / 4*3) (sw:=0) (xs:=xs) (by omega) (by omega) (by omega) (by omega) Z ag;rw [am] at Y;exact AO Y (Ak rfl)
  ·rintro r rfl;refine Bn (fun h=>?_) (fun h=>?_)
   ·have O:K.2=0:=by simp at h;omega
    rw [if_pos O];exact Ak rfl
   ·have O:¬K.2=0:=by simp at h;omega
    rw [if_neg O];refine Bn (fun U=>?_) (fun U=>?_)
    ·have V:K.2=12:=by simp at U;omega
     rw [if_pos V];exact Ak rfl
    ·have V:¬K.2=12:=by simp at U;omega
     rw [if_neg V];exact Ak rfl
 obtain⟨r,ap,rfl⟩:=h;exact ap
theorem Xr{F:Nat}:∀(m i j fuel:Nat) (xs:List PT),j - i≤m→m<fuel→(i<j→j<xs.length)→i≤xs.length→j≤xs.length→xs.length<1000→KO xs→
  AZ (iter (HR F) fuel ((i:Int),(j:Int),xs)) (fun ys=>ys.toArray=reverseLoop i j xs.toArray∧KO ys∧ys.length=xs.length):=by
 intro m
 induction m with
 | zero=>
  intro i j fuel xs hm al Z hi am ag K;obtain⟨fuel,rfl⟩:∃k,fuel=k+1:=⟨fuel - 1,by omega⟩;have O:¬i<j:=by omega
  have U:AZ (HR F ((i:Int),(j:Int),xs)) (fun st=>st= .done xs):=by
   unfold HR;exact A9 (show ¬(i:Int)<(j:Int) by omega) (Ak rfl)
  obtain⟨st,hb,rfl⟩:=U;unfold iter;rw [hb];refine⟨xs,rfl,?_,K,rfl⟩;rw [reverseLoop,if_neg O]
 | succ m ap=>
  intro i j fuel xs hm al Z hi am ag K;obtain⟨fuel,rfl⟩:∃k,fuel=k+1:=⟨fuel - 1,by omega⟩;by_cases O:i<j
  ·have V:=Z O;have Y:i<xs.length:=by omega
   have U:AZ (HR F ((i:Int),(j:Int),xs)) (fun st=>st= .more (((i+1:Nat):Int),((j - 1:Nat):Int),(xs.set i xs[j]).set j xs[i])):=by
    unfold HR;refine Br (show(i:Int)<(j:Int) by omega) (Bl (m:=j) rfl V ?_);refine Bl (m:=i) rfl Y (AV ((i+1:Nat):Int) (by simp) (by omega) (by omega) ?_);exact AV ((j - 1:Nat):Int) (by simp;omega) (by omega) (by omega) (Ak rfl)
   obtain⟨st,hb,rfl⟩:=U;unfold iter;rw [hb];refine(ap (i+1) (j - 1) fuel ((xs.set i xs[j]).set j xs[i]) (by omega) (by omega) (by simp;omega) (by simp;omega) (by simp;omega) (by simpa using ag) ((K.set (K.get V)).set (K.get Y))).Ah ?_;rintro ys ⟨av,a0,a1⟩;refine⟨?_,a0,by simpa using a1⟩;rw [av,IW Y V,reverseLoop.eq_def i j,if_pos O]
  ·have U:AZ (HR F ((i:Int),(j:Int),xs)) (fun st=>st= .done xs):=by
    unfold HR;exact A9 (show ¬(i:Int)<(j:Int) by omega) (Ak rfl)
   obtain⟨st,hb,rfl⟩:=U;unfold iter;rw [hb];refine⟨xs,rfl,?_,K,rfl⟩;rw [reverseLoop,if_neg O]
theorem Xd{F a b:Nat}{xs:List PT}(U:2000<F)(V:a<b)(hb:b≤xs.length)(K:xs.length<1000)(O:KO xs):
  AZ (f182 F xs (a:Int) (b:Int)) (fun ys=>ys.toArray=reverseRange xs.toArray a b∧KO ys∧ys.length=xs.length):=by
 unfold f182 reverseRange;refine AV ((b - 1:Nat):Int) (by omega) (by omega) (by omega) (AD (Xr (F:=F) (b - 1 - a) a (b - 1) F xs (by omega) (by omega) (by omega) (by omega) (by omega) K O) ?_);rintro ys h;exact⟨ys,rfl,h⟩
theorem Yu{F b q1:Nat}{xs:List PT}(q2:Int)(hb:b≤xs.length)(ap:xs.length<1000)(Z:KO xs):∀(m i fuel:Nat),b - i≤m→m<fuel→1≤i→
  AZ (iter (I5 F (b:Int) (((q1:Nat):Int),q2,xs)) fuel (i:Int)) (fun r=>r=((scanSorted AN xs.toArray b i:Nat):Int)):=by
 intro m
 induction m with
 | zero=>
  intro i fuel hm am hi;obtain⟨fuel,rfl⟩:∃k,fuel=k+1:=⟨fuel - 1,by omega⟩;have K:¬i<b:=by omega
  have O:AZ (I5 F (b:Int) (((q1:Nat):Int),q2,xs) (i:Int)) (fun st=>st= .done (i:Int)):=by
   unfold I5;refine AD (S:=fun c=>c=false) (A9 (by omega) (Ak rfl)) ?_;rintro c rfl;exact A9 (by simp) (Ak rfl)
  obtain⟨st,U,rfl⟩:=O;unfold iter;rw [U];refine⟨_,rfl,?_⟩;rw [scanSorted,if_neg (by simp [K])]
 | succ m ag=>
  intro i fuel hm am hi;obtain⟨fuel,rfl⟩:∃k,fuel=k+1:=⟨fuel - 1,by omega⟩;by_cases K:i<b
  ·have V:i<xs.length:=by omega
   have Y:i - 1<xs.length:=by omega
   have O:AZ (I5 F (b:Int) (((q1:Nat):Int),q2,xs) (i:Int)) (fun st=>st=if(!AN xs[i] xs[i-1])=true then .more ((i+1:Nat):Int) else .done (i:Int)):=by
    unfold I5;refine AD (S:=fun c=>c= !AN xs[i] xs[i-1]) ?_ ?_
    ·refine Br (by omega) (Bl (m:=i) rfl V ?_);refine AV ((i - 1:Nat):Int) (by omega) (by omega) (by omega) (Bl (m:=i - 1) rfl Y ?_);refine AO (KN (Z.get V) (Z.get Y)) (Ak ?_);rw [← JI];exact decide_not
    ·rintro c rfl;refine Bn (fun h=>?_) (fun h=>?_)
     ·refine AV ((i+1:Nat):Int) (by simp) (by omega) (by omega) ?_;rw [if_pos h];exact Ak rfl
     ·rw [if_neg h];exact Ak rfl
   obtain⟨st,U,rfl⟩:=O;unfold iter;rw [U];have hs:scanSorted AN xs.toArray b i=if(!AN xs[i] xs[i-1])=true then scanSorted AN xs.toArray b (i+1) else i:=by
    rw [scanSorted.eq_def AN xs.toArray b i,Gy V,Gy Y];simp [K]
   by_cases al:(!AN xs[i] xs[i-1])=true
   ·rw [if_pos al] at hs ⊢;rw [hs];exact ag (i+1) fuel (by omega) (by omega) (by omega)
   ·rw [if_neg al] at hs ⊢;exact⟨_,rfl,by rw [hs]⟩
  ·exact ag i (fuel+1) (by omega) (by omega) hi
theorem X8{F a b:Nat}{xs:List PT}(ag:2000<F)(al:a<b)(am:b<a+50)(hb:b≤xs.length)(O:xs.length<1000)(U:KO xs):
  f183 F xs (a:Int) (b:Int)=some ((partialInsertionSort AN xs.toArray a b).2,xs)∧(partialInsertionSort AN xs.toArray a b).1=xs.toArray:=by
 have e:partialInsertionSort AN xs.toArray a b=if scanSorted AN xs.toArray b (a+1)=b then(xs.toArray,true) else(xs.toArray,false):=by
  unfold partialInsertionSort partialIns;simp only;split
  ·rfl
  ·rw [if_pos (by omega)]
 have h:AZ (f183 F xs (a:Int) (b:Int)) (fun r=>r=((partialInsertionSort AN xs.toArray a b).2,xs)):=by
  unfold f183;refine AV ((a+1:Nat):Int) (by simp) (by omega) (by omega) (AD (S:=fun r=>r=Sum.inl ((partialInsertionSort AN xs.toArray a b).2,xs)) ?_ ?_)
  ·obtain⟨K,rfl⟩:∃k,F=k+1:=⟨F - 1,by omega⟩;have V:AZ (MM (K+1) (a:Int) (b:Int) (((a+1:Nat):Int),0,xs)) (fun st=>st= .done (Sum.inl ((partialInsertionSort AN xs.toArray a b).2,xs))):=by
    unfold MM;refine Br (show(0:Int)<5 by omega) (AD (Yu (F:=K+1) (q1:=a+1) 0 hb O U (b - (a+1)) (a+1) (K+1) (by omega) (by omega) (by omega)) ?_);rintro r rfl;rw [e];refine Bn (fun h=>?_) (fun h=>?_)
    ·rw [if_pos (by omega)];exact Ak rfl
    ·rw [if_neg (by omega)];exact AV ((b - a:Nat):Int) (by omega) (by omega) (by omega) (Br (by omega) (Ak rfl))
   obtain⟨st,Y,rfl⟩:=V;unfold iter;rw [Y];exact⟨_,rfl,rfl⟩
  ·rintro r rfl;exact Ak rfl
 obtain⟨r,Z,rfl⟩:=h;refine⟨Z,?_⟩;rw [e];split <;> rfl
end Pal
namespace Pal
open Go.Sort
theorem Qb{body:Int→Option (Bf Int Int)}{d:Array PT}{p:PT→Bool}{j:Nat}(V:j<900)
  (h:∀i:Nat,i≤j+2→body (i:Int)=some (if(decide (i≤j)&&p d[i]!)=true then .more ((i+1:Nat):Int) else .done (i:Int))):
  ∀(m i fuel:Nat),j+1 - i≤m→m<fuel→i≤j+2→iter body fuel (i:Int)=some ((scanUp p d j i:Nat):Int):=by
 intro m
 induction m with
 | zero=>
  intro i fuel hm O hi;obtain⟨fuel,rfl⟩:∃k,fuel=k+1:=⟨fuel - 1,by omega⟩;have K:¬(decide (i≤j)&&p d[i]!)=true:=by simp;omega
  unfold iter;rw [h i hi,if_neg K,scanUp,if_neg K]
 | succ m U=>
  intro i fuel hm O hi;obtain⟨fuel,rfl⟩:∃k,fuel=k+1:=⟨fuel - 1,by omega⟩;unfold iter;rw [h i hi,scanUp];by_cases K:(decide (i≤j)&&p d[i]!)=true
  ·rw [if_pos K,if_pos K];have:i≤j:=by simp at K;exact K.1
   exact U (i+1) fuel (by omega) (by omega) (by omega)
  ·rw [if_neg K,if_neg K]
theorem PZ{body:Int→Option (Bf Int Int)}{d:Array PT}{p:PT→Bool}{i:Nat}(hi:1≤i){n:Nat}
  (h:∀j:Nat,j<n→body (j:Int)=some (if(decide (i≤j)&&p d[j]!)=true then .more ((j - 1:Nat):Int) else .done (j:Int))):
  ∀(j fuel:Nat),j<n→j<fuel→iter body fuel (j:Int)=some ((scanDown p d i j:Nat):Int):=by
 intro j
 induction j with
 | zero=>
  intro fuel O U;obtain⟨fuel,rfl⟩:∃k,fuel=k+1:=⟨fuel - 1,by omega⟩;have K:¬(decide (i≤0)&&p d[0]!)=true:=by simp;omega
  unfold iter;rw [h 0 O,if_neg K];rfl
 | succ j V=>
  intro fuel O U;obtain⟨fuel,rfl⟩:∃k,fuel=k+1:=⟨fuel - 1,by omega⟩;unfold iter;rw [h (j+1) O,scanDown];by_cases K:(decide (i≤j+1)&&p d[j+1]!)=true
  ·rw [if_pos K,if_pos K];exact V fuel (by omega) (by omega)
  ·rw [if_neg K,if_neg K]
theorem AZ.LM{α:Type}{o:Option α}{a:α}(h:AZ o (fun x=>x=a)):o=some a:=by obtain⟨x,K,rfl⟩:=h;exact K
theorem RN{F a:Nat}{q2:Int}{j:Nat}{q1:Int}{ys:List PT}(K:a<ys.length)(Y:j<ys.length)(Z:ys.length<900)(V:KO ys)(i:Nat)(hi:i≤j+2):
  JM F (a:Int) (q1,(j:Int),ys) (i:Int)=some (if(decide (i≤j)&&AN ys.toArray[i]! ys.toArray[a]!)=true then .more ((i+1:Nat):Int) else .done (i:Int)):=by
 refine AZ.LM ?_;unfold JM;refine AD (S:=fun c=>c=(decide (i≤j)&&AN ys.toArray[i]! ys.toArray[a]!)) ?_ ?_
 ·refine Bn (fun h=>?_) (fun h=>?_)
  ·have O:i≤j:=by simp at h;omega
   have U:i<ys.length:=by omega
   refine Bl (m:=i) rfl U (Bl (m:=a) rfl K ?_);refine AO (KN (V.get U) (V.get K)) (Ak ?_);rw [JI,Gy U,Gy K];simp [O]
  ·have O:¬i≤j:=by simp at h;omega
   refine Ak ?_;simp [O]
 ·rintro c rfl;refine Bn (fun h=>?_) (fun h=>?_)
  ·refine AV ((i+1:Nat):Int) (by simp) (by omega) (by omega) ?_;rw [if_pos h];exact Ak rfl
  ·rw [if_neg h];exact Ak rfl
theorem Qz{F a i:Nat}{q1 q2:Int}{ys:List PT}(O:a<ys.length)(Y:ys.length<900)(V:KO ys)(hi:1≤i)(j:Nat)(U:j<ys.length):
  JK F (a:Int) (q1,q2,ys) (i:Int) (j:Int)=some (if(decide (i≤j)&& !AN ys.toArray[j]! ys.toArray[a]!)=true then .more ((j - 1:Nat):Int) else .done (j:Int)):=by
 refine AZ.LM ?_;unfold JK;refine AD (S:=fun c=>c=(decide (i≤j)&& !AN ys.toArray[j]! ys.toArray[a]!)) ?_ ?_
 ·refine Bn (fun h=>?_) (fun h=>?_)
  ·have K:i≤j:=by omega
   refine Bl (m:=j) rfl U (Bl (m:=a) rfl O ?_);refine AO (KN (V.get U) (V.get O)) (Ak ?_);rw [Gy U,Gy O,← JI,← decide_not];simp [K]
  ·have K:¬i≤j:=by omega
   refine Ak ?_;simp [K]
 ·rintro c rfl;refine Bn (fun h=>?_) (fun h=>?_)
  ·have K:i≤j:=by simp at h;exact h.1
   refine AV ((j - 1:Nat):Int) (by omega) (by omega) (by omega) ?_;rw [if_pos h];exact Ak rfl
  ·rw [if_neg h];exact Ak rfl
theorem XG{F a b:Nat}(be:2000<F)(bi:a<b):∀(m i j fuel:Nat) (ys:List PT),j+1 - i≤m→m<fuel→a<i→i≤j+2→j<b→b≤ys.length→ys.length<900→KO ys→
  AZ (iter (I4 F (a:Int)) fuel ((i:Int),(j:Int),ys)) (fun r=>r.1=(((partLoop AN a i j ys.toArray).1:Nat):Int)∧r.2.toArray=(partLoop AN a i j ys.toArray).2∧KO r.2∧r.2.length=ys.length):=by
 intro m
 induction m with
 | zero=>?_
 | succ m a2=>?_
 all_goals
  intro i j fuel ys hm bo bv a3 bw hb V U;obtain⟨fuel,rfl⟩:∃k,fuel=k+1:=⟨fuel - 1,by omega⟩;have ap:a<ys.length:=by omega
  have av:j<ys.length:=by omega
  have Y:iter (JM F (a:Int) ((i:Int),(j:Int),ys)) F (i:Int)=some ((scanUp (fun x=>AN x ys.toArray[a]!) ys.toArray j i:Nat):Int):=
   Qb (by omega) (fun a4 a5=>RN (q2:=0) ap av V U a4 a5) (j+1 - i) i F (by omega) (by omega) a3
  have a6:=scanUp_ge (fun x=>AN x ys.toArray[a]!) ys.toArray j i;have a7:=scanUp_spec (fun x=>AN x ys.toArray[a]!) ys.toArray j _ i rfl;have O:=partLoop_eq AN a i j ys.toArray;generalize bz:scanUp (fun x=>AN x ys.toArray[a]!) ys.toArray j i=i2 at Y a6 a7 O;have Z:iter (JK F (a:Int) ((i:Int),(j:Int),ys) (i2:Int)) F (j:Int)=some ((scanDown (fun x=> !AN x ys.toArray[a]!) ys.toArray i2 j:Nat):Int):=
   PZ (n:=ys.length) (by omega) (fun a8 a9=>Qz ap V U (by omega) a8 a9) j F av (by omega)
  have hle:=scanDown_le (fun x=> !AN x ys.toArray[a]!) ys.toArray i2 j;generalize bA:scanDown (fun x=> !AN x ys.toArray[a]!) ys.toArray i2 j=K at Z hle O;by_cases a0:i2>K
  ·have ag:I4 F (a:Int) ((i:Int),(j:Int),ys)=some (.done ((K:Int),ys)):=by
    refine AZ.LM ?_;unfold I4;refine AO Y (AO Z ?_);exact Br (by omega) (Ak rfl)
   unfold iter;rw [ag];rw [if_pos a0] at O;exact⟨_,rfl,by rw [O],by rw [O],U,rfl⟩
  ·first
    | (exfalso;omega)
    | (
     have al:i2<ys.length:=by omega
     have am:K<ys.length:=by omega
     have ag:I4 F (a:Int) ((i:Int),(j:Int),ys)=some (.more (((i2+1:Nat):Int),((K - 1:Nat):Int),(ys.set i2 ys[K]).set K ys[i2])):=by
      refine AZ.LM ?_
      unfold I4
      refine AO Y ?_
      refine AO Z ?_
      refine A9 (by omega) ?_
      refine Bl (m:=K) rfl am ?_
      refine Bl (m:=i2) rfl al ?_
      refine AV ((i2+1:Nat):Int) (by simp) (by omega) (by omega) ?_
      refine AV ((K - 1:Nat):Int) (by omega) (by omega) (by omega) ?_
      exact Ak rfl
     unfold iter;rw [ag]
     rw [if_neg a0] at O
     refine(a2 (i2+1) (K - 1) fuel ((ys.set i2 ys[K]).set K ys[i2]) (by omega) (by omega) (by omega) (by omega) (by omega) (by simpa using hb) (by simpa using V) ((U.set (U.get am)).set (U.get al))).Ah ?_
     rintro r ⟨k1,a1,bb,bd⟩
     rw [IW al am,← O] at k1 a1
     exact⟨k1,a1,bb,by simpa using bd⟩)
theorem VW{F a:Nat}{j p3:Nat}{xs ys:List PT}{K O:PT}(he:(xs.set a K).set p3 O=ys)(U:a<ys.length)(V:j<ys.length)(Y:ys.length<900)(Z:KO ys)(i:Nat)(hi:i≤j+2):
  KX F xs (a:Int) (p3:Int) K O (j:Int) (i:Int)=some (if(decide (i≤j)&&AN ys.toArray[i]! ys.toArray[a]!)=true then .more ((i+1:Nat):Int) else .done (i:Int)):=by
 rw [← RN (F:=F) (q1:=0) (q2:=0) U V Y Z i hi];unfold KX JM;simp only [Int.toNat_natCast,he]
theorem UJ{F a i p3:Nat}{xs ys:List PT}{K O:PT}(he:(xs.set a K).set p3 O=ys)(U:a<ys.length)(V:ys.length<900)(Y:KO ys)(hi:1≤i)(j:Nat)(Z:j<ys.length):
  KS F xs (a:Int) (p3:Int) K O (i:Int) (j:Int)=some (if(decide (i≤j)&& !AN ys.toArray[j]! ys.toArray[a]!)=true then .more ((j - 1:Nat):Int) else .done (j:Int)):=by
 rw [← Qz (F:=F) (q1:=0) (q2:=0) U V Y hi j Z];unfold KS JK;simp only [Int.toNat_natCast,he]
theorem Ud(a:Nat):∀(n i j:Nat) (d:Array PT),j+1 - i≤n→(partLoop AN a i j d).1≤j:=by
  intro n
  induction n with
  | zero=>?_
  | succ n V=>?_
  all_goals
    intro i j d Z;have K:=partLoop_eq AN a i j d;have Y:=scanUp_ge (fun x=>AN x d[a]!) d j i;generalize ag:scanUp (fun x=>AN x d[a]!) d j i=i2 at Y K;have hle:=scanDown_le (fun x=> !AN x d[a]!) d i2 j;generalize al:scanDown (fun x=> !AN x d[a]!) d i2 j=O at hle K;by_cases U:i2>O
    ·rw [K,if_pos U];exact hle
    ·first
        | (exfalso;omega)
        | (rw [K,if_neg U]
           have:=V (i2+1) (O - 1) (swp d i2 O) (by omega)
           omega)
theorem Yj{F a b pv:Nat}(a8:2000<F){xs:List PT}(bA:a≤pv)(bB:pv<b)(hb:b≤xs.length)(bC:xs.length<900)(al:KO xs):
  AZ (f185 F xs (a:Int) (b:Int) (pv:Int)) (fun r=>r.1=(((partition AN xs.toArray a b pv).1:Nat):Int)∧r.2.1=(partition AN xs.toArray a b pv).2.1∧r.2.2.toArray=(partition AN xs.toArray a b pv).2.2∧KO r.2.2∧r.2.2.length=xs.length):=by
 have am:a<xs.length:=by omega
 have ap:pv<xs.length:=by omega
 obtain⟨ys,V⟩:∃ys,(xs.set a xs[pv]).set pv xs[a]=ys:=⟨_,rfl⟩;have O:KO ys:=by rw [← V];exact(al.set (al.get ap)).set (al.get am)
 have a5:ys.length=xs.length:=by rw [← V];simp
 have a9:ys.toArray=swp xs.toArray a pv:=by rw [← V,IW am ap]
 have Z:a<ys.length:=by omega
 have a6:b - 1<ys.length:=by omega
 unfold f185;refine Bl (m:=pv) rfl ap (Bl (m:=a) rfl am ?_);refine AV ((a+1:Nat):Int) (by simp) (by omega) (by omega) (AV ((b - 1:Nat):Int) (by omega) (by omega) (by omega) ?_);have bb:iter (KX F xs (a:Int) (pv:Int) xs[pv] xs[a] ((b - 1:Nat):Int)) F ((a+1:Nat):Int)=some ((scanUp (fun x=>AN x ys.toArray[a]!) ys.toArray (b - 1) (a+1):Nat):Int):=
  Qb (by omega) (fun bd be=>VW V Z a6 (by omega) O bd be) (b - 1+1 - (a+1)) (a+1) F (by omega) (by omega) (by omega)
 refine AO bb ?_;have bi:=scanUp_ge (fun x=>AN x ys.toArray[a]!) ys.toArray (b - 1) (a+1);have U:partition AN xs.toArray a b pv=if scanUp (fun x=>AN x ys.toArray[a]!) ys.toArray (b - 1) (a+1)>scanDown (fun x=> !AN x ys.toArray[a]!) ys.toArray (scanUp (fun x=>AN x ys.toArray[a]!) ys.toArray (b - 1) (a+1)) (b - 1) then
   (scanDown (fun x=> !AN x ys.toArray[a]!) ys.toArray (scanUp (fun x=>AN x ys.toArray[a]!) ys.toArray (b - 1) (a+1)) (b - 1),true,swp ys.toArray (scanDown (fun x=> !AN x ys.toArray[a]!) ys.toArray (scanUp (fun x=>AN x ys.toArray[a]!) ys.toArray (b - 1) (a+1)) (b - 1)) a) else
   ((partLoop AN a (scanUp (fun x=>AN x ys.toArray[a]!) ys.toArray (b - 1) (a+1)+1) (scanDown (fun x=> !AN x ys.toArray[a]!) ys.toArray (scanUp (fun x=>AN x ys.toArray[a]!) ys.toArray (b - 1) (a+1)) (b - 1) - 1) (swp ys.toArray (scanUp (fun x=>AN x ys.toArray[a]!) ys.toArray (b - 1) (a+1)) (scanDown (fun x=> !AN x ys.toArray[a]!) ys.toArray (scanUp (fun x=>AN x ys.toArray[a]!) ys.toArray (b - 1) (a+1)) (b - 1)))).1,false,
    swp (partLoop AN a (scanUp (fun x=>AN x ys.toArray[a]!) ys.toArray (b - 1) (a+1)+1) (scanDown (fun x=> !AN x ys.toArray[a]!) ys.toArray (scanUp (fun x=>AN x ys.toArray[a]!) ys.toArray (b - 1) (a+1)) (b - 1) - 1) (swp ys.toArray (scanUp (fun x=>AN x ys.toArray[a]!) ys.toArray (b - 1) (a+1)) (scanDown (fun x=> !AN x ys.toArray[a]!) ys.toArray (scanUp (fun x=>AN x ys.toArray[a]!) ys.toArray (b - 1) (a+1)) (b - 1)))).2
     (partLoop AN a (scanUp (fun x=>AN x ys.toArray[a]!) ys.toArray (b - 1) (a+1)+1) (scanDown (fun x=> !AN x ys.toArray[a]!) ys.toArray (scanUp (fun x=>AN x ys.toArray[a]!) ys.toArray (b - 1) (a+1)) (b - 1) - 1) (swp ys.toArray (scanUp (fun x=>AN x ys.toArray[a]!) ys.toArray (b - 1) (a+1)) (scanDown (fun x=> !AN x ys.toArray[a]!) ys.toArray (scanUp (fun x=>AN x ys.toArray[a]!) ys.toArray (b - 1) (a+1)) (b - 1)))).1 a):=by
  rw [a9];rfl
 generalize bD:scanUp (fun x=>AN x ys.toArray[a]!) ys.toArray (b - 1) (a+1)=i2 at bi U ⊢;have bo:iter (KS F xs (a:Int) (pv:Int) xs[pv] xs[a] (i2:Int)) F ((b - 1:Nat):Int)=some ((scanDown (fun x=> !AN x ys.toArray[a]!) ys.toArray i2 (b - 1):Nat):Int):=
  PZ (n:=ys.length) (by omega) (fun bv bw=>UJ V Z (by omega) O (by omega) bv bw) (b - 1) F a6 (by omega)
 refine AO bo ?_;have hle:=scanDown_le (fun x=> !AN x ys.toArray[a]!) ys.toArray i2 (b - 1);generalize bE:scanDown (fun x=> !AN x ys.toArray[a]!) ys.toArray i2 (b - 1)=K at hle U ⊢;have Y:K<ys.length:=by omega
 simp only [Int.toNat_natCast,V];refine Bn (fun h=>?_) (fun h=>?_)
 ·have av:i2>K:=by omega
  rw [if_pos av] at U;refine Bl (m:=a) rfl Z (Bl (m:=K) rfl Y ?_);refine Ak ?_;rw [U];exact⟨rfl,rfl,IW Y Z,(O.set (O.get Z)).set (O.get Y),by simp [a5]⟩
 ·have av:¬i2>K:=by omega
  have a0:i2<ys.length:=by omega
  rw [if_neg av] at U;refine Bl (m:=K) rfl Y (Bl (m:=i2) rfl a0 ?_);refine AV ((i2+1:Nat):Int) (by simp) (by omega) (by omega) (AV ((K - 1:Nat):Int) (by omega) (by omega) (by omega) ?_);refine AD (XG (F:=F) a8 (show a<b by omega) (K - 1+1 - (i2+1)) (i2+1) (K - 1) F ((ys.set i2 ys[K]).set K ys[i2]) (by omega) (by omega) (by omega) (by omega) (by omega) (by simp;omega) (by simp;omega) ((O.set (O.get Y)).set (O.get a0))) ?_;rintro r ⟨k1,a1,ag,a7⟩;rw [IW a0 Y] at k1 a1;have bz:=Ud a _ (i2+1) (K - 1) (swp ys.toArray i2 K) (Nat.le_refl _);obtain⟨bF,a2⟩:=r;simp only at k1 a1 ag a7 ⊢;subst k1;rw [← a1] at U;have hlen:a2.length=ys.length:=by simpa using a7
  generalize (partLoop AN a (i2+1) (K - 1) (swp ys.toArray i2 K)).1=pm at bz U ⊢;have a3:pm<a2.length:=by omega
  have a4:a<a2.length:=by omega
  refine Bl (m:=a) rfl a4 (Bl (m:=pm) rfl a3 ?_);refine Ak ?_;rw [U];exact⟨rfl,rfl,IW a3 a4,(ag.set (ag.get a4)).set (ag.get a3),by simp [hlen,a5]⟩
end Pal
namespace Pal
open Go.Sort
theorem Xs(F:Nat):∀n:Nat,n<13→∃l,f163 F (Dh (n:Int))=some l:=by
 intro n K
 match n,K with
 | 0,_=>exact⟨_,rfl⟩
 | 1,_=>exact⟨_,rfl⟩
 | 2,_=>exact⟨_,rfl⟩
 | 3,_=>exact⟨_,rfl⟩
 | 4,_=>exact⟨_,rfl⟩
 | 5,_=>exact⟨_,rfl⟩
 | 6,_=>exact⟨_,rfl⟩
 | 7,_=>exact⟨_,rfl⟩
 | 8,_=>exact⟨_,rfl⟩
 | 9,_=>exact⟨_,rfl⟩
 | 10,_=>exact⟨_,rfl⟩
 | 11,_=>exact⟨_,rfl⟩
 | 12,_=>exact⟨_,rfl⟩
 | n+13,h=>omega
theorem V7(F:Nat):f163 F (Dh ((13:Nat):Int))=some 4:=rfl
def Is(xs:List PT)(d:Array PT)(ys:List PT):Prop:=ys.toArray=d∧KO ys∧ys.length=xs.length
theorem P8{F a b:Nat}{l:Int}{xs:List PT}(K:2000<F)(O:a≤b)(ap:b≤a+12)(hb:b≤xs.length)(av:xs.length<900)(U:KO xs):
  AZ (IB F xs (a:Int) (b:Int) l) (Is xs (insertionSort AN xs.toArray a b)):=by
 unfold IB;refine AD (S:=fun r=>∃ys,r=Sum.inl ys∧Is xs (insertionSort AN xs.toArray a b) ys) ?_ ?_
 ·obtain⟨V,rfl⟩:∃k,F=k+1:=⟨F - 1,by omega⟩;obtain⟨ys,Y,Z,ag,al⟩:=Sd K hb (by omega) U O;have am:Mo (V+1) xs (a:Int) (b:Int) l ()=some (.done (Sum.inl ys)):=by
   refine AZ.LM ?_;unfold Mo;refine AV ((b - a:Nat):Int) (by omega) (by omega) (by omega) (Br (by omega) ?_);exact AO Y (Ak rfl)
  unfold iter;rw [am];exact⟨_,rfl,ys,rfl,Z,ag,al⟩
 ·rintro r ⟨ys,rfl,h⟩;exact Ak h
theorem Ob{F a b:Nat}{l:Int}{wb wp:Bool}{xs:List PT}(K:2000<F)(O:a≤b)(al:b≤a+12)(hb:b≤xs.length)(am:xs.length<900)(U:KO xs):
  AZ (Hr F l ((a:Int),(b:Int),wb,wp,xs)) (fun st=>∃ys,st= .done (Sum.inl ys)∧Is xs (insertionSort AN xs.toArray a b) ys):=by
 obtain⟨ys,V,Y,Z,ag⟩:=Sd K hb (by omega) U O;unfold Hr;refine AD (S:=fun r=>r=Sum.inl ys) ?_ ?_
 ·refine AV ((b - a:Nat):Int) (by dsimp only;omega) (by omega) (by omega) (Br (by omega) ?_);exact AO V (Ak rfl)
 ·rintro r rfl;exact Ak ⟨ys,rfl,Y,Z,ag⟩
theorem UK{F n:Nat}{l:Int}{xs:List PT}(O:2000<F)(ag:n=xs.length)(al:n≤12)(U:KO xs):
  AZ (f162 F xs 0 (n:Int) l) (Is xs (insertionSort AN xs.toArray 0 n)):=by
 unfold f162;refine AD (S:=fun r=>∃ys,r=Sum.inl ys∧Is xs (insertionSort AN xs.toArray 0 n) ys) ?_ ?_
 ·obtain⟨K,rfl⟩:∃k,F=k+1:=⟨F - 1,by omega⟩;obtain⟨st,V,ys,rfl,Y⟩:=Ob (F:=K+1) (a:=0) (b:=n) (l:=l) (wb:=true) (wp:=true) (xs:=xs) O (by omega) (by omega) (by omega) (by omega) U;have Z:Hr (K+1) l (0,(n:Int),true,true,xs)=some (.done (Sum.inl ys)):=V;unfold iter;rw [Z];exact⟨_,rfl,ys,rfl,Y⟩
 ·rintro r ⟨ys,rfl,h⟩;exact Ak h
theorem Wq{S A:Type}{body:S→Option (Bf S A)}{F:Nat}{s s':S}(h:body s=some (.more s')){Q:A→Prop}(k:AZ (iter body F s') Q):AZ (iter body (F+1) s) Q:=by
 unfold iter;rw [h];exact k
theorem Wp{S A:Type}{body:S→Option (Bf S A)}{F:Nat}{s:S}{Q:A→Prop}(h:AZ (body s) (fun st=>∃a,st= .done a∧Q a)):AZ (iter body (F+1) s) Q:=by
 obtain⟨st,K,a,rfl,O⟩:=h;unfold iter;rw [K];exact⟨a,rfl,O⟩
set_option maxHeartbeats 1000000 in
theorem Xg{F:Nat}{xs:List PT}(ca:3000<F)(bG:xs.length=13)(a7:KO xs):
  AZ (f162 F xs 0 ((13:Nat):Int) 4) (Is xs (pdq AN xs.toArray 0 13 4 true true)):=by
 have bH:xs.toArray.size=13:=by simpa using bG
 obtain⟨s1,B1,cb,s2,cc,a8,cd,ce⟩:=rd_facts (lt:=AN) (d:=xs.toArray) (a:=0) (b:=13) (limit:=4) (wb:=true) (wp:=true) MQ partialInsertionSort_holds reverseRange_holds (by omega) (by rw [bH];omega) (.inl rfl);have a9:¬(13 - 0≤12):=by omega
 have bz:=Xh (F:=F) (a:=0) (b:=13) (xs:=xs) (by omega) (by omega) (by omega) (by omega) a7;have bI:choosePivot AN xs.toArray 0 13=(rd AN xs.toArray 0 13 4 true true).c:=rfl;rw [bI] at bz;generalize K:rd AN xs.toArray 0 13 4 true true=R at*;have bJ:R.lim=4:=by rw [← K];rfl
 have bK:R.c.2= .decreasing→R.d2=reverseRange xs.toArray 0 13∧R.pivot=(13 - 1) - (R.c.1 - 0)∧R.hint= .increasing:=by
  intro h;rw [← K] at h ⊢;exact rd_dec h
 have bL:R.c.2≠ .decreasing→R.d2=xs.toArray∧R.pivot=R.c.1∧R.hint=R.c.2:=by
  intro h;rw [← K] at h ⊢;exact rd_not h
 have bM:R.hint= .increasing→R.pi=partialInsertionSort AN R.d2 0 13:=by
  intro h;rw [← K] at h ⊢;exact rd_pi_yes (by simp [h])
 have bN:R.hint≠ .increasing→R.pi=(R.d2,false):=by
  intro h;rw [← K] at h ⊢;exact rd_pi_no (by simp [h])
 have bO:AZ (if IC R.c.2=2 then(f182 F xs 0 ((13:Nat):Int)).bind fun bP=>(Au (((13:Nat):Int) - 1)).bind fun bQ=>(Au (((R.c.1:Nat):Int) - 0)).bind fun bR=>(Au (bQ - bR)).bind fun bS=>some (bS,(1:Int),bP) else some (((R.c.1:Nat):Int),IC R.c.2,xs))
   (fun q=>q.1=((R.pivot:Nat):Int)∧q.2.1=IC R.hint∧Is xs R.d2 q.2.2):=by
  by_cases a1:R.c.2= .decreasing
  ·obtain⟨am,ap,Y⟩:=bK a1;refine Br (by rw [a1];rfl) (AD (Xd (F:=F) (a:=0) (b:=13) (xs:=xs) (by omega) (by omega) (by omega) (by omega) a7) ?_);rintro ys ⟨k1,U,V⟩;refine AV 12 (by omega) (by omega) (by omega) (AV ((R.c.1:Nat):Int) (by omega) (by omega) (by omega) ?_);refine AV ((12 - R.c.1:Nat):Int) (by omega) (by omega) (by omega) (Ak ⟨?_,?_,?_,U,V⟩)
   ·rw [ap];rfl
   ·rw [Y];rfl
   ·rw [am];exact k1
  ·obtain⟨am,ap,Y⟩:=bL a1;refine A9 (by intro h;cases bb:R.c.2 <;> rw [bb] at h a1 <;> first | (exact a1 rfl) | (cases h)) ?_
   refine Ak ⟨?_,?_,?_,a7,rfl⟩
   ·rw [ap]
   ·rw [Y]
   ·rw [am]
 unfold f162;refine AD (S:=fun r=>∃ys,r=Sum.inl ys∧Is xs (pdq AN xs.toArray 0 13 4 true true) ys) ?_ (by rintro r ⟨ys,rfl,h⟩;exact Ak h);have bT:∀(Z:List PT),Is xs R.pi.1 Z→R.pi.2=false→
   AZ ((f185 F Z 0 ((13:Nat):Int) ((R.pivot:Nat):Int)).bind fun O=>(Au (O.1 - 0)).bind fun bA=>(Au (((13:Nat):Int) - O.1)).bind fun bB=>(HB (13:Int) (8)).bind fun bC=>
     Option.bind (
      if bA<bB then(
       (IB F O.2.2 0 O.1 4).bind fun bU=>
       (Au (O.1+1)).bind fun bV=>
       some (bV,((13:Nat):Int),decide (bC≤bA),bU)
      ) else(
       (Au (O.1+1)).bind fun bW=>
       (IB F O.2.2 bW ((13:Nat):Int) 4).bind fun bY=>
       some ((0:Int),O.1,decide (bC≤bB),bY)
      )
     ) fun a5=>
     some (a5.1,a5.2.1,a5.2.2.1,O.2.1,a5.2.2.2))
    (fun st=>AZ (Hr F 4 st) (fun q=>∃a,q= .done a∧∃ys,a=Sum.inl ys∧Is xs (pdq AN xs.toArray 0 13 4 true true) ys)):=by
  intro Z bZ bD;obtain⟨z1,b0,cf⟩:=bZ;have cg:Z.length=13:=by omega
  refine AD (Yj (F:=F) (a:=0) (b:=13) (pv:=R.pivot) (xs:=Z) (by omega) (by omega) a8.2 (by omega) (by omega) b0) ?_;rw [z1];have ag:=partition_holds AN MQ R.pi.1 0 13 R.pivot a8.1 a8.2 (by omega);have a2:=fun bd=>pdq_left (lt:=AN) (d:=xs.toArray) (a:=0) (b:=13) (limit:=4) (wb:=true) (wp:=true) a9 (by omega) (by rw [K];exact bD) (by simp) (by rw [K];exact⟨ag.1,ag.2.1⟩) bd;have a3:=fun bd=>pdq_right (lt:=AN) (d:=xs.toArray) (a:=0) (b:=13) (limit:=4) (wb:=true) (wp:=true) a9 (by omega) (by rw [K];exact bD) (by simp) (by rw [K];exact⟨ag.1,ag.2.1⟩) bd;rw [K] at a2 a3;rw [bJ] at a2 a3;generalize partition AN R.pi.1 0 13 R.pivot=PA at ag a2 a3 ⊢;obtain⟨m,ci,d4⟩:=PA;rintro⟨ck,b1,al⟩ ⟨k1,U,V,be,b2⟩;simp only at k1 U V be b2 ag a2 a3 ⊢;subst k1 U;have hm:m<13:=ag.2.1;have cm:al.length=13:=by omega
  refine AV (m:Int) (by omega) (by omega) (by omega) (AV ((13 - m:Nat):Int) (by omega) (by omega) (by omega) ?_);refine AO (b:=1) rfl ?_;by_cases bE:m - 0<13 - m
  ·refine AD (S:=fun q=>∃us,q=(((m+1:Nat):Int),((13:Nat):Int),decide ((1:Int)≤(m:Int)),us)∧Is al (insertionSort AN al.toArray 0 m) us) ?_ ?_
   ·refine Br (by omega) (AD (P8 (F:=F) (a:=0) (b:=m) (l:=4) (xs:=al) (by omega) (by omega) (by omega) (by omega) (by omega) be) ?_);intro us bi;exact AV ((m+1:Nat):Int) (by simp) (by omega) (by omega) (Ak ⟨us,rfl,bi⟩)
   ·rintro q ⟨us,rfl,u1,u2,b3⟩;refine Ak ?_;refine(Ob (F:=F) (a:=m+1) (b:=13) (l:=4) (xs:=us) (by omega) (by omega) (by omega) (by omega) (by omega) u2).Ah ?_;rintro st ⟨ys,rfl,v1,v2,b4⟩;refine⟨_,rfl,ys,rfl,?_,v2,by omega⟩;rw [v1,u1,V,a2 bE,pdq_small (by omega),pdq_small (by omega)]
  ·refine AD (S:=fun q=>∃us,q=((0:Int),(m:Int),decide ((1:Int)≤((13 - m:Nat):Int)),us)∧Is al (insertionSort AN al.toArray (m+1) 13) us) ?_ ?_
   ·refine A9 (by omega) (AV ((m+1:Nat):Int) (by simp) (by omega) (by omega) ?_);refine AD (P8 (F:=F) (a:=m+1) (b:=13) (l:=4) (xs:=al) (by omega) (by omega) (by omega) (by omega) (by omega) be) ?_;intro us bi;exact Ak ⟨us,rfl,bi⟩
   ·rintro q ⟨us,rfl,u1,u2,b3⟩;refine Ak ?_;have:=Ob (F:=F) (a:=0) (b:=m) (l:=4) (wb:=decide ((1:Int)≤((13 - m:Nat):Int))) (wp:=b1) (xs:=us) (by omega) (by omega) (by omega) (by omega) (by omega) u2;refine AZ.Ah this ?_;rintro st ⟨ys,rfl,v1,v2,b4⟩;refine⟨_,rfl,ys,rfl,?_,v2,by omega⟩;rw [v1,u1,V,a3 bE,pdq_small (by omega),pdq_small (by omega)]
 have b5:AZ (Hr F 4 (0,((13:Nat):Int),true,true,xs)) (fun st=>(∃a,st= .done a∧∃ys,a=Sum.inl ys∧Is xs (pdq AN xs.toArray 0 13 4 true true) ys)∨
   ∃s',st= .more s'∧AZ (Hr F 4 s') (fun q=>∃a,q= .done a∧∃ys,a=Sum.inl ys∧Is xs (pdq AN xs.toArray 0 13 4 true true) ys)):=by
  unfold Hr;refine AD (S:=fun r=>(∃ys,r=Sum.inl ys∧Is xs (pdq AN xs.toArray 0 13 4 true true) ys)∨∃s',r=Sum.inr s'∧AZ (Hr F 4 s') (fun q=>∃a,q= .done a∧∃ys,a=Sum.inl ys∧Is xs (pdq AN xs.toArray 0 13 4 true true) ys)) ?_ ?_
  ·refine AV 13 (by dsimp only;omega) (by omega) (by omega) (A9 (by omega) ?_);refine A9 (by omega) (AD (S:=fun _=>True) (A9 (by simp) (Ak trivial)) fun _ _=>?_);refine AO bz (AD bO ?_);rintro⟨q1,q2,av⟩ ⟨am,ap,Y⟩;simp only at am ap Y ⊢;subst am ap;refine AO (b:=true) (by simp) (AO (b:=decide (IC R.hint=1)) (by simp) ?_);have b6:AZ (if(decide (IC R.hint=1))=true then(f183 F av 0 ((13:Nat):Int)).bind fun bo=>if bo.1=true then some (Sum.inl bo.2) else some (Sum.inr bo.2) else some (Sum.inr av))
     (fun r=>(R.pi.2=true∧∃ys,r=Sum.inl ys∧Is xs R.pi.1 ys)∨(R.pi.2=false∧∃ys,r=Sum.inr ys∧Is xs R.pi.1 ys)):=by
    by_cases hh:R.hint= .increasing
    ·refine Br (by rw [hh];rfl) ?_;obtain⟨k1,U,V⟩:=Y;obtain⟨bv,g2⟩:=X8 (F:=F) (a:=0) (b:=13) (xs:=av) (by omega) (by omega) (by omega) (by omega) (by omega) U;rw [k1] at bv g2;rw [← bM hh] at bv g2;refine AO bv (Bn (fun h=>?_) (fun h=>?_))
     ·exact Ak (.inl ⟨h,av,rfl,by rw [g2];exact k1,U,V⟩)
     ·exact Ak (.inr ⟨by simpa using h,av,rfl,by rw [g2];exact k1,U,V⟩)
    ·refine A9 (by intro h;cases bb:R.hint <;> rw [bb] at h hh <;> first | (exact hh rfl) | (simp [IC] at h)) ?_
     rw [bN hh];exact Ak (.inr ⟨rfl,av,rfl,Y⟩)
   refine AD b6 ?_;rintro r (⟨p2,ys,rfl,bw⟩ | ⟨p2,Z,rfl,b7⟩)
   ·refine Ak (.inl ⟨ys,rfl,?_⟩);rw [pdq_done a9 (by omega) (by rw [K];exact p2),K];exact bw
   ·rw [Sum.elim_inr];refine AD (S:=fun c=>c=false) (A9 (by omega) (Ak rfl)) ?_;rintro c rfl;refine A9 (by simp) ?_;obtain⟨s',a0,a4⟩:=bT Z b7 p2;have cn:∀{α β:Type} (o:Option α) (f:α→Option β) (g:β→(List PT)⊕(Int×Int×Bool×Bool×List PT)),True:=fun _ _ _=>trivial;refine AZ.of_eq (a:=Sum.inr s') ?_ (.inr ⟨s',rfl,a4⟩);have key:∀(o:Option (Int×Int×Bool×Bool×List PT)),o=some s'→(o.bind fun x=>some (Sum.inr x:List PT⊕(Int×Int×Bool×Bool×List PT)))=some (Sum.inr s'):=fun o b8=>by rw [b8];rfl
    refine Eq.trans ?_ (key _ a0);simp only [Option.bind_assoc,Option.bind_some]
  ·rintro r (⟨ys,rfl,bw⟩ | ⟨s',rfl,b9⟩)
   ·exact Ak (.inl ⟨_,rfl,ys,rfl,bw⟩)
   ·exact Ak (.inr ⟨s',rfl,b9⟩)
 obtain⟨co,bF⟩:∃k,F=k+2:=⟨F - 2,by omega⟩;obtain⟨st,a0,a4 | a4⟩:=b5
 ·obtain⟨a,rfl,a6⟩:=a4;rw [bF] at a0 ⊢;unfold iter;rw [a0];exact⟨a,rfl,a6⟩
 ·obtain⟨s',rfl,a6⟩:=a4;rw [bF] at a0 a6 ⊢;exact Wq a0 (Wp a6)
end Pal
namespace Pal
open Go Go.Conc Go.Proofs
open Go.Proofs.Tryz
variable {J:Judge Tryz.prog}{E:LH}
def Rt(fuel:Nat)(p1:Int)(K:Int)(U:Unit):Option (Bf Unit Unit):= Option.bind (if p1<K then(none) else(some false)) fun O=> if O=true then((Au (K - 1)).bind fun V=> (Au (K - 1)).bind fun Y=> none) else(some (.done ()))
def Q0(fuel:Nat)(p1:Int)(p2:Int)(K:Int):Option (Bf Int Unit):= if K<p2 then(Option.bind (iter (Rt fuel p1 K) fuel ()) fun U=> (Au (K+1)).bind fun O=> some (.more O)) else(some (.done ()))
def Pk(fuel:Nat)(p1:Int)(p2:Int):Option Unit:= (Au (p1+1)).bind fun K=> Option.bind (iter (Q0 fuel p1 p2) fuel K) fun O=> some ()
theorem Xl{p1:Int}{p2:Int}{fuel:Nat}{r:Unit}(V:Pk fuel p1 p2=some r):AM J 178 [nS,iV p1,iV p2,(fV 134)] E [] (fun w E' B'=>w= .tuple #[]∧B'= []):=by
 refine A4 func178 fun Q bY cs H a2 a3=>?_;unfold Pk at V;obtain⟨bZ,a4,a5⟩:=bs V;refine zg 3 rfl (Bc a4 rfl rfl rfl ?_);obtain⟨b0,a6,a7⟩:=bs a5;refine zg 2 rfl (C4 [] [] (fun b1 a8 a9=>?_) (fun bb=>?_))
 ·obtain rfl:=oi a7;exact JL.fin (v:= .tuple #[]) rfl rfl (Cs.list func178 rfl (vs:= []) trivial) (a3 a8 rfl ⟨rfl,rfl⟩ a9)
 ·refine JL.block (Cz a6 (fun K=> []) (fun K=> [(0,.slice none 0 0),(1,iV p1),(2,iV p2),(3,(fV 134)),(8,iV K)]) Ar a2 ?_);rintro K b2 Y Z bd ⟨b3,O⟩ be;have ag:=O;unfold Q0 at ag;refine zg 7 rfl (AL ag (fun bi bo=>?_) (fun bi bv=>?_))
  ·obtain⟨b4,bw,bz⟩:=bs bo;refine zg 8 rfl (C4 [] [(0,.slice none 0 0),(1,iV p1),(2,iV p2),(3,(fV 134)),(8,iV K)] (fun b5 bA bB=>?_) (fun bC=>?_))
   ·obtain⟨bD,bE,bF⟩:=bs bz;refine zg 3 rfl (Bc bE rfl rfl rfl ?_);refine zg 2 rfl ?_;obtain rfl:=oi bF;exact be bD (Y.Ac bA) bB rfl O
   ·refine JL.block (Cz bw (fun al=> []) (fun al=> [(0,.slice none 0 0),(1,iV p1),(2,iV p2),(3,(fV 134)),(8,iV K),(9,iV K)]) Ar Z ?_);rintro al am bG bH bI ⟨b6,ap⟩ b7;have av:=ap;unfold Rt at av;refine zg 2 rfl (C7 17 fun ht=>?_);refine A0 ht rfl [0,1,2,3] rfl ?_;obtain⟨bJ,a0,bK⟩:=bs av;refine Ed 0 #[true,true,true,true,true,true,true,true,true,true,true,true,true,true,true,true,true] (fun L s=>∃(a1:LH),Jm am H a1 [] [(0,.slice none 0 0),(1,iV p1),(2,iV p2),(3,(fV 134)),(8,iV K),(9,iV K),(34,.bool bJ)] L s) ?_ ?_
    ·rintro _ _ ⟨a1,rfl,rfl,bL,bM⟩;refine AX.fin (by decide+kernel) (BJ bK (fun bN bO=>?_) (fun bN bP=>?_))
     ·refine zg 3 rfl (C7 16 fun ht=>?_);refine A0 ht rfl [0,1,2,3] rfl ?_;obtain⟨b8,bQ,bR⟩:=bs bO;refine BC 4 ht rfl rfl (fun ρ h s' hs=>Dc (h _ _ rfl) (h _ _ rfl) bQ) (A0 ht rfl [5,6] rfl ?_);obtain⟨b9,bS,bT⟩:=bs bR;refine BC 7 ht rfl rfl (fun ρ h s' hs=>Dc (h _ _ rfl) (h _ _ rfl) bS) ?_;cases bT
     ·refine JL.exit rfl ?_;obtain rfl:=oi bP;obtain rfl:=bI _ ap;exact bC (bG.Ac bL) bM rfl
    ·intro bU;refine Ft (q:=p1<K) (i:=21) rfl (fun U=>?_) (fun U=>?_)
     ·have bV:=ip a0 U;refine A0 ht rfl [4,5,6] rfl ?_;cases bV
     ·have bW:=im a0 U;refine A0 ht rfl [4,5,6,7,8,9,10,11,12,13,14,15,16] rfl ?_;obtain rfl:=oi bW;refine CE ?_ (bU _ _ ⟨am,rfl,rfl,Ar,bH⟩);exact⟨rfl,rfl,rfl,rfl,rfl,rfl,rfl,trivial⟩
  ·refine JL.exit rfl ?_;obtain rfl:=oi bv;obtain rfl:=bd _ O;exact bb Y Z rfl
def Q7(fuel:Nat)(p1:Int)(p2:Int)(p3:Int)(O:Unit):Option (Bf Unit ((Unit)⊕(Unit))):= (Au (p2 - p1)).bind fun K=> if K≤12 then((Pk fuel p1 p2).bind fun U=> some (.done (Sum.inl ()))) else(if p3=0 then(none) else(none))
def Pl(fuel:Nat)(p1:Int)(p2:Int)(p3:Int):Option Unit:= Option.bind (iter (Q7 fuel p1 p2 p3) fuel ()) fun K=> Sum.elim (fun r=>some r) (fun O=> none) K
theorem XM{p1:Int}{p2:Int}{p3:Int}{fuel:Nat}{r:Unit}(K:Pl fuel p1 p2 p3=some r):AM J 162 [nS,iV p1,iV p2,iV p3,(fV 134)] E [] (fun w E' B'=>w= .tuple #[]∧B'= []):=by
 refine A4 func162 fun Q bo cs H Y Z=>?_;unfold Pl at K;obtain⟨bv,ag,al⟩:=bs K;refine zg 8 rfl (Bp (fun L s=>False) ?_ ?_)
 ·intro _ _ am;exact am.elim
 ·intro bw;refine JL.block (Cz ag (fun O=> []) (fun O=> [(0,.slice none 0 0),(1,iV p1),(2,iV p2),(3,iV p3),(4,(fV 134)),(10,.bool true),(11,.bool true)]) Ar Y ?_);rintro O bz ap av a0 ⟨bA,U⟩ bB;have V:=U;unfold Q7 at V;obtain⟨bC,a1,a2⟩:=bs V;refine zg 5 rfl (Cd a1 rfl rfl rfl ?_);refine zg 8 rfl (AL a2 (fun a3 a4=>?_) (fun a3 a5=>?_))
  ·obtain⟨bD,a6,a7⟩:=bs a4;refine zg 6 rfl (BF (Xl a6) rfl rfl N5 av fun bE a8 a9=>?_);refine JL.done ?_;obtain rfl:=oi a7;obtain rfl:=a0 _ U;have bb:=elim_inl al;obtain rfl:=oi bb;exact AA func162 rfl rfl (Z (ap.Ac a8) rfl ⟨rfl,rfl⟩ a9)
  ·refine zg 7 rfl (AL a5 (fun bd be=>?_) (fun bd bi=>?_))
   ·refine zg 6 rfl ?_;cases be
   ·refine zg 5 rfl (AE (v:= .bool false) rfl (fun ρ h=>Yl.not (c:=true) (h _ _ rfl)) ?_);refine zg 9 rfl ?_;cases bi
def To(fuel:Nat):Option Unit:= (f163 fuel (Dh ((0:Nat):Int))).bind fun K=> (Pl fuel 0 ((0:Nat):Int) K).bind fun O=> some ()
theorem Xe{fuel:Nat}{r:Unit}(K:To fuel=some r):AM J 133 [nS,(fV 134)] E [] (fun w E' B'=>w= .tuple #[]∧B'= []):=by
 refine A4 func133 fun Q a0 cs H O U=>?_;unfold To at K;refine zg 3 rfl (Be underlying130 rfl rfl rfl ?_);refine zg 6 rfl (AE (v:= .int .u64 ((Dh ((0:Nat):Int):Nat):Int)) rfl (fun ρ h=>Yl.Dh underlying3 underlying156 (h _ _ rfl)) ?_);obtain⟨a1,V,Y⟩:=bs K;refine BF (S1 V) rfl rfl (AR func163 rfl) O fun a2 Z ag=>?_;obtain⟨a3,al,am⟩:=bs Y;refine zg 1 rfl (BF (XM al) rfl rfl LZ ag fun a4 ap av=>?_);refine JL.done ?_;obtain rfl:=oi am;exact JL.fin (v:= .tuple #[]) rfl rfl (Cs.list func133 rfl (vs:= []) trivial) (U (Z.Ac ap) rfl ⟨rfl,rfl⟩ av)
end Pal
namespace Pal
open Go Go.Conc Go.Proofs Go.Sort
theorem U9:∀(ys K:List PT),K.Perm ys→ys.Pairwise (fun p q=>p.1<q.1)→K.Pairwise (fun p q=>p.1≤q.1)→K=ys:=by
 intro ys
 induction ys with
 | nil=>intro K h _ _;exact h.eq_nil
 | cons y ys Z=>
  intro K h O U;cases K with
  | nil=>exact absurd h.symm.eq_nil (by simp)
  | cons z K=>
   rw [List.pairwise_cons] at O U;have V:z∈y::ys:=h.mem_iff.1 (by simp);have Y:y∈z::K:=h.mem_iff.2 (by simp);have e:z=y:=by
    rcases List.mem_cons.1 V with e | V
    ·exact e
    ·rcases List.mem_cons.1 Y with e | Y
     ·exact e.symm
     ·have:=O.1 z V;have:=U.1 y Y;omega
   subst e;rw [Z K ((List.perm_cons z).1 h) O.2 U.2]
theorem XD{F:Nat}{xs ys:List PT}(av:3000<F)(a7:xs.length≤13)(Y:KO xs)(a0:ys.Perm xs)(hs:ys.Pairwise (fun p q=>p.1<q.1)):f133 F xs=some ys:=by
 have fin:∀(d:Array PT) (K:List PT),PermIn 0 xs.toArray.size xs.toArray d→SortedIn AN 0 xs.toArray.size d→K.toArray=d→K=ys:=by
  rintro d K Z a1 rfl;have ag:K.Perm xs:=by
   have al:=Z.2.2;have O:=Z.1;simp only [List.size_toArray] at O al;have a2:(K.toArray.extract 0 xs.length).toList=K:=by simp [← O]
   have a3:(xs.toArray.extract 0 xs.length).toList=xs:=by simp
   rwa [a2,a3] at al
  refine U9 ys K (ag.trans a0.symm) hs ?_;rw [List.pairwise_iff_getElem];intro i j hi am a4;have h:=a1 i j (Nat.zero_le _) a4 (by simpa using (ag.length_eq▸am));rw [Gy hi,Gy am] at h;simpa [AN] using h
 have h:AZ (f133 F xs) (fun K=>K=ys):=by
  unfold f133;rcases Nat.lt_or_ge xs.length 13 with ap | ap
  ·obtain⟨l,O⟩:=Xs F xs.length ap;refine AO O (AD (UK (F:=F) (n:=xs.length) (l:=l) (by omega) rfl (by omega) Y) ?_);rintro K ⟨k1,a5,a6⟩;obtain⟨V,g2⟩:=insertionSort_holds MQ xs.toArray 0 xs.length (Nat.zero_le _) (by simp);exact Ak (fin _ K (by simpa using V) (by simpa using g2) k1)
  ·have U:xs.length=13:=by omega
   refine AO (b:=4) (by rw [U];exact V7 F) ?_;rw [U];refine AD (Xg (F:=F) (xs:=xs) av U Y) ?_;rintro K ⟨k1,a5,a6⟩;obtain⟨V,g2⟩:=pdq_sorts AN MQ xs.toArray 0 13 4 true true (Nat.zero_le _) (by simp [U]) (.inl rfl);have e:xs.toArray.size=13:=by simpa using U
   exact Ak (fin _ K (by rw [e];exact V) (by rw [e];exact g2) k1)
 obtain⟨K,O,rfl⟩:=h;exact O
theorem Y6{J:Judge Tryz.prog}{E:LH}{a:Option Addr}{c:Nat}{g:Seg}{xs ys:List PT}(U:xs.length≤13)(V:KO xs)(O:ys.Perm xs)(hs:ys.Pairwise (fun p q=>p.1<q.1))(Y:OL 133 (rP rI (rP rI (rL (rP rI (rP (rL rI) (rN .u16)))))) E a c g xs):
  AM J 133 [.slice a xs.length c,.func (.func 134) #[] #[]] E g (fun w E' B'=>w= .tuple #[]∧OL 133 (rP rI (rP rI (rL (rP rI (rP (rL rI) (rN .u16)))))) E' a c B' ys):=by
 rcases Y.cases with⟨rfl,rfl,rfl,rfl⟩ | ⟨bk,f,rfl,rfl,hW⟩
 ·obtain rfl:ys= []:=O.eq_nil;refine(Xe (fuel:=10) (r:=()) rfl).Ah ?_;rintro w E' B' hle ⟨K,rfl⟩;exact⟨K,OL.nil⟩
 ·refine(Z2 hW (fuel:=4000) (XD (by omega) U V O hs)).Ah ?_;rintro w E' B' hle ⟨ag,K,rfl,Z⟩;exact⟨K,Z.1⟩
end Pal
namespace Pal
open Go Go.Conc Go.Proofs
open Go.Proofs.Tryz
open Go.Conc.Lib Go.ConcR.Gen
def D3(qs:Nat→Int×List (Ch)):List (Bu):=((List.range 13).filter (fun j=>decide (0<(qs j).2.length))).map (partOf qs)
theorem X5
  {E:LH} {k1 o2:Nat} {a4 a5 a6:An} {a7 a8 a9:Nat} {bb:List Value} {U:BZ} {lk:AI} (al:At E k1 o2 (([sV a4 U.1 a7,sV a5 U.2.1 a8]:List Value)++bb)) (bv:Am (rL rI) E a4 a7 U.1) (bw:Am (rL rI) E a5 a8 U.2.1) (bz:(rA 13 (rN .u16)).r E bb U.2.2) (bA:Am Bo E a6 a9 lk) {fuel:Nat} {qs:Nat→Int×List (Ch)} (bB:∀j,j<13→GF fuel U lk ((j:Nat):Int)=some (qs j)):
  AM (DZ Tryz.prog) 102 [pV k1 o2,.slice a6 lk.length a9] E [] (fun w E' B'=>∃a c,w= .slice a (D3 qs).length c∧B'= []∧Am Cx E' a c (D3 qs)):=by
 refine J2 func102 rfl rfl fun Q cc cs H bC bD=>zg 2 rfl (B7 bC fun bE cd bF am bG=>?_);refine B7 bG fun bH ce bd bI bJ=>?_;refine DL (S':= []) (by simp) bJ fun bK=>zg 4 rfl (JS.makeChan rfl rfl rfl underlying162 (CS type133) bK fun ch bL=>?_);refine CU bL (Dw type162) fun rc bM=>?_;refine JS.store (v:= .chan (some ch)) (off:=0) 1 rfl rfl rfl bM rfl rfl (Bw type162) (by simp [Value.cells,CV]) rfl (Nat.le_of_ble_eq_true rfl) fun bN=>C3 1 bN rfl fun V ap av bO=>zg 3 rfl (CU bO (Dw type171) fun wg bP=>?_);refine DL (S':= [[(ch,.chan 0 #[] false 0 0 false)],[(wg,.cells #[.int .u64 0,.int .u32 0] 171 (0,0))]]) (by simp [Value.cells]) bP fun ag=>zg 7 rfl (IS ?_);refine IA [(2,pV bE 0),(3,pV bH 0),(5,pV rc 0),(6,pV wg 0),(11,iV ((0:Nat):Int))] rfl ?_;have bQ:=bF.Ac bd;have Y:=bQ.Ac ap;have a0:=Nd.iff.1 ag;intro T bR;let F:Fam:=⟨wg,ch,171,13,fun j=>decide (0<(qs j).2.length),fun kk v E=>kk<13∧∃a c,v= .agg #[iV ((kk:Nat):Int),iV (qs kk).1,.slice a (qs kk).2.length c]∧Am Dq E a c (qs kk).2,fun g s=>(DZ Tryz.prog).ok Q g s⟩;refine XK F (Nat.le_of_ble_eq_true rfl) (show 13<2147483647 by omega) ?_ ?_ (NO (j:=1) ag rfl) (NO (j:=0) ag rfl) ?_ (fun g s h=>h)
 ·rintro kk v cf cg a1 ⟨Z,a,c,bS,al⟩;exact⟨Z,a,c,bS,al.Ah a1⟩
 ·intro e;have:=a0.1;simp at this;exact this e.symm
 have bT:=UC ag;show Way Tryz.prog true (Stop Tryz.prog F (.Fy 0)) _ (⟨(Ao V H [[(ch,.chan 0 #[] false 0 0 false)],[(wg,.cells #[.int .u64 0,.int .u32 0] 171 (0,0))]]).E,Iu (Ao V H [[(ch,.chan 0 #[] false 0 0 false)],[(wg,.cells #[.int .u64 0,.int .u32 0] 171 (0,0))]]).H wg ch,false⟩:St);rw [show(Ao V H [[(ch,.chan 0 #[] false 0 0 false)],[(wg,.cells #[.int .u64 0,.int .u32 0] 171 (0,0))]]).E=V from rfl,bT];have bU:Ay V H []:=trivial;refine UT (F:=F) rfl (al.Ah Y) (bv.Ah Y) (bw.Ah Y) (Rp.Ah _ Y bz) (bA.Ah Y) (am.Ah (bd.Ac ap)) (bI.Ah ap) av bB (fun j _=>rfl) (fun j bV E' a c bW=>⟨bV,a,c,rfl,bW⟩) (fun be a2 ci=>?_) 13 0 rfl (by decide) V Ar bU T bR;refine zg 9 rfl ?_;refine AE (v:= .func (.func 131) #[] ([.pointer (some F.sA),pV rc 0]:List Value).toArray) rfl (fun ρ h=>IV (by simp) (by simp [h (.tmp 6) _ rfl,h (.tmp 5) _ rfl])) ?_;have bi:=Wd (F:=F) (show 13<2147483648 by omega) (av.Ah a2);refine JL.GJ (fi:= #[]) rfl rfl rfl rfl rfl rfl rfl (by first | exact bi | (simp only [List.append_toArray,List.nil_append,Array.append_empty,Array.empty_append];exact bi)) ?_
 refine zg 8 rfl (AE (v:= .chan (some ch)) rfl (fun ρ h=>Yl.load LS (h _ _ rfl) (At.J8 (j:=0) (av.Ah a2) rfl)) ?_);refine zg 2 rfl (IS ?_);refine IA [(8,.slice none 0 0),(18,.chan (some ch))] rfl ?_;have bY:Ay be H [[]]:=trivial;refine Vb (F:=F) (Q:=Q) rfl (fun g s h=>h) (qs:=qs) (fun kk v E' h=>h.2) (fun K ck a c g bZ a0 bo b0 b1 b2=>?_) 13 [] [] be none 0 [] rfl List.nodup_nil (by simp) (by decide) Ar OL.nil bY;have a3:(D3 qs).Perm (K.map (partOf qs)):=by
  unfold D3;refine List.Perm.map _ ?_;refine(List.perm_ext_iff_of_nodup (List.nodup_range.filter _) a0).2 fun x=>?_;constructor
  ·intro O;simp at O;exact b0 x O.1 (by simpa [F] using O.2)
  ·intro O;have Z:=bo x O;simp;exact⟨Z.1,by simpa [F] using Z.2⟩
 have b3:(D3 qs).Pairwise (fun p q=>p.1<q.1):=by
  unfold D3;rw [List.pairwise_map];refine List.Pairwise.filter _ (List.Pairwise.imp ?_ List.pairwise_lt_range);intro a b a1;exact Int.ofNat_lt.2 a1
 have hlen:(K.map (partOf qs)).length≤13:=by
  rw [← a3.length_eq];unfold D3;rw [List.length_map];exact Nat.le_trans (List.length_filter_le _ _) (by simp)
 have b4:KO (K.map (partOf qs)):=by
  intro x O;obtain⟨j,am,rfl⟩:=List.mem_map.1 O;have Z:=(bo j am).1;simp only [partOf];omega
 have b5:(K.map (partOf qs)).length=(D3 qs).length:=a3.length_eq.symm;refine zg 3 rfl ?_;refine OE (vs:= [.slice a (K.map (partOf qs)).length c,.func (.func 134) #[] #[]]) 0 (Y6 hlen b4 a3 b3 b1) rfl rfl rfl (AR func133 rfl) rfl b2 rfl ?_;rintro _ cm g' b6 ⟨rfl,b7⟩ b8;refine zg 6 rfl ?_;refine B6 0 b7 b8 rfl fun cn b9 ca cb=>?_;refine JL.ret (v:= .slice a (K.map (partOf qs)).length c) rfl rfl (Cs.list func102 rfl (vs:= [.slice a (K.map (partOf qs)).length c]) ⟨rfl,trivial⟩) ?_;exact bD _ _ _ [] ((((Y.Ac a2).Ac bZ).Ac b6).Ac b9) (by simp) ⟨a,c,by rw [b5],rfl,ca⟩ cb
end Pal
namespace Pal
open Go Go.Conc Go.Proofs
open Go.Proofs.Tryz
open Go.Conc.Lib Go.ConcR.Gen
def J3(fuel:Nat)(K:BZ)(lk:AI):Option (List (Bu)):=
 if(List.range 13).all (fun j=>(GF fuel K lk ((j:Nat):Int)).isSome)=true then some (D3 fun j=>(GF fuel K lk ((j:Nat):Int)).getD (0,[])) else none
theorem QR
  {E:LH} {k1 o2:Nat} {U V Y:An} {Z ag al:Nat} {am:List Value} {K:BZ} {lk:AI} (a1:At E k1 o2 (([sV U K.1 Z,sV V K.2.1 ag]:List Value)++am)) (a2:Am (rL rI) E U Z K.1) (a3:Am (rL rI) E V ag K.2.1) (a4:(rA 13 (rN .u16)).r E am K.2.2) (a5:Am Bo E Y al lk) {fuel:Nat} {r:List (Bu)} (O:J3 fuel K lk=some r):
  AM (DZ Tryz.prog) 102 [pV k1 o2,.slice Y lk.length al] E [] (fun w E' B'=>∃(ap:An) (av:Nat),w= .slice ap r.length av∧B'= []∧Am Cx E' ap av r):=by
 unfold J3 at O;split at O
 ·rename_i a0;cases O;refine(X5 a1 a2 a3 a4 a5 (fuel:=fuel) (qs:=fun j=>(GF fuel K lk ((j:Nat):Int)).getD (0,[])) fun j a6=>?_).Ah ?_
  ·rw [List.all_eq_true] at a0;obtain⟨q,a7⟩:=Option.isSome_iff_exists.1 (a0 j (List.mem_range.2 a6));rw [a7];rfl
  ·rintro w E' B' _ ⟨a,c,a8,a9,bb⟩;exact⟨a,c,a8,a9,bb⟩
 ·cases O
end Pal
namespace Pal
open Go Go.Conc Go.Proofs
open Go.Proofs.Tryz
def K8(fuel:Nat)(O:Bu)(K:Int×(List Ch)×Int):Option (Bf (Int×(List Ch)×Int) (Int×(List Ch))):= if K.2.2<(O.2.2.length:Int) then((ix O.2.2 K.2.2).bind fun V=> (IG fuel K.1 K.2.1 V O.2.1).bind fun U=> (Au (K.2.2+1)).bind fun Y=> some (.more (U.1,U.2,Y))) else(some (.done (K.1,K.2.1)))
def MX(fuel:Nat)(O:(List Bu))(K:Int×(List Ch)×Int):Option (Bf (Int×(List Ch)×Int) (Int×(List Ch))):= if K.2.2<(O.length:Int) then((ix O K.2.2).bind fun V=> Option.bind (iter (K8 fuel V) fuel (K.1,K.2.1,0)) fun U=> (Au (K.2.2+1)).bind fun Y=> some (.more (U.1,U.2,Y))) else(some (.done (K.1,K.2.1)))
def f93(fuel:Nat)(p0:BZ)(p1:AI):Option ((Int×(List Ch))):= (J3 fuel p0 p1).bind fun K=> Option.bind (iter (MX fuel K) fuel (0,[],0)) fun O=> some O
theorem NB{E:LH}{k1:Nat}{o2:Nat}{bE:An}{bF:Nat}{bG:An}{bH:Nat}{bI:List Value}{bJ:An}{bK:Nat}{p0:BZ}{p1:AI}(b0:At E k1 o2 (([sV bE p0.1 bF,sV bG p0.2.1 bH]:List Value)++bI))(b1:Am (rL rI) E bE bF p0.1)(b2:Am (rL rI) E bG bH p0.2.1)(b3:(rA 13 (rN .u16)).r E bI p0.2.2)(b4:Am Bo E bJ bK p1){fuel:Nat}{r:(Int×(List Ch))}(bL:f93 fuel p0 p1=some r):AM (DZ Tryz.prog) 93 [pV k1 o2,sV bJ p1 bK] E [] (fun w E' B'=>∃(bM:An) (bN:Nat),w= .agg #[iV r.1,sV bM r.2 bN]∧B'= []∧Am Dq E' bM bN r.2):=by
 refine A4 func93 fun Q dm cs H b5 b6=>?_;unfold f93 at bL;refine zg 2 rfl (CU b5 Gb fun O b7=>?_);refine zg 3 rfl (CU b7 Gb fun U b8=>?_);obtain⟨ag,b9,ca⟩:=bs bL;refine zg 6 rfl (BO (QR b0 b1 b2 b3 b4 b9) rfl rfl (AR func102 rfl) b8 ?_);rintro _ be _ cb ⟨bi,bo,rfl,rfl,cc⟩ cd;refine Be underlying130 rfl rfl rfl ?_;obtain⟨K,ce,cf⟩:=bs ca;refine zg 2 rfl (Bp (fun L s=>∃(bv:LH) (V:An) (Y:Nat) (bw:Seg),Jn be H bv [bX O #[iV 0,nS] 97,bX U #[iV K.1,sV V K.2 Y] 97,bw] [(4,pV O 0),(5,pV U 0)] L s (OL 104 Dq bv V Y bw K.2)) ?_ ?_)
 ·rintro _ _ ⟨bv,V,Y,bw,rfl,rfl,cg,bO,ci⟩;refine zg 2 rfl (AE rfl (fun ρ h=>FY (vs:= [iV K.1,sV V K.2 Y]) Ic Dr (h _ _ rfl) (FV (off:=0) 1 bO rfl rfl)) ?_);refine BY 0 bO Dr fun ck=>?_;refine JL.done (B6 2 ci ck rfl fun dn cm cn co=>?_);refine JS.drop 1 co rfl fun bP=>?_;obtain rfl:=oi cf;refine JL.ret (v:= .agg #[iV K.1,sV V K.2 Y]) rfl rfl (Cs.list func93 rfl (vs:= [.agg #[iV K.1,sV V K.2 Y]]) ⟨⟨_,rfl,Ld.many (vs:= [iV K.1,sV V K.2 Y]) Ic Dr (FV (off:=0) 0 bP rfl rfl)⟩,trivial⟩) (Iw 0 bP rfl fun cp=>?_);exact b6 ((cb.Ac cg).Ac cm) rfl ⟨V,Y,rfl,rfl,cn⟩ cp
 ·intro cq;refine JL.block (CP ce (fun L s Z=>∃(a1:LH) (al:An) (am:Nat) (ap:Seg),Jn be H a1 [bX O #[iV 0,nS] 97,bX U #[iV Z.1,sV al Z.2.1 am] 97,ap] [(4,pV O 0),(5,pV U 0),(12,sV bi ag bo),(13,iV (ag.length:Int)),(14,iV Z.2.2)] L s (OL 104 Dq a1 al am ap Z.2.1)) ⟨be,none,0,[],rfl,rfl,Ar,cd,OL.nil⟩ ?_);rintro _ _ Z ⟨a1,al,am,ap,rfl,rfl,bz,bQ,bR⟩ cr ⟨dp,bA⟩ ct;have bS:=bA;unfold MX at bS;refine zg 5 rfl (AL bS (fun cu cv=>?_) (fun cu cw=>?_))
  ·obtain⟨bT,cy,cz⟩:=bs cv;refine zg 5 rfl (BN (cc.Ah bz) cy underlying130 AS ?_);rintro dq dr _ ⟨_,_,rfl,rfl,⟨_,_,rfl,rfl,⟨cA,cB,rfl,cC⟩⟩⟩ cD;refine BQ cD Ct AS rfl rfl (CU bQ Ie fun cE cF=>?_);refine BY 3 cF AS fun cG=>?_;refine C3 3 cG rfl fun bB bC bU cH=>zg 3 rfl (BM underlying133 Dr rfl rfl rfl ?_);refine JL.fl 2 bU underlying97 Dv ER ?_;refine Be underlying95 rfl rfl rfl ?_;obtain⟨av,cI,cJ⟩:=bs cz;refine zg 2 rfl (Bp (fun L s=>∃(a2:LH) (a3:An) (a4:Nat) (a5:Seg),Jn bB H a2 [bX O #[iV 0,nS] 97,bX U #[iV av.1,sV a3 av.2 a4] 97,a5] [(4,pV O 0),(5,pV U 0),(12,sV bi ag bo),(13,iV (ag.length:Int)),(14,iV Z.2.2)] L s (OL 104 Dq a2 a3 a4 a5 av.2)) ?_ ?_)
   ·rintro _ _ ⟨a2,a3,a4,a5,rfl,rfl,cK,cM,cN⟩;obtain⟨cO,cP,cQ⟩:=bs cJ;refine zg 2 rfl (Bc cP rfl rfl rfl ?_);refine zg 2 rfl ?_;obtain rfl:=oi cQ;exact Ax (ct _ _ (av.1,av.2,cO) ⟨a2,a3,a4,a5,rfl,rfl,((bz.Ac bC).Ac cK),cM,cN⟩ bA) rfl
   ·intro cR;refine JL.block (CP cI (fun L s a0=>∃(a6:LH) (a7:An) (a8:Nat) (a9:Seg),Jn bB H a6 [bX O #[iV 0,nS] 97,bX U #[iV a0.1,sV a7 a0.2.1 a8] 97,a9] [(4,pV O 0),(5,pV U 0),(7,pV cE 0),(12,sV bi ag bo),(13,iV (ag.length:Int)),(14,iV Z.2.2),(20,sV cA bT.2.2 cB),(21,iV (bT.2.2.length:Int)),(22,iV a0.2.2)] L s (OL 104 Dq a6 a7 a8 a9 a0.2.1)) ⟨bB,al,am,ap,rfl,rfl,Ar,cH,(bR.Ah bC)⟩ ?_);rintro _ _ a0 ⟨a6,a7,a8,a9,rfl,rfl,bb,bV,bW⟩ cT ⟨dt,bD⟩ cV;have bY:=bD;unfold K8 at bY;refine zg 5 rfl (AL bY (fun cW cX=>?_) (fun cW cY=>?_))
    ·obtain⟨cZ,c0,c1⟩:=bs cX;refine zg 5 rfl (BN (cC.Ah (bC.Ac bb)) c0 underlying95 Cv ?_);rintro du dv _ ⟨_,_,rfl,rfl,⟨_,_,rfl,⟨dw,dx,rfl,c2⟩,rfl⟩⟩ c3;refine BQ c3 FU Cv rfl rfl (CU bV GV fun dy c4=>?_);refine BY 3 c4 Cv fun c5=>?_;refine C3 3 c5 rfl fun dz bd c6 c7=>zg 2 rfl (BQ c6 FU Cv rfl rfl ?_);refine BM underlying133 Dr rfl rfl rfl (JL.fl 1 (bU.Ah (bb.Ac bd)) underlying97 AU Bt ?_);obtain⟨bZ,c8,c9⟩:=bs c1;refine Ky 1 2 rfl rfl c7 fun da=>B9 1 (ZX (age:=0) (bW.Ah bd) (tr:=cZ) (c2.Ah bd) c8) rfl rfl (AR func122 rfl) da rfl ?_;rintro _ db _ dc ⟨dd,de,df,rfl,rfl,dg⟩ dh;refine ES 1 rfl dh fun di=>?_;obtain⟨dj,dk,dl⟩:=bs c9;refine zg 3 rfl (Bc dk rfl rfl rfl ?_);refine zg 2 rfl ?_;obtain rfl:=oi dl;exact Ax (cV _ _ (bZ.1,bZ.2,dj) ⟨db,dd,de,df,rfl,rfl,((bb.Ac bd).Ac dc),di,dg⟩ bD) rfl
    ·refine JL.exit rfl ?_;obtain rfl:=oi cY;obtain rfl:=cT _ bD;exact Ax (cR _ _ ⟨a6,a7,a8,a9,rfl,rfl,bb,bV,bW⟩) rfl
  ·refine JL.exit rfl ?_;obtain rfl:=oi cw;obtain rfl:=cr _ bA;exact Ax (cq _ _ ⟨a1,al,am,ap,rfl,rfl,bz,bQ,bR⟩) rfl
def f78(fuel:Nat)(p0:A2)(p1:AI)(p2:Int)(p3:Bool):Option ((Option BZ)×(Int×(List Ch))×Int):= (f69 fuel p0 p1).bind fun O=> if O≠0 then(some (none,(0,[]),O)) else((Au ((p1.length:Int) - 1)).bind fun V=> (f101 fuel p2 (-1) V).bind fun Y=> if Y=true then(some (none,(0,[]),3)) else((f92 fuel p0).bind fun Z=> (Z).bind fun U=> (f93 fuel U p1).bind fun K=> Option.bind (if(K.2.length:Int)=0 then(some (!p3)) else(some false)) fun ag=> if ag=true then(some (none,K,11)) else(some (some U,K,0))))
def f30(fuel:Nat)(p0:A2)(p1:AI):Option (Int×(List Int)×Int):= (f78 fuel p0 p1 (-1) false).bind fun K=> if K.2.2≠0 then(some (0,[],K.2.2)) else((ix K.2.1.2 (0)).bind fun O=> (ix K.2.1.2 (0)).bind fun U=> some (O.1,U.2.1,0))
end Pal
namespace Pal
open Go Go.Conc Go.Proofs
open Go.Proofs.Tryz
variable {J:Judge Tryz.prog}{E:LH}
def NN(fuel:Nat)(p0:AI):Option ((AI)):= (De ([]:AI) p0).bind fun K=> some K
theorem XX{ad:Addr}{c2:Nat}{p0:AI}(V:Am Bo E (some ad) c2 p0){fuel:Nat}{r:(AI)}(K:NN fuel p0=some r):AM J 123 [.slice (some ad) p0.length c2] E [] (fun w E' B'=>∃(O:An) (U:Nat) (g0:Seg),w= sV O r U∧B'=g0∧OL 27 Bo E' O U g0 r):=by
 refine A4 func123 fun Q a4 cs H Y Z=>?_;unfold NN at K;refine zg 8 rfl (AE (v:= .bool false) rfl (fun ρ h=>Ml (a:=(some ad)) underlying25 (h _ _ rfl) (h _ _ rfl)) ?_);refine zg 5 rfl (KV (pp:=Bo) rfl rfl rfl underlying25 Cf Y fun a5 g2 ag al=>?_);obtain⟨a6,am,ap⟩:=bs K;refine zg 1 rfl (KG (pp:=Bo) 1 am rfl rfl rfl rfl rfl rfl rfl underlying25 underlying25 Cf (CS type27) Et rfl (by decide) (by decide) ag V al rfl fun av a0 a1 a2 a3=>?_);refine zg 2 rfl ?_;obtain rfl:=oi ap;exact AA func123 rfl rfl (Z Ar rfl ⟨av,a0,a1,rfl,(by first | rfl | simp | (simp [Value.cells])),a2⟩ a3)
def Tt(fuel:Nat)(p0:AI):Option ((AI)):= some ([])
theorem Yp{c2:Nat}{p0:AI}(Z:Am Bo E none c2 p0){fuel:Nat}{r:(AI)}(K:Tt fuel p0=some r):AM J 123 [sV none p0 c2] E [] (fun w E' B'=>∃(O:An) (U:Nat) (g0:Seg),w= sV O r U∧B'=g0∧OL 27 Bo E' O U g0 r):=by
 refine A4 func123 fun Q ag cs H V Y=>?_;unfold Tt at K;refine zg 8 rfl (AE (v:= .bool true) rfl (fun ρ h=>Ml (a:=none) underlying25 (h _ _ rfl) (h _ _ rfl)) ?_);refine zg 6 rfl ?_;obtain rfl:=oi K;exact AA func123 rfl rfl (Y Ar rfl ⟨none,0,[],rfl,rfl,OL.nil⟩ V)
def f123(fuel:Nat)(p0:AI):Option AI:=NN fuel p0
theorem ao{O:An}{c2:Nat}{p0:AI}(U:Am Bo E O c2 p0){fuel:Nat}{r:AI}(K:f123 fuel p0=some r):AM J 123 [.slice O p0.length c2] E [] (fun w E' B'=>∃(V:An) (Y:Nat) (g0:Seg),w= .slice V r.length Y∧B'=g0∧OL 27 Bo E' V Y g0 r):=by
 cases O with
 | some ad=>exact XX U K
 | none=>
  have Z:p0= []:=by
   rcases U.2 with h | ⟨_,_,h,_⟩
   ·exact h.1
   ·cases h
  subst Z;have ag:r= []:=by
   have al:NN fuel []=some []:=rfl;unfold f123 at K;rw [al] at K;exact(Option.some.inj K).symm
  subst ag;exact Yp (fuel:=fuel) U rfl
end Pal
namespace Pal
open Go Go.Conc Go.Proofs
open Go.Proofs.Tryz
variable {J:Judge Tryz.prog}{E:LH}
def f125(fuel:Nat)(p0:Int×Int)(p1:Int×Int):Option Int:= (Au (p0.1 - p1.1)).bind fun K=> some K
theorem YD{p0:Int×Int}{p1:Int×Int}{fuel:Nat}{r:Int}(K:f125 fuel p0 p1=some r):AM J 125 [.agg #[iV p0.1,iV p0.2],.agg #[iV p1.1,iV p1.2]] E [] (fun w E' B'=>w=iV r∧B'= []):=by
 refine A4 func125 fun Q a0 cs H U V=>?_;unfold f125 at K;refine zg 2 rfl (B7 U fun a1 a2 Y Z ag=>?_);refine B7 ag fun a3 a4 O al am=>?_;refine zg 4 rfl (JL.fl 0 (Z.Ah O) underlying27 AU Bt ?_);refine JL.fl 0 al underlying27 AU Bt ?_;obtain⟨a5,ap,av⟩:=bs K;refine Cd ap rfl rfl rfl (zg 2 rfl ?_);obtain rfl:=oi av;exact AA func125 rfl rfl (V (Y.Ac O) rfl ⟨rfl,rfl⟩ am)
def RP(fuel:Nat)(p1:Int)(K:Int×(AI)):Option (Bf (Int×(AI)) ((AI))):= Option.bind (if p1<K.1 then((ix K.2 K.1).bind fun V=> (Au (K.1 - 1)).bind fun Y=> (ix K.2 Y).bind fun Z=> (f125 fuel V Z).bind fun ag=> some (decide (ag<0))) else(some false)) fun al=> if al=true then((Au (K.1 - 1)).bind fun O=> (Au (K.1 - 1)).bind fun am=> (ix K.2 am).bind fun U=> (ix K.2 K.1).bind fun ap=> (ix (K.2.set (Int.toNat K.1) U) O).bind fun a0=> (Au (K.1 - 1)).bind fun av=> some (.more (av,((K.2.set (Int.toNat K.1) U).set (Int.toNat O) ap)))) else(some (.done K.2))
def R0(fuel:Nat)(p1:Int)(p2:Int)(K:Int×(AI)):Option (Bf (Int×(AI)) ((AI))):= if K.1<p2 then(Option.bind (iter (RP fuel p1) fuel K) fun O=> (Au (K.1+1)).bind fun U=> some (.more (U,O))) else(some (.done K.2))
def f168(fuel:Nat)(p0:AI)(p1:Int)(p2:Int):Option ((AI)):= (Au (p1+1)).bind fun K=> Option.bind (iter (R0 fuel p1 p2) fuel (K,p0)) fun O=> some O
theorem SJ{K:Nat}{U:Nat}{V:Nat}{a8:Array Value}{p0:AI}{p1:Int}{p2:Int}(hW:WL 27 Bo E K U V a8 p0){fuel:Nat}{r:(AI)}(bo:f168 fuel p0 p1 p2=some r):AM J 168 [.slice (AY K) V U,iV p1,iV p2,(fV 125)] E [(K,.cells a8 27 (0,0))] (fun w E' B'=>∃(bv:Array Value),w= .tuple #[]∧B'= [(K,.cells bv 27 (0,0))]∧WL 27 Bo E' K U V bv r):=by
 refine A4 func168 fun Q cQ cs H bM bN=>?_;unfold f168 at bo;obtain⟨cR,bO,bP⟩:=bs bo;refine zg 3 rfl (Bc bO rfl rfl rfl ?_);obtain⟨bQ,bR,bS⟩:=bs bP;refine zg 2 rfl (Bp (fun L s=>∃(a9:LH) (f17:Array Value),Jn E H a9 [bX K f17 27] [] L s (WL 27 Bo a9 K U V f17 bQ)) ?_ ?_)
 ·rintro _ _ ⟨a9,f17,rfl,rfl,bT,bU,bV⟩;obtain rfl:=oi bS;exact JL.fin (v:= .tuple #[]) rfl rfl (Cs.list func168 rfl (vs:= []) trivial) (bN bT rfl ⟨f17,rfl,(by first | rfl | simp | (simp [Value.cells])),bV⟩ bU)
 ·intro bW;refine JL.block (CP bR (fun L s am=>∃(al:LH) (f25:Array Value),Jn E H al [bX K f25 27] [(0,.slice (AY K) V U),(1,iV p1),(2,iV p2),(3,(fV 125)),(8,iV am.1)] L s (WL 27 Bo al K U V f25 am.2)) ⟨E,a8,rfl,rfl,Ar,bM,hW⟩ ?_);rintro _ _ am ⟨al,f25,rfl,rfl,bw,bz,bA⟩ bY ⟨cT,bb⟩ bZ;have bB:=bb;unfold R0 at bB;refine zg 7 rfl (AL bB (fun b0 b1=>?_) (fun b0 b2=>?_))
  ·obtain⟨bC,b3,b4⟩:=bs b1;refine zg 8 rfl (Bp (fun L s=>∃(a2:LH) (f48:Array Value),Jn al H a2 [bX K f48 27] [(0,.slice (AY K) V U),(1,iV p1),(2,iV p2),(3,(fV 125)),(8,iV am.1)] L s (WL 27 Bo a2 K U V f48 bC)) ?_ ?_)
   ·rintro _ _ ⟨a2,f48,rfl,rfl,b5,b6,b7⟩;obtain⟨b8,b9,ca⟩:=bs b4;refine zg 3 rfl (Bc b9 rfl rfl rfl ?_);refine zg 2 rfl ?_;obtain rfl:=oi ca;exact Ax (bZ _ _ (b8,bC) ⟨a2,f48,rfl,rfl,(bw.Ac b5),b6,b7⟩ bb) rfl
   ·intro cb;refine JL.block (CP b3 (fun L s Y=>∃(av:LH) (f58:Array Value),Jn al H av [bX K f58 27] [(0,.slice (AY K) V U),(1,iV p1),(2,iV p2),(3,(fV 125)),(8,iV am.1),(9,iV Y.1)] L s (WL 27 Bo av K U V f58 Y.2)) ⟨al,f25,rfl,rfl,Ar,bz,bA⟩ ?_);rintro _ _ Y ⟨av,f58,rfl,rfl,bD,a0,O⟩ cc ⟨cV,bd⟩ cd;have bE:=bd;unfold RP at bE;refine zg 2 rfl (Dj 17 [K] ⟨⟨0,_,rfl⟩,trivial⟩ a0 fun ht=>?_);refine A0 ht rfl [0,1,2,3] rfl ?_;obtain⟨ce,bF,cf⟩:=bs bE;refine Ed 0 #[true,true,true,true,true,true,true,true,true,true,true,true,true,true,true,true,true] (fun L s=>∃(a3:LH),Jm av H a3 [bX K f58 27] [(0,.slice (AY K) V U),(1,iV p1),(2,iV p2),(3,(fV 125)),(8,iV am.1),(9,iV Y.1),(34,.bool ce)] L s) ?_ ?_
    ·rintro _ _ ⟨a3,rfl,rfl,ap,a4⟩;refine AX.fin (by decide+kernel) (BJ cf (fun cg ci=>?_) (fun cg ck=>?_))
     ·refine zg 3 rfl (G0 [15,17] [K] mixed rfl ?_);refine Bs 0 rfl rfl (Bs 1 rfl rfl ?_);refine Bs 2 rfl rfl (Bs 3 rfl rfl ?_);obtain⟨bG,cm,cn⟩:=bs ci;refine GG 4 true rfl rfl (fun ρ h s' hs=>Dc (h _ _ rfl) (h _ _ rfl) cm) (Bs 5 rfl rfl ?_);refine Bs 6 rfl rfl ?_;obtain⟨cW,co,cp⟩:=bs cn;refine GG 7 true rfl rfl (fun ρ h s' hs=>Dc (h _ _ rfl) (h _ _ rfl) co) ?_;obtain⟨Z,bH,cq⟩:=bs cp;obtain⟨_,⟨_,_,rfl,rfl,rfl⟩,cr⟩:=WL.at (O.Ah ap) bH;refine CB 8 O.2 bH underlying25 Cf ?_;refine Eg 9 [iV Z.1,iV Z.2] 0 a4 cr Gv Cf ?_;refine Bs 10 rfl rfl (Bs 11 rfl rfl ?_);obtain⟨ag,a5,ct⟩:=bs cq;obtain⟨_,⟨_,_,rfl,rfl,rfl⟩,cu⟩:=WL.at (O.Ah ap) a5;refine CB 12 O.2 a5 underlying25 Cf ?_;refine Eg 13 [iV ag.1,iV ag.2] 0 a4 cu Gv Cf ?_;refine CB 14 O.2 a5 underlying25 Cf ?_;have a1:=WL.put (x':=Z) (ws':= [iV Z.1,iV Z.2]) (O.Ah ap) O.2 a5 ⟨_,_,rfl,rfl,rfl⟩;refine Eh 15 0 a4 Cf a1.2 fun cv=>?_;obtain⟨cX,be,cw⟩:=bs ct;obtain⟨_,⟨_,_,rfl,rfl,rfl⟩,cY⟩:=WL.at a1.1 be;refine CB 16 (a1.1).2 be underlying25 Cf ?_;have bI:=WL.put (x':=ag) (ws':= [iV ag.1,iV ag.2]) a1.1 (a1.1).2 be ⟨_,_,rfl,rfl,rfl⟩;refine Eh 17 0 cv Cf bI.2 fun cy=>?_;refine JB.fin (by decide+kernel) ?_;obtain⟨cz,cA,cB⟩:=bs cw;refine zg 3 rfl (Cd cA rfl rfl rfl ?_);refine zg 2 rfl ?_;obtain rfl:=oi cB;exact Ax (cd _ _ (cz,((Y.2.set (Int.toNat Y.1) Z).set (Int.toNat bG) ag)) ⟨a3,(A1 (A1 f58 (Int.toNat (Y.1)*2) [iV Z.1,iV Z.2]) (Int.toNat (bG)*2) [iV ag.1,iV ag.2]),rfl,rfl,(bD.Ac ap),cy,bI.1⟩ bd) rfl
     ·refine JL.exit rfl ?_;obtain rfl:=oi ck;obtain rfl:=cc _ bd;exact Ax (cb _ _ ⟨a3,f58,rfl,rfl,(bD.Ac ap),a4,(O.Ah ap)⟩) rfl
    ·intro bJ;refine Ft (q:=p1<Y.1) (i:=21) rfl (fun bi=>?_) (fun bi=>?_)
     ·have cC:=ip bF bi;refine A0 ht rfl [4,5,6] rfl ?_;obtain⟨a6,bK,cD⟩:=bs cC;obtain⟨_,⟨_,_,rfl,rfl,rfl⟩,cE⟩:=WL.at O bK;refine F3 7 ht (O).2 bK underlying25 Cf ?_;refine D4 8 ht [iV a6.1,iV a6.2] 0 a0 cE Gv Cf ?_;refine A0 ht rfl [9,10] rfl ?_;obtain⟨cZ,cF,cG⟩:=bs cD;refine BC 11 ht rfl rfl (fun ρ h s' hs=>Dc (h _ _ rfl) (h _ _ rfl) cF) ?_;obtain⟨a7,bL,cH⟩:=bs cG;obtain⟨_,⟨_,_,rfl,rfl,rfl⟩,cI⟩:=WL.at O bL;refine F3 12 ht (O).2 bL underlying25 Cf ?_;refine D4 13 ht [iV a7.1,iV a7.2] 0 a0 cI Gv Cf ?_;obtain⟨c0,cJ,cK⟩:=bs cH;refine HP (i:=14) ⟨⟨0,_,rfl⟩,trivial⟩ (vs:= [.agg #[iV a6.1,iV a6.2],.agg #[iV a7.1,iV a7.2]]) (YD cJ) (by decide+kernel) rfl rfl rfl rfl (AR func125 rfl) rfl a0 ?_;rintro _ cM _ cN ⟨rfl,rfl⟩ cO;refine A0 ht rfl [15,16] rfl ?_;obtain rfl:=oi cK;refine CE ?_ (bJ _ _ ⟨cM,rfl,rfl,cN,cO⟩);exact⟨rfl,rfl,rfl,rfl,rfl,rfl,rfl,trivial⟩
     ·have cP:=im bF bi;refine A0 ht rfl [4,5,6,7,8,9,10,11,12,13,14,15,16] rfl ?_;obtain rfl:=oi cP;refine CE ?_ (bJ _ _ ⟨av,rfl,rfl,Ar,a0⟩);exact⟨rfl,rfl,rfl,rfl,rfl,rfl,rfl,trivial⟩
  ·refine JL.exit rfl ?_;obtain rfl:=oi b2;obtain rfl:=bY _ bb;exact Ax (bW _ _ ⟨al,f25,rfl,rfl,bw,bz,bA⟩) rfl
def Sg(fuel:Nat)(p1:Int)(K:Int×Int×(AI)):Option (Bf (Int×Int×(AI)) (Int×(AI))):= if K.2.1≤p1 then((f168 fuel K.2.2 K.1 K.2.1).bind fun O=> (Au (K.2.1+20)).bind fun U=> some (.more (K.2.1,U,O))) else(some (.done (K.1,K.2.2)))
def Sk(fuel:Nat)(p1:Int)(K:Int)(O:Int)(U:Unit):Option (Bf Unit Unit):= if O≤p1 then((Au (0+K)).bind fun V=> none) else(some (.done ()))
def RU(fuel:Nat)(p1:Int)(K:Int):Option (Bf Int Unit):= if K<p1 then((Au (2*K)).bind fun O=> Option.bind (iter (Sk fuel p1 K O) fuel ()) fun Y=> (Au (0+K)).bind fun U=> Option.bind (if U<p1 then(none) else(some ())) fun Z=> (Au (K*2)).bind fun V=> some (.more V)) else(some (.done ()))
def f138(fuel:Nat)(p0:AI)(p1:Int):Option ((AI)):= Option.bind (iter (Sg fuel p1) fuel (0,20,p0)) fun K=> (f168 fuel K.2 K.1 p1).bind fun O=> Option.bind (iter (RU fuel p1) fuel 20) fun U=> some O
theorem Zu{K:Nat}{O:Nat}{U:Nat}{ag:Array Value}{p0:AI}{p1:Int}(hW:WL 27 Bo E K O U ag p0){fuel:Nat}{r:(AI)}(av:f138 fuel p0 p1=some r):AM J 138 [.slice (AY K) U O,iV p1,(fV 125)] E [(K,.cells ag 27 (0,0))] (fun w E' B'=>∃(a0:Array Value),w= .tuple #[]∧B'= [(K,.cells a0 27 (0,0))]∧WL 27 Bo E' K O U a0 r):=by
 refine A4 func138 fun Q cF cs H bi bo=>?_;unfold f138 at av;obtain⟨a1,bv,bw⟩:=bs av;refine zg 11 rfl (Bp (fun L s=>∃(al:LH) (f15:Array Value),Jn E H al [bX K f15 27] [(0,.slice (AY K) U O),(1,iV p1),(2,(fV 125)),(6,iV 20),(7,iV a1.1)] L s (WL 27 Bo al K O U f15 a1.2)) ?_ ?_)
 ·rintro _ _ ⟨al,f15,rfl,rfl,bz,bA,bB⟩;obtain⟨cG,bC,bD⟩:=bs bw;refine zg 6 rfl (B9 0 (SJ bB bC) rfl rfl (AR func168 rfl) bA rfl ?_);rintro _ cH _ bE ⟨f23,rfl,rfl,bF⟩ bG;obtain⟨cI,bH,bI⟩:=bs bD;refine JL.done (C4 [bX K f23 27] [] (fun cJ a2 bJ=>?_) (fun bK=>?_))
  ·obtain rfl:=oi bI;exact JL.fin (v:= .tuple #[]) rfl rfl (Cs.list func138 rfl (vs:= []) trivial) (bo ((bz.Ac bE).Ac a2) rfl ⟨f23,rfl,(by first | rfl | simp | (simp [Value.cells])),(bF.Ah a2)⟩ bJ)
  ·refine JL.block (Cz bH (fun V=> [bX K f23 27]) (fun V=> [(0,.slice (AY K) U O),(1,iV p1),(2,(fV 125)),(6,iV V)]) Ar bG ?_);rintro V cK a3 a4 bL ⟨cM,am⟩ bM;have a5:=am;unfold RU at a5;refine zg 7 rfl (AL a5 (fun bN bO=>?_) (fun bN bP=>?_))
   ·obtain⟨bQ,bR,bS⟩:=bs bO;refine zg 5 rfl (AE rfl (fun ρ h=>KT (h _ _ rfl) (h _ _ rfl) bR) ?_);obtain⟨cN,bT,bU⟩:=bs bS;refine zg 4 rfl (C4 [bX K f23 27] [(0,.slice (AY K) U O),(1,iV p1),(2,(fV 125)),(6,iV V),(7,iV 0)] (fun cO bV bW=>?_) (fun bY=>?_))
    ·obtain⟨cP,bZ,b0⟩:=bs bU;refine zg 5 rfl (Bc bZ rfl rfl rfl ?_);obtain⟨cQ,b1,b2⟩:=bs b0;refine zg 8 rfl (C4 [bX K f23 27] [(0,.slice (AY K) U O),(1,iV p1),(2,(fV 125)),(6,iV V)] (fun cR b3 b4=>?_) (fun b5=>?_))
     ·obtain⟨b6,b7,b8⟩:=bs b2;refine zg 2 rfl (AE rfl (fun ρ h=>KT (h _ _ rfl) (h _ _ rfl) b7) ?_);refine zg 3 rfl ?_;obtain rfl:=oi b8;exact bM b6 ((a3.Ac bV).Ac b3) b4 rfl am
     ·refine AL b1 (fun b9 ca=>?_) (fun b9 cb=>?_)
      ·refine zg 6 rfl ?_;cases ca
      ·refine JL.skip ?_;obtain rfl:=oi cb;exact b5 Ar bW rfl
    ·refine JL.block (Cz bT (fun a6=> [bX K f23 27]) (fun a6=> [(0,.slice (AY K) U O),(1,iV p1),(2,(fV 125)),(6,iV V),(7,iV 0),(8,iV bQ)]) Ar a4 ?_);rintro a6 cT cc cd ce ⟨cV,a7⟩ cW;have a8:=a7;unfold Sk at a8;refine zg 7 rfl (AL a8 (fun cf cg=>?_) (fun cf ci=>?_))
     ·obtain⟨cX,ck,cm⟩:=bs cg;refine zg 8 rfl (Bc ck rfl rfl rfl ?_);refine zg 2 rfl ?_;cases cm
     ·refine JL.exit rfl ?_;obtain rfl:=oi ci;obtain rfl:=ce _ a7;exact bY cc cd rfl
   ·refine JL.exit rfl ?_;obtain rfl:=oi bP;obtain rfl:=bL _ am;exact bK a3 a4 rfl
 ·intro cn;refine JL.block (CP bv (fun L s Y=>∃(Z:LH) (f104:Array Value),Jn E H Z [bX K f104 27] [(0,.slice (AY K) U O),(1,iV p1),(2,(fV 125)),(6,iV 20),(7,iV Y.1),(8,iV Y.2.1)] L s (WL 27 Bo Z K O U f104 Y.2.2)) ⟨E,ag,rfl,rfl,Ar,bi,hW⟩ ?_);rintro _ _ Y ⟨Z,f104,rfl,rfl,a9,bb,bd⟩ co ⟨cY,ap⟩ cp;have be:=ap;unfold Sg at be;refine zg 7 rfl (AL be (fun cq cr=>?_) (fun cq ct=>?_))
  ·obtain⟨cu,cv,cw⟩:=bs cr;refine zg 8 rfl (B9 0 (SJ bd cv) rfl rfl (AR func168 rfl) bb rfl ?_);rintro _ cy _ cz ⟨f119,rfl,rfl,cA⟩ cB;obtain⟨cC,cD,cE⟩:=bs cw;refine zg 9 rfl (Bc cD rfl rfl rfl ?_);refine zg 3 rfl ?_;obtain rfl:=oi cE;exact Ax (cp _ _ (Y.2.1,cC,cu) ⟨cy,f119,rfl,rfl,(a9.Ac cz),cB,cA⟩ ap) rfl
  ·refine JL.exit rfl ?_;obtain rfl:=oi ct;obtain rfl:=co _ ap;exact Ax (cn _ _ ⟨Z,f104,rfl,rfl,a9,bb,bd⟩) rfl
def f124(fuel:Nat)(p0:AI):Option ((AI)):= (f138 fuel p0 (p0.length:Int)).bind fun K=> some K
theorem Z7{K:Nat}{O:Nat}{U:Nat}{V:Array Value}{p0:AI}(hW:WL 27 Bo E K O U V p0){fuel:Nat}{r:(AI)}(Y:f124 fuel p0=some r):AM J 124 [.slice (AY K) U O,(fV 125)] E [(K,.cells V 27 (0,0))] (fun w E' B'=>∃(Z:Array Value),w= .tuple #[]∧B'= [(K,.cells Z 27 (0,0))]∧WL 27 Bo E' K O U Z r):=by
 refine A4 func124 fun Q a2 cs H ag al=>?_;unfold f124 at Y;refine zg 3 rfl (AE (v:=iV (p0.length:Int)) rfl (fun ρ h=>RA (hW).2 rfl underlying25 (h _ _ rfl)) ?_);obtain⟨a3,am,ap⟩:=bs Y;refine zg 1 rfl (B9 0 (Zu hW am) rfl rfl (AR func138 rfl) ag rfl ?_);rintro _ a4 _ av ⟨f7,rfl,rfl,a0⟩ a1;refine JL.done ?_;obtain rfl:=oi ap;exact JL.fin (v:= .tuple #[]) rfl rfl (Cs.list func124 rfl (vs:= []) trivial) (al av rfl ⟨f7,rfl,(by first | rfl | simp | (simp [Value.cells])),a0⟩ a1)
def Ti(fuel:Nat)(p0:AI):Option AI:=match p0 with
 | []=>none
 | _=>f124 fuel p0
theorem X3{J:Judge Tryz.prog}{E:LH}{a:An}{c:Nat}{g:Seg}{p0:AI}(U:OL 27 Bo E a c g p0){fuel:Nat}{r:AI}(K:Ti fuel p0=some r):
  AM J 124 [.slice a p0.length c,.func (.func 125) #[] #[]] E g (fun w E' B'=>w= .tuple #[]∧OL 27 Bo E' a c B' r∧r.length=p0.length):=by
 rcases U.cases with⟨rfl,rfl,rfl,rfl⟩ | ⟨bk,f,rfl,rfl,hW⟩
 ·cases K
 ·have V:f124 fuel p0=some r:=by
   cases p0 with
   | nil=>cases K
   | cons x l=>exact K
  refine(Z7 hW V).Ah ?_;rintro w E' B' hle ⟨Z,Y,rfl,O⟩;exact⟨Y,O.1,O.2⟩
end Pal
namespace Pal
open Go Go.Conc Go.Proofs
open Go.Proofs.Tryz
def f94(fuel:Nat)(p0:AI)(p1:AI):Option ((AI)):= (De p0 p1).bind fun K=> (f123 fuel K).bind fun O=> (Ti fuel O).bind fun U=> some U
theorem aQ{E:LH}{K:An}{c2:Nat}{O:An}{U:Nat}{p0:AI}{p1:AI}(Z:Am Bo E K c2 p0)(a3:Am Bo E O U p1){fuel:Nat}{r:(AI)}(am:f94 fuel p0 p1=some r):AM (DZ Tryz.prog) 94 [sV K p0 c2,sV O p1 U] E [] (fun w E' B'=>∃(ap:An) (av:Nat),w= sV ap r av∧B'= []∧Am Bo E' ap av r):=by
 refine A4 func94 fun Q bG cs H a4 a5=>?_;unfold f94 at am;refine zg 8 rfl (Be underlying25 rfl rfl rfl ?_);refine zg 1 rfl (Be underlying25 rfl rfl rfl ?_);refine AE (v:= .slice K p0.length p0.length) rfl (fun ρ h=>Uv (Am.spot Z) (And.left Z) underlying25 Cf (h _ _ rfl) (h _ _ rfl) (h _ _ rfl)) ?_;obtain⟨a0,a6,a7⟩:=bs am;refine zg 1 rfl (Uy (pp:=Bo) a6 rfl rfl rfl rfl rfl rfl rfl underlying25 underlying25 Cf (CS type27) Et rfl (by decide) (by decide) Z a3 a4 fun bH a1 a2 a8 a9 bb=>?_);obtain⟨bI,bd,be⟩:=bs a7;refine zg 5 rfl (BO (ao a9 bd) rfl rfl (AR func123 rfl) bb ?_);rintro _ bJ _ bi ⟨V,Y,bK,rfl,rfl,bo⟩ bv;obtain⟨ag,bw,bz⟩:=bs be;refine zg 5 rfl (B9 2 (X3 bo bw) rfl rfl (AR func124 rfl) bv rfl ?_);rintro _ bL bM bA ⟨rfl,bB,al⟩ bC;refine Gh (L':= [(17,.tuple #[]),(0,.slice K p0.length c2),(1,.slice O p1.length U),(4,.slice none 0 0),(6,.slice K p0.length c2),(7,.slice K p0.length c2),(8,iV (p0.length:Int)),(9,.slice K p0.length c2),(10,iV (p0.length:Int)),(11,.slice K p0.length p0.length),(12,.slice O p1.length U),(13,.slice a1 a0.length a2),(5,.slice V ag.length Y),(14,.slice a1 a0.length a2),(15,.slice V ag.length Y),(16,.slice V ag.length Y)]) ⟨rfl,rfl,rfl,rfl,rfl,rfl,rfl,rfl,rfl,rfl,rfl,rfl,by rw [al];rfl,rfl,by rw [al];rfl,by rw [al];rfl,trivial⟩ ?_;refine zg 6 rfl (B6 2 bB bC rfl fun bN bD bE bF=>?_);obtain rfl:=oi bz;exact AA func94 rfl rfl (a5 (((a8.Ac bi).Ac bA).Ac bD) rfl ⟨V,Y,rfl,rfl,bE⟩ bF)
end Pal
namespace Pal
open Go Go.Conc Go.Proofs
open Go.Proofs.Tryz
def Ny:List Nat:= [0,1,1,2,1,2,2,3,1,2,2,3,2,3,3,4,1,2,2,3,2,3,3,4,2,3,3,4,3,4,4,5,1,2,2,3,2,3,3,4,2,3,3,4,3,4,4,5,2,3,3,4,3,4,4,5,3,4,4,5,4,5,5,6,1,2,2,3,2,3,3,4,2,3,3,4,3,4,4,5,2,3,3,4,3,4,4,5,3,4,4,5,4,5,5,6,2,3,3,4,3,4,4,5,3,4,4,5,4,5,5,6,3,4,4,5,4,5,5,6,4,5,5,6,5,6,6,7,1,2,2,3,2,3,3,4,2,3,3,4,3,4,4,5,2,3,3,4,3,4,4,5,3,4,4,5,4,5,5,6,2,3,3,4,3,4,4,5,3,4,4,5,4,5,5,6,3,4,4,5,4,5,5,6,4,5,5,6,5,6,6,7,2,3,3,4,3,4,4,5,3,4,4,5,4,5,5,6,3,4,4,5,4,5,5,6,4,5,5,6,5,6,6,7,3,4,4,5,4,5,5,6,4,5,5,6,5,6,6,7,4,5,5,6,5,6,6,7,5,6,6,7,6,7,7,8]
def f86(fuel:Nat)(p0:Nat):Option Int:= (LB Ny ((((p0>>>8):Nat):Int))).bind fun K=> (Kb p0 (255)).bind fun O=> (LB Ny ((((O):Nat):Int))).bind fun U=> (Au ((((K+U) % 256):Nat):Int)).bind fun V=> some V
theorem aR{E:LH}{p0:Nat}{fuel:Nat}{r:Int}(K:f86 fuel p0=some r):AM (DZ Tryz.prog) 86 [uV p0] E [] (fun w E' B'=>w=iV r∧B'= []):=by
 refine A4 func86 fun Q a4 cs H V Y=>?_;unfold f86 at K;refine zg 5 rfl (C7 6 fun ht=>?_);refine Cb 0 ht rfl rfl (BC (v:= .int .u16 ((p0>>>8:Nat):Int)) 1 ht rfl rfl (fun ρ h s' hs=>WT 8 (h _ _ rfl) (h _ _ rfl) (by decide)) ?_);obtain⟨O,Z,ag⟩:=bs K;refine BC (v:= .int .u8 ((O:Nat):Int)) 2 ht rfl rfl (fun ρ h s' hs=>Oq (l:=Ny) (by decide+kernel) underlying9 (h _ _ rfl) (h _ _ rfl) Z) (Cb 3 ht rfl rfl ?_);obtain⟨al,am,ap⟩:=bs ag;refine BC (v:= uV al) 4 ht rfl rfl (fun ρ h s' hs=>Ou (h _ _ rfl) (h _ _ rfl) am) ?_;obtain⟨U,av,a0⟩:=bs ap;refine BC (v:= .int .u8 ((U:Nat):Int)) 5 ht rfl rfl (fun ρ h s' hs=>Oq (l:=Ny) (by decide+kernel) underlying9 (h _ _ rfl) (h _ _ rfl) av) (Co [6,7,8] ?_);refine AE (v:= .int .u8 (((O+U) % 256:Nat):Int)) rfl (fun ρ h=>V8 (h _ _ rfl) (h _ _ rfl)) ?_;obtain⟨a1,a2,a3⟩:=bs a0;refine AE (v:=iV a1) rfl (fun ρ h=>RO underlying5 underlying3 (h _ _ rfl) a2) (zg 2 rfl ?_);obtain rfl:=oi a3;exact AA func86 rfl rfl (Y Ar rfl ⟨rfl,rfl⟩ V)
end Pal
namespace Pal
open Go Go.Conc Go.Proofs
open Go.Proofs.Tryz
def f85(fuel:Nat)(p0:Nat):Option Int:= (f86 fuel p0).bind fun K=> some K
theorem Tu{E:LH}{p0:Nat}{fuel:Nat}{r:Int}(K:f85 fuel p0=some r):AM (DZ Tryz.prog) 85 [uV p0] E [] (fun w E' B'=>w=iV r∧B'= []):=by
 refine A4 func85 fun Q al cs H O U=>?_;unfold f85 at K;obtain⟨am,V,Y⟩:=bs K;refine zg 7 rfl (BF (aR V) rfl rfl (AR func86 rfl) O fun ap Z ag=>?_);refine zg 2 rfl ?_;obtain rfl:=oi Y;exact AA func85 rfl rfl (U Z rfl ⟨rfl,rfl⟩ ag)
end Pal
namespace Pal
open Go Go.Conc Go.Proofs
open Go.Proofs.Tryz
end Pal
namespace Pal
open Go Go.Conc Go.Proofs
open Go.Proofs.Tryz
end Pal
namespace Pal
open Go Go.Conc Go.Proofs
open Go.Proofs.Tryz
end Pal
namespace Pal
open Go Go.Conc Go.Proofs
open Go.Proofs.Tryz
variable {J:Judge Tryz.prog}{E:LH}
def M4(fuel:Nat)(V:Int×(B8))(Y:(List (List Int))×(List (List Int))×(List Int)×Int×Nat×Int)(K:(List Int)×Int×Nat×(List Int)×Int):Option (Bf ((List Int)×Int×Nat×(List Int)×Int) ((List Int)×B8)):= Option.bind (if 0<K.2.2.2.2 then(some (decide (1<V.1))) else(some false)) fun ag=> if ag=true then((Au (Y.2.2.2.2.2 - 1)).bind fun al=> (f41 fuel (K.1,K.2.1,K.2.2.1) (max (0) al)).bind fun Z=> (f97 fuel Z.2 6).bind fun O=> Option.bind (if O.1=true then((Au (V.1 - 1)).bind fun am=> (f41 fuel O.2 am).bind fun ap=> some ap) else(some (Z.1,O.2.1,O.2.2.1,O.2.2.2))) fun U=> Option.bind (if U.1≠Y.2.2.2.2.2 then((f98 fuel K.2.2.2.1 U.1).bind fun av=> some av) else(some K.2.2.2.1)) fun a0=> (Au (K.2.2.2.2 - 1)).bind fun a1=> some (.more (U.2.1,U.2.2.1,U.2.2.2,a0,a1))) else(some (.done (K.2.2.2.1,K.1,K.2.1,K.2.2.1)))
def M5(fuel:Nat)(O:Int×(B8))(K:(List (List Int))×(List (List Int))×(List Int)×Int×Nat×Int):Option (Bf ((List (List Int))×(List (List Int))×(List Int)×Int×Nat×Int) ((List Int)×Int×Nat×A2)):= if K.2.2.2.2.2<O.1 then((Au (O.1 - 1)).bind fun am=> (Au (K.2.2.2.2.2+1)).bind fun ap=> (f97 fuel (K.2.2.1,K.2.2.2.1,K.2.2.2.2.1) 3).bind fun U=> Option.bind (if U.1=true then((Au (O.1 - 1)).bind fun a1=> (f96 fuel U.2 K.2.2.2.2.2 a1).bind fun Y=> (f98 fuel ([min am ap]:List Int) Y.1).bind fun a2=> some (a2,Y.2.1,Y.2.2.1,Y.2.2.2)) else(some (([min am ap]:List Int),U.2.1,U.2.2.1,U.2.2.2))) fun av=> (f97 fuel av.2 8).bind fun V=> Option.bind (if V.1=true then((Au (O.1 - 1)).bind fun a3=> (f41 fuel V.2 a3).bind fun Z=> some (([Z.1]:List Int),Z.2.1,Z.2.2.1,Z.2.2.2)) else(some (av.1,V.2.1,V.2.2.1,V.2.2.2))) fun a0=> (f99 fuel a0.2 ([0,1,1,2]:List Int)).bind fun ag=> Option.bind (iter (M4 fuel O K) fuel (ag.2.1,ag.2.2.1,ag.2.2.2,[],ag.1)) fun al=> (De K.1 ([a0.1]:List (List Int))).bind fun a4=> (De K.2.1 ([al.1]:List (List Int))).bind fun a5=> (Au (K.2.2.2.2.2+1)).bind fun a6=> some (.more (a4,a5,al.2.1,al.2.2.1,al.2.2.2,a6))) else(some (.done (K.2.2.1,K.2.2.2.1,K.2.2.2.2.1,K.1,K.2.1)))
def f39(fuel:Nat)(p0:B8)(p1:Int):Option ((A2)×(B8)):= (f96 fuel p0 1 p1).bind fun K=> Option.bind (iter (M5 fuel K) fuel ([],[],K.2.1,K.2.2.1,K.2.2.2,0)) fun O=> some (O.2.2.2,(O.1,O.2.1,O.2.2.1))
theorem aC{bk:Nat}{cJ:An}{c2:Nat}{p0:B8}{p1:Int}(dQ:Am rI E cJ c2 p0.1){fuel:Nat}{r:(A2)×(B8)}(cK:f39 fuel p0 p1=some r):AM J 39 [pV bk 0,iV p1] E [(bk,.cells #[sV cJ p0.1 c2,iV p0.2.1,.int .u64 ((p0.2.2:Nat):Int)] 92 (0,0))] (fun w E' B'=>∃(cM:An) (cN:Nat) (cO:An) (cP:Nat) (cQ:An) (cR:Nat),w= .agg #[sV cM r.1.1 cN,sV cO r.1.2 cP]∧B'= [(bk,.cells #[sV cQ r.2.1 cR,iV r.2.2.1,.int .u64 ((r.2.2.2:Nat):Int)] 92 (0,0))]∧Am (rL rI) E' cM cN r.1.1∧Am (rL rI) E' cO cP r.1.2∧Am rI E' cQ cR r.2.1):=by
 refine A4 func39 fun Q ia cs H dR dS=>?_;unfold f39 at cK;refine zg 2 rfl (CU dR GW fun U dT=>?_);refine zg 3 rfl (CU dT GW fun O dU=>?_);obtain⟨a4,dV,dW⟩:=bs cK;refine zg 5 rfl (B9 0 (Pq dQ dV) rfl rfl N8 dU rfl ?_);rintro _ b8 _ dX ⟨cT,cV,rfl,rfl,dY⟩ dZ;refine Cu (S':= [[(bk,.cells #[sV cT a4.2.1 cV,iV a4.2.2.1,.int .u64 ((a4.2.2.2:Nat):Int)] 92 (0,0))],[(U,.cells #[nS,nS] 24 (0,0))],[(O,.cells #[nS,nS] 24 (0,0))]]) rfl dZ fun ea=>?_;obtain⟨Y,eb,ec⟩:=bs dW;refine zg 7 rfl (Bp (fun L s=>∃(bM:LH) (bN:An) (bO:Nat) (a8:An) (a9:Nat) (b9:Seg) (bb:An) (bd:Nat) (ca:Seg),Jn b8 H bM [bX bk #[sV bN Y.1 bO,iV Y.2.1,.int .u64 ((Y.2.2.1:Nat):Int)] 92,bX U #[nS,nS] 24,bX O #[sV a8 Y.2.2.2.1 a9,sV bb Y.2.2.2.2 bd] 24,b9,ca] [(4,pV U 0),(5,pV O 0)] L s (Am rI bM bN bO Y.1∧OL 28 (rL rI) bM a8 a9 b9 Y.2.2.2.1∧OL 28 (rL rI) bM bb bd ca Y.2.2.2.2)) ?_ ?_)
 ·rintro _ _ ⟨bM,bN,bO,a8,a9,b9,bb,bd,ca,rfl,rfl,ed,cW,ee,ef,eg⟩;refine zg 2 rfl (AE rfl (fun ρ h=>FY (vs:= [sV a8 Y.2.2.2.1 a9,sV bb Y.2.2.2.2 bd]) BX BD (h _ _ rfl) (FV (off:=0) 2 cW rfl rfl)) ?_);refine BY 1 cW BD fun eh=>?_;refine JL.done (B6 3 ef eh rfl fun ic cb ei ej=>?_);refine B6 4 (eg.Ah cb) ej rfl fun ie cc ek el=>Cu (S':= [[(bk,.cells #[sV bN Y.1 bO,iV Y.2.1,.int .u64 ((Y.2.2.1:Nat):Int)] 92 (0,0))],[(U,.cells #[sV a8 Y.2.2.2.1 a9,sV bb Y.2.2.2.2 bd] 24 (0,0))],[(O,.cells #[sV a8 Y.2.2.2.1 a9,sV bb Y.2.2.2.2 bd] 24 (0,0))],[],[]]) rfl el fun em=>JS.drop 2 em rfl fun cX=>?_;obtain rfl:=oi ec;refine JL.ret (v:= .agg #[sV a8 Y.2.2.2.1 a9,sV bb Y.2.2.2.2 bd]) rfl rfl (Cs.list func39 rfl (vs:= [.agg #[sV a8 Y.2.2.2.1 a9,sV bb Y.2.2.2.2 bd]]) ⟨⟨_,rfl,Ld.many (vs:= [sV a8 Y.2.2.2.1 a9,sV bb Y.2.2.2.2 bd]) BX BD (FV (off:=0) 1 cX rfl rfl)⟩,trivial⟩) (Iw 1 cX rfl fun en=>?_);exact dS (((dX.Ac ed).Ac cb).Ac cc) rfl ⟨a8,a9,bb,bd,bN,bO,rfl,rfl,(ei.Ah cc),ek,(ee.Ah (cb.Ac cc))⟩ en
 ·intro eo;refine JL.block (CP eb (fun L s K=>∃(bG:LH) (Z:An) (ag:Nat) (ap:Seg) (al:An) (am:Nat) (av:Seg) (bV:An) (bW:Nat),Jn b8 H bG [bX bk #[sV bV K.2.2.1 bW,iV K.2.2.2.1,.int .u64 ((K.2.2.2.2.1:Nat):Int)] 92,bX U #[nS,nS] 24,bX O #[sV Z K.1 ag,sV al K.2.1 am] 24,ap,av] [(0,pV bk 0),(4,pV U 0),(5,pV O 0),(6,iV a4.1),(7,iV K.2.2.2.2.2)] L s (OL 28 (rL rI) bG Z ag ap K.1∧OL 28 (rL rI) bG al am av K.2.1∧Am rI bG bV bW K.2.2.1)) ⟨b8,none,0,[],none,0,[],cT,cV,rfl,rfl,Ar,ea,OL.nil,OL.nil,dY⟩ ?_);rintro _ _ K ⟨bG,Z,ag,ap,al,am,av,bV,bW,rfl,rfl,bY,cY,bZ,b0,cZ⟩ ep ⟨ig,bP⟩ cd;have c0:=bP;unfold M5 at c0;refine zg 7 rfl (AL c0 (fun eq er=>?_) (fun eq et=>?_))
  ·obtain⟨ce,eu,ew⟩:=bs er;refine zg 6 rfl (Cd eu rfl rfl rfl ?_);obtain⟨cf,ex,ey⟩:=bs ew;refine zg 1 rfl (Bc ex rfl rfl rfl ?_);refine AE (v:=iV (min ce cf)) rfl (fun ρ h=>Yl.min2 (h _ _ rfl) (h _ _ rfl)) (Dt (pp:=rI) [iV (min ce cf)] [min ce cf] rfl rfl rfl underlying28 AU CK (by decide) rfl rfl rfl ⟨rfl,trivial⟩ cY fun ez eA c1 eB=>?_);obtain⟨cg,eC,eD⟩:=bs ey;refine zg 6 rfl (B9 0 (Lm cZ eC) rfl rfl Km eB rfl ?_);rintro _ eE _ a5 ⟨c3,c4,rfl,rfl,c5⟩ c6;obtain⟨bH,eF,eG⟩:=bs eD;refine JL.done (Bp (fun L s=>∃(b1:LH) (b2:An) (b3:Nat) (ci:An) (ck:Nat),Jn eE H b1 [bX bk #[sV ci bH.2.1 ck,iV bH.2.2.1,.int .u64 ((bH.2.2.2:Nat):Int)] 92,bX U #[nS,nS] 24,bX O #[sV Z K.1 ag,sV al K.2.1 am] 24,ap,av] [(0,pV bk 0),(4,pV U 0),(5,pV O 0),(6,iV a4.1),(7,iV K.2.2.2.2.2),(8,sV b2 bH.1 b3)] L s (Am rI b1 b2 b3 bH.1∧Am rI b1 ci ck bH.2.1)) ?_ ?_)
   ·rintro _ _ ⟨b1,b2,b3,ci,ck,rfl,rfl,bv,eH,eI,eJ⟩;obtain⟨cm,eK,eL⟩:=bs eG;refine zg 4 rfl (B9 0 (Lm eJ eK) rfl rfl Km eH rfl ?_);rintro _ c7 _ be ⟨c8,c9,rfl,rfl,da⟩ eM;refine Cu (S':= [[(bk,.cells #[sV c8 cm.2.1 c9,iV cm.2.2.1,.int .u64 ((cm.2.2.2:Nat):Int)] 92 (0,0))],[(U,.cells #[nS,nS] 24 (0,0))],[(O,.cells #[sV Z K.1 ag,sV al K.2.1 am] 24 (0,0))],ap,av]) rfl eM fun db=>?_;obtain⟨a1,eN,eO⟩:=bs eL;refine JL.done (Bp (fun L s=>∃(b4:LH) (bi:An) (bo:Nat) (cn:An) (co:Nat),Jn c7 H b4 [bX bk #[sV cn a1.2.1 co,iV a1.2.2.1,.int .u64 ((a1.2.2.2:Nat):Int)] 92,bX U #[nS,nS] 24,bX O #[sV Z K.1 ag,sV al K.2.1 am] 24,ap,av] [(0,pV bk 0),(4,pV U 0),(5,pV O 0),(6,iV a4.1),(7,iV K.2.2.2.2.2),(8,sV bi a1.1 bo)] L s (Am rI b4 bi bo a1.1∧Am rI b4 cn co a1.2.1)) ?_ ?_)
    ·rintro _ _ ⟨b4,bi,bo,cn,co,rfl,rfl,bw,eP,dc,eQ⟩;refine zg 8 rfl (Dt (pp:=rI) [iV 0,iV 1,iV 1,iV 2] [0,1,1,2] rfl rfl rfl underlying28 AU CK (by decide) rfl rfl rfl ⟨rfl,rfl,rfl,rfl,trivial⟩ eP fun ih ii eR eS=>?_);refine B6 5 eR eS rfl fun ij a3 eT eU=>?_;obtain⟨cp,eV,eW⟩:=bs eO;refine B9 0 (NF (eQ.Ah a3) eT eV) rfl rfl L2 eU rfl ?_;rintro _ cq _ a6 ⟨dd,de,rfl,rfl,eX⟩ eY;refine Cu (S':= [[(bk,.cells #[sV dd cp.2.1 de,iV cp.2.2.1,.int .u64 ((cp.2.2.2:Nat):Int)] 92 (0,0))],[(U,.cells #[nS,nS] 24 (0,0))],[(O,.cells #[sV Z K.1 ag,sV al K.2.1 am] 24 (0,0))],ap,av,[]]) rfl eY fun eZ=>?_;obtain⟨V,e0,e1⟩:=bs eW;refine zg 2 rfl (Bp (fun L s=>∃(bB:LH) (bI:An) (bJ:Nat) (bz:An) (bA:Nat),Jn cq H bB [bX bk #[sV bz V.2.1 bA,iV V.2.2.1,.int .u64 ((V.2.2.2:Nat):Int)] 92,bX U #[nS,nS] 24,bX O #[sV Z K.1 ag,sV al K.2.1 am] 24,ap,av] [(0,pV bk 0),(4,pV U 0),(5,pV O 0),(6,iV a4.1),(7,iV K.2.2.2.2.2),(8,sV bi a1.1 bo),(9,sV bI V.1 bJ)] L s (Am rI bB bI bJ V.1∧Am rI bB bz bA V.2.1)) ?_ ?_)
     ·rintro _ _ ⟨bB,bI,bJ,bz,bA,rfl,rfl,a7,bQ,cr,ct⟩;refine Dj 11 [O] ⟨⟨2,_,rfl⟩,trivial⟩ bQ fun ht=>Cc 0 ht underlying24 BP rfl rfl rfl rfl (Fi 1 ht 0 2 bQ Cn ?_);refine Cb 2 ht rfl rfl (Cc 5 ht underlying24 BP rfl rfl rfl rfl ?_);refine Fi 6 ht 1 2 bQ Cn ?_;refine Cb 7 ht rfl rfl ?_;obtain⟨cu,cv,e2⟩:=bs e1;obtain⟨cw,cy,cz⟩:=bs e2;refine I7 (i:=3) (j:=8) rfl (by decide+kernel) ?_ ?_
      ·refine Take.lit (pp:=(rL rI)) (jp:=2) [sV bi a1.1 bo] ([a1.1]:List (List Int)) bQ rfl rfl rfl rfl underlying22 BT Fp (by decide) rfl rfl rfl ⟨⟨_,_,rfl,(dc.Ah ((a3.Ac a6).Ac a7))⟩,trivial⟩ fun ik df dg dh=>I7 (i:=4) (j:=8) rfl (by decide+kernel) ?_ ?_
       ·refine Take.app (pp:=(rL rI)) (jp:=2) 3 5 dh rfl cv rfl rfl rfl rfl rfl rfl rfl underlying22 underlying22 BT (CS type28) Fp rfl (by decide) (by decide) (bZ.Ah ((((((a5.Ac bv).Ac be).Ac bw).Ac a3).Ac a6).Ac a7)) dg rfl rfl rfl rfl fun e3 e4 il di e5 e6=>Cc 10 ht underlying24 BP rfl rfl rfl rfl (JG.one (i:=8) rfl (by decide+kernel) ?_);refine Take.lit (pp:=(rL rI)) (jp:=2) [sV bI V.1 bJ] ([V.1]:List (List Int)) e6 rfl rfl rfl rfl underlying22 BT Fp (by decide) rfl rfl rfl ⟨⟨_,_,rfl,cr⟩,trivial⟩ fun io e7 e8 e9=>JG.one (i:=9) rfl (by decide+kernel) (Take.app (pp:=(rL rI)) (jp:=2) 4 6 e9 rfl cy rfl rfl rfl rfl rfl rfl rfl underlying22 underlying22 BT (CS type28) Fp rfl (by decide) (by decide) (b0.Ah ((((((a5.Ac bv).Ac be).Ac bw).Ac a3).Ac a6).Ac a7)) e8 rfl rfl rfl rfl fun fa fb iq dj fc fd=>?_);refine Co [11,12,13] (ES 3 rfl fd fun fe=>?_);refine JS.drop 3 fe rfl fun ff=>ES 4 rfl ff fun fg=>JS.drop 4 fg rfl fun fh=>Cu (S':= [[(bk,.cells #[sV bz V.2.1 bA,iV V.2.2.1,.int .u64 ((V.2.2.2:Nat):Int)] 92 (0,0))],[(U,.cells #[nS,nS] 24 (0,0))],[(O,.cells #[sV Z K.1 ag,sV al K.2.1 am] 24 (0,0))],[],[],df,e7,di,dj]) rfl fh fun fj=>BY 2 fj BP fun fk=>?_;refine BM underlying24 BP rfl rfl rfl (BY 2 fk BP fun fm=>?_);obtain⟨fo,fp,fq⟩:=bs cz;refine zg 4 rfl (Bc fp rfl rfl rfl ?_);refine zg 2 rfl (JS.drop 5 fm rfl fun fs=>?_);refine JS.drop 6 fs rfl fun fu=>?_;obtain rfl:=oi fq;exact Ax (cd _ _ (cu,cw,V.2.1,V.2.2.1,V.2.2.2,fo) ⟨bB,e3,e4,di,fa,fb,dj,bz,bA,rfl,rfl,(((((((bY.Ac a5).Ac bv).Ac be).Ac bw).Ac a3).Ac a6).Ac a7),fu,e5,fc,ct⟩ bP) rfl
       ·refine Take.lit (pp:=(rL rI)) (jp:=2) [sV bI V.1 bJ] ([V.1]:List (List Int)) dh rfl rfl rfl rfl underlying22 BT Fp (by decide) rfl rfl rfl ⟨⟨_,_,rfl,cr⟩,trivial⟩ fun ir fv fw fx=>JG.one (i:=4) rfl (by decide+kernel) (Take.app (pp:=(rL rI)) (jp:=2) 3 5 fx rfl cv rfl rfl rfl rfl rfl rfl rfl underlying22 underlying22 BT (CS type28) Fp rfl (by decide) (by decide) (bZ.Ah ((((((a5.Ac bv).Ac be).Ac bw).Ac a3).Ac a6).Ac a7)) dg rfl rfl rfl rfl fun fy fz it dk fA fB=>?_);refine Cc 10 ht underlying24 BP rfl rfl rfl rfl (JG.one (i:=9) rfl (by decide+kernel) ?_);refine Take.app (pp:=(rL rI)) (jp:=2) 4 6 fB rfl cy rfl rfl rfl rfl rfl rfl rfl underlying22 underlying22 BT (CS type28) Fp rfl (by decide) (by decide) (b0.Ah ((((((a5.Ac bv).Ac be).Ac bw).Ac a3).Ac a6).Ac a7)) fw rfl rfl rfl rfl fun fC fD iu dl fE fF=>Co [11,12,13] (ES 3 rfl fF fun fG=>?_);refine JS.drop 3 fG rfl fun fH=>ES 4 rfl fH fun fI=>JS.drop 4 fI rfl fun fJ=>Cu (S':= [[(bk,.cells #[sV bz V.2.1 bA,iV V.2.2.1,.int .u64 ((V.2.2.2:Nat):Int)] 92 (0,0))],[(U,.cells #[nS,nS] 24 (0,0))],[(O,.cells #[sV Z K.1 ag,sV al K.2.1 am] 24 (0,0))],[],[],df,fv,dk,dl]) rfl fJ fun fK=>BY 2 fK BP fun fL=>?_;refine BM underlying24 BP rfl rfl rfl (BY 2 fL BP fun fM=>?_);obtain⟨fN,fO,fP⟩:=bs cz;refine zg 4 rfl (Bc fO rfl rfl rfl ?_);refine zg 2 rfl (JS.drop 5 fM rfl fun fQ=>?_);refine JS.drop 6 fQ rfl fun fR=>?_;obtain rfl:=oi fP;exact Ax (cd _ _ (cu,cw,V.2.1,V.2.2.1,V.2.2.2,fN) ⟨bB,fy,fz,dk,fC,fD,dl,bz,bA,rfl,rfl,(((((((bY.Ac a5).Ac bv).Ac be).Ac bw).Ac a3).Ac a6).Ac a7),fR,fA,fE,ct⟩ bP) rfl
      ·refine Take.lit (pp:=(rL rI)) (jp:=2) [sV bI V.1 bJ] ([V.1]:List (List Int)) bQ rfl rfl rfl rfl underlying22 BT Fp (by decide) rfl rfl rfl ⟨⟨_,_,rfl,cr⟩,trivial⟩ fun iv fS fT fU=>JG.one (i:=3) rfl (by decide+kernel) (Take.lit (pp:=(rL rI)) (jp:=2) [sV bi a1.1 bo] ([a1.1]:List (List Int)) fU rfl rfl rfl rfl underlying22 BT Fp (by decide) rfl rfl rfl ⟨⟨_,_,rfl,(dc.Ah ((a3.Ac a6).Ac a7))⟩,trivial⟩ fun iw fW fX fY=>?_);refine JG.one (i:=4) rfl (by decide+kernel) (Take.app (pp:=(rL rI)) (jp:=2) 3 6 fY rfl cv rfl rfl rfl rfl rfl rfl rfl underlying22 underlying22 BT (CS type28) Fp rfl (by decide) (by decide) (bZ.Ah ((((((a5.Ac bv).Ac be).Ac bw).Ac a3).Ac a6).Ac a7)) fX rfl rfl rfl rfl fun fZ ga iy dm gb gc=>?_);refine Cc 10 ht underlying24 BP rfl rfl rfl rfl (JG.one (i:=9) rfl (by decide+kernel) ?_);refine Take.app (pp:=(rL rI)) (jp:=2) 4 5 gc rfl cy rfl rfl rfl rfl rfl rfl rfl underlying22 underlying22 BT (CS type28) Fp rfl (by decide) (by decide) (b0.Ah ((((((a5.Ac bv).Ac be).Ac bw).Ac a3).Ac a6).Ac a7)) fT rfl rfl rfl rfl fun gd ge iz dn gf gg=>Co [11,12,13] (ES 3 rfl gg fun gh=>?_);refine JS.drop 3 gh rfl fun gi=>ES 4 rfl gi fun gj=>JS.drop 4 gj rfl fun gk=>Cu (S':= [[(bk,.cells #[sV bz V.2.1 bA,iV V.2.2.1,.int .u64 ((V.2.2.2:Nat):Int)] 92 (0,0))],[(U,.cells #[nS,nS] 24 (0,0))],[(O,.cells #[sV Z K.1 ag,sV al K.2.1 am] 24 (0,0))],[],[],fS,fW,dm,dn]) rfl gk fun gl=>BY 2 gl BP fun gm=>?_;refine BM underlying24 BP rfl rfl rfl (BY 2 gm BP fun gn=>?_);obtain⟨gp,gq,gr⟩:=bs cz;refine zg 4 rfl (Bc gq rfl rfl rfl ?_);refine zg 2 rfl (JS.drop 5 gn rfl fun gt=>?_);refine JS.drop 6 gt rfl fun gu=>?_;obtain rfl:=oi gr;exact Ax (cd _ _ (cu,cw,V.2.1,V.2.2.1,V.2.2.2,gp) ⟨bB,fZ,ga,dm,gd,ge,dn,bz,bA,rfl,rfl,(((((((bY.Ac a5).Ac bv).Ac be).Ac bw).Ac a3).Ac a6).Ac a7),gu,gb,gf,ct⟩ bP) rfl
     ·intro gv;refine JL.block (CP e0 (fun L s a0=>∃(bC:LH) (bR:An) (bS:Nat) (bD:An) (bE:Nat),Jn cq H bC [bX bk #[sV bR a0.1 bS,iV a0.2.1,.int .u64 ((a0.2.2.1:Nat):Int)] 92,bX U #[nS,nS] 24,bX O #[sV Z K.1 ag,sV al K.2.1 am] 24,ap,av] [(0,pV bk 0),(4,pV U 0),(5,pV O 0),(6,iV a4.1),(7,iV K.2.2.2.2.2),(8,sV bi a1.1 bo),(9,sV bD a0.2.2.2.1 bE),(10,iV a0.2.2.2.2)] L s (Am rI bC bR bS a0.1∧Am rI bC bD bE a0.2.2.2.1)) ⟨cq,dd,de,none,0,rfl,rfl,Ar,eZ,eX,Am.nil⟩ ?_);rintro _ _ a0 ⟨bC,bR,bS,bD,bE,rfl,rfl,dp,dq,dr,cA⟩ gw ⟨iA,cB⟩ gx;have dt:=cB;unfold M4 at dt;obtain⟨gy,gz,gA⟩:=bs dt;refine zg 6 rfl (ED [] (fun L s=>∃(cC:LH),Jm bC H cC [bX bk #[sV bR a0.1 bS,iV a0.2.1,.int .u64 ((a0.2.2.1:Nat):Int)] 92,bX U #[nS,nS] 24,bX O #[sV Z K.1 ag,sV al K.2.1 am] 24,ap,av] [(0,pV bk 0),(4,pV U 0),(5,pV O 0),(6,iV a4.1),(7,iV K.2.2.2.2.2),(8,sV bi a1.1 bo),(9,sV bD a0.2.2.2.1 bE),(10,iV a0.2.2.2.2),(50,.bool gy)] L s) ?_ ?_)
      ·rintro _ _ ⟨cC,rfl,rfl,bF,du⟩;refine JL.done (BJ gA (fun gB gC=>?_) (fun gB gD=>?_))
       ·obtain⟨gE,gF,gG⟩:=bs gC;refine zg 7 rfl (Cd gF rfl rfl rfl ?_);refine AE (v:=iV (max (0) gE)) rfl (fun ρ h=>Yl.max2 (h _ _ rfl) (h _ _ rfl)) ?_;obtain⟨iB,gH,gI⟩:=bs gG;refine B9 0 (HY (dr.Ah bF) gH) rfl rfl HM du rfl ?_;rintro _ iC _ cD ⟨iD,iE,rfl,rfl,gJ⟩ gK;obtain⟨iF,gL,gM⟩:=bs gI;refine zg 6 rfl (B9 0 (Lm gJ gL) rfl rfl Km gK rfl ?_);rintro _ dv _ cE ⟨gN,gO,rfl,rfl,dw⟩ dx;obtain⟨a2,gP,gQ⟩:=bs gM;refine JL.done (Bp (fun L s=>∃(bT:LH) (bK:An) (bL:Nat),Jn dv H bT [bX bk #[sV bK a2.2.1 bL,iV a2.2.2.1,.int .u64 ((a2.2.2.2:Nat):Int)] 92,bX U #[nS,nS] 24,bX O #[sV Z K.1 ag,sV al K.2.1 am] 24,ap,av] [(0,pV bk 0),(4,pV U 0),(5,pV O 0),(6,iV a4.1),(7,iV K.2.2.2.2.2),(8,sV bi a1.1 bo),(9,sV bD a0.2.2.2.1 bE),(10,iV a0.2.2.2.2),(11,iV a2.1)] L s (Am rI bT bK bL a2.2.1)) ?_ ?_)
        ·rintro _ _ ⟨bT,bK,bL,rfl,rfl,cF,dy,gR⟩;obtain⟨cG,gS,gT⟩:=bs gQ;refine zg 6 rfl (Bp (fun L s=>∃(b5:LH) (b6:An) (b7:Nat),Jn bT H b5 [bX bk #[sV bK a2.2.1 bL,iV a2.2.2.1,.int .u64 ((a2.2.2.2:Nat):Int)] 92,bX U #[nS,nS] 24,bX O #[sV Z K.1 ag,sV al K.2.1 am] 24,ap,av] [(0,pV bk 0),(4,pV U 0),(5,pV O 0),(6,iV a4.1),(7,iV K.2.2.2.2.2),(8,sV bi a1.1 bo),(9,sV b6 cG b7),(10,iV a0.2.2.2.2)] L s (Am rI b5 b6 b7 cG)) ?_ ?_)
         ·rintro _ _ ⟨b5,b6,b7,rfl,rfl,dz,gU,gV⟩;obtain⟨gW,gX,gY⟩:=bs gT;refine zg 3 rfl (Cd gX rfl rfl rfl ?_);refine zg 2 rfl ?_;obtain rfl:=oi gY;exact Ax (gx _ _ (a2.2.1,a2.2.2.1,a2.2.2.2,cG,gW) ⟨b5,bK,bL,b6,b7,rfl,rfl,(((((dp.Ac bF).Ac cD).Ac cE).Ac cF).Ac dz),gU,(gR.Ah dz),gV⟩ cB) rfl
         ·intro dA;refine AL gS (fun gZ g0=>?_) (fun gZ g1=>?_)
          ·obtain⟨iG,g3,g4⟩:=bs g0;refine zg 3 rfl (BO (Th (cA.Ah (((bF.Ac cD).Ac cE).Ac cF)) g3) rfl rfl (AR func98 rfl) dy ?_);rintro _ g5 _ g6 ⟨g7,g8,rfl,rfl,g9⟩ ha;refine Cu (S':= [[(bk,.cells #[sV bK a2.2.1 bL,iV a2.2.2.1,.int .u64 ((a2.2.2.2:Nat):Int)] 92 (0,0))],[(U,.cells #[nS,nS] 24 (0,0))],[(O,.cells #[sV Z K.1 ag,sV al K.2.1 am] 24 (0,0))],ap,av,[]]) rfl ha fun hb=>zg 2 rfl ?_;obtain rfl:=oi g4;exact Ax (dA _ _ ⟨g5,g7,g8,rfl,rfl,g6,hb,g9⟩) rfl
          ·refine JL.skip ?_;obtain rfl:=oi g1;exact Ax (dA _ _ ⟨bT,bD,bE,rfl,rfl,Ar,dy,(cA.Ah (((bF.Ac cD).Ac cE).Ac cF))⟩) rfl
        ·intro dB;refine BJ gP (fun hc hd=>?_) (fun hc he=>?_)
         ·obtain⟨iH,hf,hj⟩:=bs hd;refine zg 3 rfl (Cd hf rfl rfl rfl ?_);obtain⟨cH,hk,hl⟩:=bs hj;refine B9 0 (HY dw hk) rfl rfl HM dx rfl ?_;rintro _ hm _ hn ⟨dC,dD,rfl,rfl,ho⟩ hp;refine Cu (S':= [[(bk,.cells #[sV dC cH.2.1 dD,iV cH.2.2.1,.int .u64 ((cH.2.2.2:Nat):Int)] 92 (0,0))],[(U,.cells #[nS,nS] 24 (0,0))],[(O,.cells #[sV Z K.1 ag,sV al K.2.1 am] 24 (0,0))],ap,av]) rfl hp fun hq=>zg 2 rfl ?_;obtain rfl:=oi hl;exact Ax (dB _ _ ⟨hm,dC,dD,rfl,rfl,hn,hq,ho⟩) rfl
         ·refine JL.skip ?_;obtain rfl:=oi he;exact Ax (dB _ _ ⟨dv,gN,gO,rfl,rfl,Ar,dx,dw⟩) rfl
       ·refine JL.exit rfl ?_;obtain rfl:=oi gD;obtain rfl:=gw _ cB;exact Ax (gv _ _ ⟨cC,bD,bE,bR,bS,rfl,rfl,(dp.Ac bF),du,(cA.Ah bF),(dr.Ah bF)⟩) rfl
      ·intro dE;refine Eo 47 gz (fun hr hu=>?_) (fun hr hv=>?_)
       ·refine zg 3 rfl ?_;obtain rfl:=oi hu;exact Ax (dE _ _ ⟨bC,rfl,rfl,Ar,dq⟩) rfl
       ·refine zg 3 rfl ?_;obtain rfl:=oi hv;exact Ax (dE _ _ ⟨bC,rfl,rfl,Ar,dq⟩) rfl
    ·intro dF;refine BJ eN (fun hw hx=>?_) (fun hw hy=>?_)
     ·obtain⟨iI,hz,hA⟩:=bs hx;refine zg 3 rfl (Cd hz rfl rfl rfl ?_);obtain⟨bU,hB,hC⟩:=bs hA;refine B9 0 (HY da hB) rfl rfl HM db rfl ?_;rintro _ iJ _ hD ⟨dG,dH,rfl,rfl,hE⟩ hF;refine Dt (pp:=rI) [iV bU.1] [bU.1] rfl rfl rfl underlying28 AU CK (by decide) rfl rfl rfl ⟨rfl,trivial⟩ hF fun hG iK hH hI=>zg 2 rfl (B6 5 hH hI rfl fun hJ dI hK hL=>?_);refine Cu (S':= [[(bk,.cells #[sV dG bU.2.1 dH,iV bU.2.2.1,.int .u64 ((bU.2.2.2:Nat):Int)] 92 (0,0))],[(U,.cells #[nS,nS] 24 (0,0))],[(O,.cells #[sV Z K.1 ag,sV al K.2.1 am] 24 (0,0))],ap,av,[]]) rfl hL fun hM=>?_;obtain rfl:=oi hC;exact Ax (dF _ _ ⟨hJ,(AY hG),1,dG,dH,rfl,rfl,(hD.Ac dI),hM,hK,(hE.Ah dI)⟩) rfl
     ·refine JL.skip ?_;obtain rfl:=oi hy;exact Ax (dF _ _ ⟨c7,b2,b3,c8,c9,rfl,rfl,Ar,db,(eI.Ah be),da⟩) rfl
   ·intro dJ;refine BJ eF (fun hN hO=>?_) (fun hN hP=>?_)
    ·obtain⟨iL,hQ,hR⟩:=bs hO;refine zg 5 rfl (Cd hQ rfl rfl rfl ?_);obtain⟨cI,hS,hT⟩:=bs hR;refine B9 0 (Pq c5 hS) rfl rfl N8 c6 rfl ?_;rintro _ iM _ dK ⟨dL,dM,rfl,rfl,hU⟩ hV;refine Cu (S':= [[(bk,.cells #[sV dL cI.2.1 dM,iV cI.2.2.1,.int .u64 ((cI.2.2.2:Nat):Int)] 92 (0,0))],[(U,.cells #[nS,nS] 24 (0,0))],[(O,.cells #[sV Z K.1 ag,sV al K.2.1 am] 24 (0,0))],ap,av,eA]) rfl hV fun hW=>B6 5 (c1.Ah (a5.Ac dK)) hW rfl fun iN dN hX hY=>?_;obtain⟨iO,hZ,h0⟩:=bs hT;refine BO (Th hX hZ) rfl rfl (AR func98 rfl) hY ?_;rintro _ h1 _ dO ⟨h2,h3,rfl,rfl,h4⟩ h5;refine zg 2 rfl ?_;obtain rfl:=oi h0;exact Ax (dJ _ _ ⟨h1,h2,h3,dL,dM,rfl,rfl,((dK.Ac dN).Ac dO),h5,h4,(hU.Ah (dN.Ac dO))⟩) rfl
    ·refine JL.skip (B6 5 (c1.Ah a5) c6 rfl fun h6 dP h7 h8=>?_);refine Cu (S':= [[(bk,.cells #[sV c3 cg.2.1 c4,iV cg.2.2.1,.int .u64 ((cg.2.2.2:Nat):Int)] 92 (0,0))],[(U,.cells #[nS,nS] 24 (0,0))],[(O,.cells #[sV Z K.1 ag,sV al K.2.1 am] 24 (0,0))],ap,av,[]]) rfl h8 fun h9=>?_;obtain rfl:=oi hP;exact Ax (dJ _ _ ⟨h6,(AY ez),1,c3,c4,rfl,rfl,dP,h9,h7,(c5.Ah dP)⟩) rfl
  ·refine JL.exit rfl ?_;obtain rfl:=oi et;obtain rfl:=ep _ bP;exact Ax (eo _ _ ⟨bG,bV,bW,Z,ag,ap,al,am,av,rfl,rfl,bY,cY,cZ,bZ,b0⟩) rfl
def Ng(fuel:Nat)(p1:A2)(U:Int×(B8))(K:(List Int)×Int×Nat×Int×Int):Option (Bf ((List Int)×Int×Nat×Int×Int) (Int×B8)):= if K.2.2.2.2<U.1 then((ix p1.1 K.2.2.2.1).bind fun V=> (f99 fuel (K.1,K.2.1,K.2.2.1) V).bind fun O=> (Au (K.2.2.2.2+1)).bind fun Y=> some (.more (O.2.1,O.2.2.1,O.2.2.2,O.1,Y))) else(some (.done (K.2.2.2.1,K.1,K.2.1,K.2.2.1)))
def M6(fuel:Nat)(p1:A2)(p2:Int)(K:(List Int)×Int×Nat×Int×(List Int)×Int):Option (Bf ((List Int)×Int×Nat×Int×(List Int)×Int) ((List Int)×B8)):= if K.2.2.2.2.2<p2 then((room K.2.2.2.2.1 K.2.2.2.1).bind fun U=> (ix p1.1 K.2.2.2.1).bind fun V=> (f99 fuel (K.1,K.2.1,K.2.2.1) V).bind fun O=> (Au (K.2.2.2.2.2+1)).bind fun Y=> some (.more (O.2.1,O.2.2.1,O.2.2.2,O.1,U,Y))) else(some (.done (K.2.2.2.2.1,K.1,K.2.1,K.2.2.1)))
def f45(fuel:Nat)(p0:B8)(p1:A2)(p2:Int):Option (Int×(List Int)×(B8)):= (f41 fuel p0 6).bind fun K=> Option.bind (iter (Ng fuel p1 K) fuel (K.2.1,K.2.2.1,K.2.2.2,0,0)) fun O=> Option.bind (iter (M6 fuel p1 p2) fuel (O.2.1,O.2.2.1,O.2.2.2,O.1,[],0)) fun U=> some (K.1,U.1,U.2)
theorem ba{bk:Nat}{bF:An}{c2:Nat}{bG:An}{bH:Nat}{bI:An}{bJ:Nat}{p0:B8}{p1:A2}{p2:Int}(b1:Am rI E bF c2 p0.1)(bK:Am (rL rI) E bG bH p1.1)(dj:Am (rL rI) E bI bJ p1.2){fuel:Nat}{r:Int×(List Int)×(B8)}(bL:f45 fuel p0 p1 p2=some r):AM J 45 [pV bk 0,.agg #[sV bG p1.1 bH,sV bI p1.2 bJ],iV p2] E [(bk,.cells #[sV bF p0.1 c2,iV p0.2.1,.int .u64 ((p0.2.2:Nat):Int)] 92 (0,0))] (fun w E' B'=>∃(bM:An) (bN:Nat) (bO:An) (bP:Nat),w= .tuple #[iV r.1,sV bM r.2.1 bN]∧B'= [(bk,.cells #[sV bO r.2.2.1 bP,iV r.2.2.2.1,.int .u64 ((r.2.2.2.2:Nat):Int)] 92 (0,0))]∧Am rI E' bM bN r.2.1∧Am rI E' bO bP r.2.2.1):=by
 refine A4 func45 fun Q dk cs H b2 b3=>?_;unfold f45 at bL;refine zg 2 rfl (B7 b2 fun bz dl ap bQ b4=>?_);obtain⟨av,b5,b6⟩:=bs bL;refine zg 6 rfl (B9 0 (HY (b1.Ah ap) b5) rfl rfl HM b4 rfl ?_);rintro _ bA _ Y ⟨b7,b8,rfl,rfl,b9⟩ ca;obtain⟨Z,cb,cc⟩:=bs b6;refine zg 8 rfl (Bp (fun L s=>∃(U:LH) (a0:An) (a1:Nat),Jn bA H U [bX bk #[sV a0 Z.2.1 a1,iV Z.2.2.1,.int .u64 ((Z.2.2.2:Nat):Int)] 92] [(0,pV bk 0),(2,iV p2),(4,pV bz 0),(8,iV av.1),(9,iV Z.1)] L s (Am rI U a0 a1 Z.2.1)) ?_ ?_)
 ·rintro _ _ ⟨U,a0,a1,rfl,rfl,bB,cd,ce⟩;obtain⟨V,cf,cg⟩:=bs cc;refine zg 9 rfl (Bp (fun L s=>∃(a2:LH) (a3:An) (a4:Nat) (bC:Seg) (a5:An) (a6:Nat),Jn U H a2 [bX bk #[sV a5 V.2.1 a6,iV V.2.2.1,.int .u64 ((V.2.2.2:Nat):Int)] 92,bC] [(8,iV av.1),(11,sV a3 V.1 a4)] L s (OL 3 rI a2 a3 a4 bC V.1∧Am rI a2 a5 a6 V.2.1)) ?_ ?_)
  ·rintro _ _ ⟨a2,a3,a4,bC,a5,a6,rfl,rfl,ci,ck,cm,cn⟩;refine zg 7 rfl (B6 1 cm ck rfl fun dm bR co cp=>?_);obtain rfl:=oi cg;exact AA func45 rfl rfl (b3 ((((ap.Ac Y).Ac bB).Ac ci).Ac bR) rfl ⟨a3,a4,a5,a6,rfl,rfl,co,(cn.Ah bR)⟩ cp)
  ·intro cq;refine JL.block (CP cf (fun L s K=>∃(ag:LH) (a7:An) (a8:Nat) (al:An) (am:Nat) (a9:Seg),Jn U H ag [bX bk #[sV a7 K.1 a8,iV K.2.1,.int .u64 ((K.2.2.1:Nat):Int)] 92,a9] [(0,pV bk 0),(2,iV p2),(4,pV bz 0),(8,iV av.1),(9,iV K.2.2.2.1),(11,sV al K.2.2.2.2.1 am),(12,iV K.2.2.2.2.2)] L s (Am rI ag a7 a8 K.1∧OL 3 rI ag al am a9 K.2.2.2.2.1)) ⟨U,a0,a1,none,0,[],rfl,rfl,Ar,cd,ce,OL.nil⟩ ?_);rintro _ _ K ⟨ag,a7,a8,al,am,a9,rfl,rfl,bb,bS,bT,bU⟩ cr ⟨dn,bD⟩ ct;have bV:=bD;unfold M6 at bV;refine zg 7 rfl (AL bV (fun cu cv=>?_) (fun cu cw=>?_))
   ·obtain⟨cy,cz,cA⟩:=bs cv;refine zg 7 rfl (JS.app (pp:=rI) (v:=iV K.2.2.2.1) (a:=al) (c:=am) 1 cz rfl rfl rfl rfl (fun _=>rfl) rfl (fun _=>rfl) rfl rfl rfl underlying28 underlying28 underlying28 AU (CS type3) CK rfl (by decide) (by decide) (by decide) (by decide) bU rfl bS rfl fun dp cB cC cD cE cF=>?_);refine zg 4 rfl (JL.fl 0 (bQ.Ah ((Y.Ac bB).Ac bb)) underlying24 BP Cn ?_);obtain⟨dq,cG,cH⟩:=bs cA;refine zg 1 rfl (BN (bK.Ah (((ap.Ac Y).Ac bB).Ac bb)) cG underlying22 BT ?_);rintro dr dt _ ⟨du,dv,rfl,cI⟩ cJ;refine BH 0 cJ CF rfl rfl rfl ?_;obtain⟨bd,cK,cM⟩:=bs cH;refine B9 0 (NF bT cI cK) rfl rfl L2 cF rfl ?_;rintro _ cN _ bW ⟨cO,cP,rfl,rfl,cQ⟩ cR;obtain⟨cT,cV,cW⟩:=bs cM;refine zg 5 rfl (Bc cV rfl rfl rfl ?_);refine zg 2 rfl ?_;obtain rfl:=oi cW;exact Ax (ct _ _ (bd.2.1,bd.2.2.1,bd.2.2.2,bd.1,cy,cT) ⟨cN,cO,cP,cB,cC,cD,rfl,rfl,(bb.Ac bW),cR,cQ,(cE.Ah bW)⟩ bD) rfl
   ·refine JL.exit rfl ?_;obtain rfl:=oi cw;obtain rfl:=cr _ bD;exact Ax (cq _ _ ⟨ag,al,am,a9,a7,a8,rfl,rfl,bb,bS,bU,bT⟩) rfl
 ·intro cX;refine JL.block (CP cb (fun L s O=>∃(be:LH) (bi:An) (bo:Nat),Jn bA H be [bX bk #[sV bi O.1 bo,iV O.2.1,.int .u64 ((O.2.2.1:Nat):Int)] 92] [(0,pV bk 0),(2,iV p2),(4,pV bz 0),(8,iV av.1),(9,iV O.2.2.2.1),(10,iV O.2.2.2.2)] L s (Am rI be bi bo O.1)) ⟨bA,b7,b8,rfl,rfl,Ar,ca,b9⟩ ?_);rintro _ _ O ⟨be,bi,bo,rfl,rfl,bv,bY,bZ⟩ cY ⟨dw,bE⟩ cZ;have b0:=bE;unfold Ng at b0;refine zg 7 rfl (AL b0 (fun c0 c1=>?_) (fun c0 c3=>?_))
  ·refine zg 5 rfl (JL.fl 0 (bQ.Ah (Y.Ac bv)) underlying24 BP Cn ?_);obtain⟨dx,c4,c5⟩:=bs c1;refine zg 1 rfl (BN (bK.Ah ((ap.Ac Y).Ac bv)) c4 underlying22 BT ?_);rintro dy dz _ ⟨dA,dB,rfl,c6⟩ c7;refine BH 0 c7 CF rfl rfl rfl ?_;obtain⟨bw,c8,c9⟩:=bs c5;refine B9 0 (NF bZ c6 c8) rfl rfl L2 bY rfl ?_;rintro _ da _ db ⟨dc,dd,rfl,rfl,de⟩ df;obtain⟨dg,dh,di⟩:=bs c9;refine zg 5 rfl (Bc dh rfl rfl rfl ?_);refine zg 2 rfl ?_;obtain rfl:=oi di;exact Ax (cZ _ _ (bw.2.1,bw.2.2.1,bw.2.2.2,bw.1,dg) ⟨da,dc,dd,rfl,rfl,(bv.Ac db),df,de⟩ bE) rfl
  ·refine JL.exit rfl ?_;obtain rfl:=oi c3;obtain rfl:=cY _ bE;exact Ax (cX _ _ ⟨be,bi,bo,rfl,rfl,bv,bY,bZ⟩) rfl
def O7(fuel:Nat)(p1:A2)(p2:List Int)(p4:Bool)(K:(List Int)×Int×Nat×(AI)×Int×Int):Option (Bf ((List Int)×Int×Nat×(AI)×Int×Int) ((AI)×B8)):= if 0<K.2.2.2.2.2 then((Au ((p2.length:Int) - 1)).bind fun ag=> (Au (K.2.2.2.2.1+2)).bind fun al=> (f96 fuel (K.1,K.2.1,K.2.2.1) K.2.2.2.2.1 (min ag al)).bind fun O=> (ix p2 O.1).bind fun am=> (ix p2 O.1).bind fun ap=> (ix p1.2 ap).bind fun Z=> Option.bind (if p4=true then(some (decide (0<(Z.length:Int)))) else(some false)) fun av=> Option.bind (if av=true then((f97 fuel O.2 2).bind fun a0=> some a0) else(some (false,O.2.1,O.2.2.1,O.2.2.2))) fun U=> Option.bind (if U.1=true then((f99 fuel U.2 Z).bind fun V=> some (V.2.1,V.2.2.1,V.2.2.2,V.1)) else(some (U.2.1,U.2.2.1,U.2.2.2,am))) fun Y=> (room K.2.2.2.1 (O.1,Y.2.2.2)).bind fun a1=> (Au (K.2.2.2.2.2 - 1)).bind fun a2=> some (.more (Y.1,Y.2.1,Y.2.2.1,a1,O.1,a2))) else(some (.done (K.2.2.2.1,K.1,K.2.1,K.2.2.1)))
def f46(fuel:Nat)(p0:B8)(p1:A2)(p2:List Int)(p3:Int)(p4:Bool):Option ((AI)×(B8)):= (f41 fuel p0 p3).bind fun K=> Option.bind (iter (O7 fuel p1 p2 p4) fuel (K.2.1,K.2.2.1,K.2.2.2,[],0,K.1)) fun O=> some O
theorem aM{bk:Nat}{bH:An}{c2:Nat}{bI:An}{bJ:Nat}{bK:An}{bL:Nat}{ag:An}{al:Nat}{p0:B8}{p1:A2}{p2:List Int}{p3:Int}{p4:Bool}(cd:Am rI E bH c2 p0.1)(dQ:Am (rL rI) E bI bJ p1.1)(ce:Am (rL rI) E bK bL p1.2)(bM:Am rI E ag al p2){fuel:Nat}{r:(AI)×(B8)}(bN:f46 fuel p0 p1 p2 p3 p4=some r):AM J 46 [pV bk 0,.agg #[sV bI p1.1 bJ,sV bK p1.2 bL],sV ag p2 al,iV p3,.bool p4] E [(bk,.cells #[sV bH p0.1 c2,iV p0.2.1,.int .u64 ((p0.2.2:Nat):Int)] 92 (0,0))] (fun w E' B'=>∃(bO:An) (bP:Nat) (g0:Seg) (bQ:An) (bR:Nat),w= sV bO r.1 bP∧B'= [(bk,.cells #[sV bQ r.2.1 bR,iV r.2.2.1,.int .u64 ((r.2.2.2:Nat):Int)] 92 (0,0))]++g0∧OL 27 Bo E' bO bP g0 r.1∧Am rI E' bQ bR r.2.1):=by
 refine A4 func46 fun Q dR cs H cf cg=>?_;unfold f46 at bN;refine zg 2 rfl (B7 cf fun a7 dS a1 ci ck=>?_);obtain⟨dT,cm,cn⟩:=bs bN;refine zg 15 rfl (B9 0 (HY (cd.Ah a1) cm) rfl rfl HM ck rfl ?_);rintro _ bD _ a2 ⟨co,cp,rfl,rfl,cq⟩ cr;obtain⟨am,ct,cu⟩:=bs cn;refine zg 2 rfl (Bp (fun L s=>∃(a8:LH) (a9:An) (bb:Nat) (bd:Seg) (be:An) (bi:Nat),Jn bD H a8 [bX bk #[sV be am.2.1 bi,iV am.2.2.1,.int .u64 ((am.2.2.2:Nat):Int)] 92,bd] [(11,sV a9 am.1 bb)] L s (OL 27 Bo a8 a9 bb bd am.1∧Am rI a8 be bi am.2.1)) ?_ ?_)
 ·rintro _ _ ⟨a8,a9,bb,bd,be,bi,rfl,rfl,cv,cw,cy,cz⟩;refine zg 5 rfl ?_;obtain rfl:=oi cu;exact AA func46 rfl rfl (cg ((a1.Ac a2).Ac cv) rfl ⟨a9,bb,bd,be,bi,rfl,(by first | rfl | simp | (simp [Value.cells])),cy,cz⟩ cw)
 ·intro cA;refine JL.block (CP ct (fun L s K=>∃(a3:LH) (bo:An) (bv:Nat) (V:An) (Y:Nat) (Z:Seg),Jn bD H a3 [bX bk #[sV bo K.1 bv,iV K.2.1,.int .u64 ((K.2.2.1:Nat):Int)] 92,Z] [(0,pV bk 0),(2,sV ag p2 al),(4,.bool p4),(6,pV a7 0),(11,sV V K.2.2.2.1 Y),(12,iV K.2.2.2.2.1),(13,iV K.2.2.2.2.2)] L s (Am rI a3 bo bv K.1∧OL 27 Bo a3 V Y Z K.2.2.2.1)) ⟨bD,co,cp,none,0,[],rfl,rfl,Ar,cr,cq,OL.nil⟩ ?_);rintro _ _ K ⟨a3,bo,bv,V,Y,Z,rfl,rfl,ap,bS,bT,bU⟩ cB ⟨dU,bE⟩ cC;have bV:=bE;unfold O7 at bV;refine zg 6 rfl (AL bV (fun cD cE=>?_) (fun cD cF=>?_))
  ·refine zg 8 rfl (Be underlying28 rfl rfl rfl ?_);obtain⟨cG,cH,cI⟩:=bs cE;refine Cd cH rfl rfl rfl ?_;obtain⟨cJ,cK,cM⟩:=bs cI;refine zg 1 rfl (Bc cK rfl rfl rfl ?_);refine AE (v:=iV (min cG cJ)) rfl (fun ρ h=>Yl.min2 (h _ _ rfl) (h _ _ rfl)) ?_;obtain⟨O,cN,cO⟩:=bs cM;refine B9 0 (Pq bT cN) rfl rfl N8 bS rfl ?_;rintro _ dV _ av ⟨bW,bY,rfl,rfl,bZ⟩ cP;obtain⟨bF,cQ,cR⟩:=bs cO;refine zg 7 rfl (BN (bM.Ah (((a1.Ac a2).Ac ap).Ac av)) cQ underlying28 AU ?_);rintro dW dX _ rfl cT;refine BH 0 cT Bt rfl rfl rfl (AE (v:= .agg #[iV O.1,iV bF]) rfl (fun ρ h=>Di [(0,1),(1,1)] h Et underlying27 ⟨rfl,Bw type3,rfl,Bw type3,trivial⟩ rfl rfl) ?_);refine CU cP Et fun a0 cV=>?_;refine BY 2 cV Cf fun b0=>?_;refine zg 3 rfl (C7 6 fun ht=>?_);refine Cc 0 ht underlying24 BP rfl rfl rfl rfl (Cy 1 ht 1 (ci.Ah ((a2.Ac ap).Ac av)) Cn rfl rfl rfl rfl ?_);refine A0 ht rfl [2,3] rfl ?_;obtain⟨dY,cW,cX⟩:=bs cR;refine CG 4 (bM.Ah (((a1.Ac a2).Ac ap).Ac av)) cW ht underlying28 AU ?_;rintro dZ ea _ rfl cY;refine Cy 5 ht 0 cY Bt rfl rfl rfl rfl (Co [6,7,8] ?_);obtain⟨b1,cZ,c0⟩:=bs cX;refine BN (ce.Ah (((a1.Ac a2).Ac ap).Ac av)) cZ underlying22 BT ?_;rintro eb ec _ ⟨b2,b3,rfl,c1⟩ c3;refine BH 0 c3 CF rfl rfl rfl ?_;obtain⟨c4,c5,c6⟩:=bs c0;refine zg 6 rfl (Dp 6 4 [bX bk #[sV bW O.2.1 bY,iV O.2.2.1,.int .u64 ((O.2.2.2:Nat):Int)] 92,Z,bX a0 #[iV O.1,iV bF] 27] [(0,pV bk 0),(2,sV ag p2 al),(4,.bool p4),(6,pV a7 0),(11,sV V K.2.2.2.1 Y),(12,iV O.1),(13,iV K.2.2.2.2.2),(14,pV a0 0),(15,sV b2 b1 b3),(51,.bool c4)] (fun b4 a4 b5=>?_) (fun b6=>?_))
   ·obtain⟨a5,c7,c8⟩:=bs c6;refine zg 1 rfl (ED [] (fun L s=>∃(a6:LH) (bw:An) (bz:Nat),Jn b4 H a6 [bX bk #[sV bw a5.2.1 bz,iV a5.2.2.1,.int .u64 ((a5.2.2.2:Nat):Int)] 92,Z,bX a0 #[iV O.1,iV bF] 27] [(0,pV bk 0),(2,sV ag p2 al),(4,.bool p4),(6,pV a7 0),(11,sV V K.2.2.2.1 Y),(12,iV O.1),(13,iV K.2.2.2.2.2),(14,pV a0 0),(15,sV b2 b1 b3),(55,.bool a5.1)] L s (Am rI a6 bw bz a5.2.1)) ?_ ?_)
    ·rintro _ _ ⟨a6,bw,bz,rfl,rfl,bG,b7,b8⟩;obtain⟨U,c9,da⟩:=bs c8;refine JL.done (Bp (fun L s=>∃(bA:LH) (bB:An) (bC:Nat),Jn a6 H bA [bX bk #[sV bB U.1 bC,iV U.2.1,.int .u64 ((U.2.2.1:Nat):Int)] 92,Z,bX a0 #[iV O.1,iV U.2.2.2] 27] [(0,pV bk 0),(2,sV ag p2 al),(4,.bool p4),(6,pV a7 0),(11,sV V K.2.2.2.1 Y),(12,iV O.1),(13,iV K.2.2.2.2.2),(14,pV a0 0)] L s (Am rI bA bB bC U.1)) ?_ ?_)
     ·rintro _ _ ⟨bA,bB,bC,rfl,rfl,b9,ca,db⟩;refine zg 2 rfl (AE rfl (fun ρ h=>FY (vs:= [iV O.1,iV U.2.2.2]) Gv Cf (h _ _ rfl) (FV (off:=0) 2 ca rfl rfl)) ?_);obtain⟨dc,dd,de⟩:=bs da;refine JS.app (pp:=Bo) (v:= .agg #[iV O.1,iV U.2.2.2]) (a:=V) (c:=Y) 1 dd rfl rfl rfl rfl (fun _=>rfl) rfl (fun _=>rfl) rfl rfl rfl underlying25 underlying25 underlying25 Cf (CS type27) Et rfl (by decide) (by decide) (by decide) (by decide) (bU.Ah (((av.Ac a4).Ac bG).Ac b9)) ⟨_,_,rfl,rfl,rfl⟩ ca rfl fun ed df dg dh di dj=>?_;obtain⟨dk,dl,dm⟩:=bs de;refine zg 5 rfl (Cd dl rfl rfl rfl ?_);refine zg 2 rfl (JS.drop 2 dj rfl fun dn=>?_);obtain rfl:=oi dm;exact Ax (cC _ _ (U.1,U.2.1,U.2.2.1,dc,O.1,dk) ⟨bA,bB,bC,df,dg,dh,rfl,rfl,((((ap.Ac av).Ac a4).Ac bG).Ac b9),dn,db,di⟩ bE) rfl
     ·intro cb;refine BJ c9 (fun dp dq=>?_) (fun dp dr=>?_)
      ·obtain⟨ee,dt,du⟩:=bs dq;refine zg 3 rfl (B9 0 (NF b8 (c1.Ah (a4.Ac bG)) dt) rfl rfl L2 b7 rfl ?_);rintro _ dv _ dw ⟨dx,dy,rfl,rfl,dz⟩ dA;refine BM underlying27 AU rfl rfl rfl (BY 2 dA AU fun dB=>?_);refine JL.done ?_;obtain rfl:=oi du;exact Ax (cb _ _ ⟨dv,dx,dy,rfl,rfl,dw,dB,dz⟩) rfl
      ·refine JL.skip ?_;obtain rfl:=oi dr;exact Ax (cb _ _ ⟨a6,bw,bz,rfl,rfl,Ar,b7,b8⟩) rfl
    ·intro cc;refine Dy 52 c7 (fun dC dD=>?_) (fun dC dE=>?_)
     ·obtain⟨ef,dF,dG⟩:=bs dD;refine zg 1 rfl (B9 0 (Lm (bZ.Ah a4) dF) rfl rfl Km b5 rfl ?_);rintro _ dH _ dI ⟨dJ,dK,rfl,rfl,dL⟩ dM;refine zg 1 rfl ?_;obtain rfl:=oi dG;exact Ax (cc _ _ ⟨dH,dJ,dK,rfl,rfl,dI,dM,dL⟩) rfl
     ·refine zg 3 rfl ?_;obtain rfl:=oi dE;exact Ax (cc _ _ ⟨b4,bW,bY,rfl,rfl,Ar,b5,(bZ.Ah a4)⟩) rfl
   ·refine Dy 47 c5 (fun dN dO=>?_) (fun dN dP=>?_)
    ·refine zg 1 rfl (Be underlying28 rfl rfl rfl ?_);refine zg 2 rfl ?_;obtain rfl:=oi dO;exact b6 Ar b0 rfl
    ·refine zg 4 rfl ?_;obtain rfl:=oi dP;exact b6 Ar b0 rfl
  ·refine JL.exit rfl ?_;obtain rfl:=oi cF;obtain rfl:=cB _ bE;exact Ax (cA _ _ ⟨a3,V,Y,Z,bo,bv,rfl,rfl,ap,bS,bU,bT⟩) rfl
def Nt(fuel:Nat)(p1:A2)(K:(List Int)×Int×Nat×(AI)×Int):Option (Bf ((List Int)×Int×Nat×(AI)×Int) ((AI)×B8)):= if K.2.2.2.2<(K.2.2.2.1.length:Int) then((f97 fuel (K.1,K.2.1,K.2.2.1) 6).bind fun O=> Option.bind (if O.1=true then((Au ((p1.1.length:Int) - 1)).bind fun Y=> (f41 fuel O.2 Y).bind fun U=> (ix K.2.2.2.1 K.2.2.2.2).bind fun Z=> some ((K.2.2.2.1.set (Int.toNat K.2.2.2.2) (Z.1,U.1)),U.2.1,U.2.2.1,U.2.2.2)) else(some (K.2.2.2.1,O.2.1,O.2.2.1,O.2.2.2))) fun V=> (Au (K.2.2.2.2+1)).bind fun ag=> some (.more (V.2.1,V.2.2.1,V.2.2.2,V.1,ag))) else(some (.done (K.2.2.2.1,K.1,K.2.1,K.2.2.1)))
def f40(fuel:Nat)(p0:B8)(p1:A2)(p2:Int):Option ((AI)×(B8)):= (f45 fuel p0 p1 5).bind fun O=> (f46 fuel O.2.2 p1 O.2.1 p2 true).bind fun K=> Option.bind (iter (Nt fuel p1) fuel (K.2.1,K.2.2.1,K.2.2.2,K.1,0)) fun U=> some U
theorem aL{bk:Nat}{bI:An}{c2:Nat}{bw:An}{bz:Nat}{bJ:An}{bK:Nat}{p0:B8}{p1:A2}{p2:Int}(b5:Am rI E bI c2 p0.1)(bL:Am (rL rI) E bw bz p1.1)(bM:Am (rL rI) E bJ bK p1.2){fuel:Nat}{r:(AI)×(B8)}(bN:f40 fuel p0 p1 p2=some r):AM J 40 [pV bk 0,.agg #[sV bw p1.1 bz,sV bJ p1.2 bK],iV p2] E [(bk,.cells #[sV bI p0.1 c2,iV p0.2.1,.int .u64 ((p0.2.2:Nat):Int)] 92 (0,0))] (fun w E' B'=>∃(bO:An) (bP:Nat) (bQ:An) (bR:Nat),w= sV bO r.1 bP∧B'= [(bk,.cells #[sV bQ r.2.1 bR,iV r.2.2.1,.int .u64 ((r.2.2.2:Nat):Int)] 92 (0,0))]∧Am Bo E' bO bP r.1∧Am rI E' bQ bR r.2.1):=by
 refine A4 func40 fun Q dj cs H b6 b7=>?_;unfold f40 at bN;refine zg 2 rfl (B7 b6 fun a1 dk ag bA b8=>?_);refine zg 5 rfl (BQ bA BX BD rfl rfl ?_);obtain⟨dl,b9,ca⟩:=bs bN;refine B9 0 (ba (b5.Ah ag) (bL.Ah ag) (bM.Ah ag) b9) rfl rfl (AR func45 rfl) b8 rfl ?_;rintro _ dm _ am ⟨dn,dp,dq,dr,rfl,rfl,cb,cc⟩ cd;refine zg 9 rfl (BQ (bA.Ah am) BX BD rfl rfl ?_);obtain⟨dt,ce,cf⟩:=bs ca;refine zg 2 rfl (B9 0 (aM cc (bL.Ah (ag.Ac am)) (bM.Ah (ag.Ac am)) cb ce) rfl rfl (AR func46 rfl) cd rfl ?_);rintro _ bB _ bS ⟨cg,ci,ck,cm,cn,rfl,rfl,co,cp⟩ cq;refine ES 0 rfl cq fun cr=>?_;obtain⟨al,ct,cu⟩:=bs cf;refine zg 7 rfl (Bp (fun L s=>∃(a2:LH) (a3:An) (a4:Nat) (bC:Seg) (a5:An) (a6:Nat),Jn bB H a2 [bX bk #[sV a5 al.2.1 a6,iV al.2.2.1,.int .u64 ((al.2.2.2:Nat):Int)] 92,bC] [(9,sV a3 al.1 a4)] L s (OL 27 Bo a2 a3 a4 bC al.1∧Am rI a2 a5 a6 al.2.1)) ?_ ?_)
 ·rintro _ _ ⟨a2,a3,a4,bC,a5,a6,rfl,rfl,cv,cw,cy,cz⟩;refine zg 5 rfl (B6 1 cy cw rfl fun du bT cA cB=>?_);obtain rfl:=oi cu;exact AA func40 rfl rfl (b7 ((((ag.Ac am).Ac bS).Ac cv).Ac bT) rfl ⟨a3,a4,a5,a6,rfl,rfl,cA,(cz.Ah bT)⟩ cB)
 ·intro cC;refine JL.block (CP ct (fun L s K=>∃(ap:LH) (a7:An) (a8:Nat) (Y:An) (Z:Nat) (av:Seg),Jn bB H ap [bX bk #[sV a7 K.1 a8,iV K.2.1,.int .u64 ((K.2.2.1:Nat):Int)] 92,av] [(0,pV bk 0),(4,pV a1 0),(9,sV Y K.2.2.2.1 Z),(10,iV K.2.2.2.2)] L s (Am rI ap a7 a8 K.1∧OL 27 Bo ap Y Z av K.2.2.2.1)) ⟨bB,cm,cn,cg,ci,ck,rfl,rfl,Ar,cr,cp,co⟩ ?_);rintro _ _ K ⟨ap,a7,a8,Y,Z,av,rfl,rfl,bD,bU,bV,bE⟩ cD ⟨dv,bF⟩ cE;have bW:=bF;unfold Nt at bW;refine zg 5 rfl (Be underlying25 rfl rfl rfl ?_);refine zg 2 rfl (AL bW (fun cF cG=>?_) (fun cF cH=>?_))
  ·obtain⟨cI,cJ,cK⟩:=bs cG;refine zg 6 rfl (B9 0 (Lm bV cJ) rfl rfl Km bU rfl ?_);rintro _ bY _ a9 ⟨cM,cN,rfl,rfl,bZ⟩ b0;obtain⟨O,cO,cP⟩:=bs cK;refine JL.done (Bp (fun L s=>∃(a0:LH) (bb:An) (bd:Nat) (be:Seg) (bi:An) (bo:Nat),Jn bY H a0 [bX bk #[sV bi O.2.1 bo,iV O.2.2.1,.int .u64 ((O.2.2.2:Nat):Int)] 92,be] [(0,pV bk 0),(4,pV a1 0),(9,sV bb O.1 bd),(10,iV K.2.2.2.2)] L s (OL 27 Bo a0 bb bd be O.1∧Am rI a0 bi bo O.2.1)) ?_ ?_)
   ·rintro _ _ ⟨a0,bb,bd,be,bi,bo,rfl,rfl,cQ,cR,cT,cV⟩;obtain⟨cW,cX,cY⟩:=bs cP;refine zg 3 rfl (Bc cX rfl rfl rfl ?_);refine zg 2 rfl ?_;obtain rfl:=oi cY;exact Ax (cE _ _ (O.2.1,O.2.2.1,O.2.2.2,O.1,cW) ⟨a0,bi,bo,bb,bd,be,rfl,rfl,((bD.Ac a9).Ac cQ),cR,cV,cT⟩ bF) rfl
   ·intro b1;refine BJ cO (fun cZ c0=>?_) (fun cZ c1=>?_)
    ·refine zg 4 rfl (JL.fl 0 (bA.Ah (((am.Ac bS).Ac bD).Ac a9)) underlying24 BP Cn ?_);refine Be underlying22 rfl rfl rfl ?_;obtain⟨c3,c4,c5⟩:=bs c0;refine Cd c4 rfl rfl rfl ?_;obtain⟨U,c6,c7⟩:=bs c5;refine B9 0 (HY bZ c6) rfl rfl HM b0 rfl ?_;rintro _ c8 _ b2 ⟨c9,da,rfl,rfl,db⟩ dc;obtain⟨V,dd,de⟩:=bs c7;refine I3 1 (bE.Ah (a9.Ac b2)) dd rfl rfl rfl rfl rfl rfl underlying25 Cf ?_;rintro bG bv f138 _ df ⟨_,_,rfl,rfl,rfl⟩ dg b3 dh dw dx;refine BM underlying27 AU rfl rfl rfl (JS.store (v:=iV U.1) (off:=bv+1) 1 rfl rfl rfl dc rfl rfl AU (by simp [Value.cells,CV]) df (by have:=b3;simp only [Rp.n,rK,rN,rB,rP,rL] at this;show _+1≤_;omega) fun b4=>?_);rw [UM (m:=1) (ws:= [iV V.1,iV V.2]) (vs:= [iV V.1,iV U.1]) (by have:=b3;simp only [Rp.n,rK,rN,rB,rP,rL] at this;show _+2≤_;omega) dg rfl (Nat.le_of_ble_eq_true rfl)] at b4 ⊢;have di:=dh ((V.1,U.1)) [iV V.1,iV U.1] ⟨_,_,rfl,rfl,rfl⟩;have bH:(K.2.2.2.1.set (Int.toNat K.2.2.2.2) (V.1,U.1)).length=K.2.2.2.1.length:=List.length_set;refine Gh (L':= [(0,pV bk 0),(4,pV a1 0),(9,.slice Y ((K.2.2.2.1.set (Int.toNat K.2.2.2.2) (V.1,U.1))).length Z),(10,iV K.2.2.2.2),(22,iV K.2.2.2.2),(23,.slice Y ((K.2.2.2.1.set (Int.toNat K.2.2.2.2) (V.1,U.1))).length Z),(24,iV (K.2.2.2.1.length:Int)),(25,.bool (decide (K.2.2.2.2<(K.2.2.2.1.length:Int)))),(28,pV bk 0),(29,.bool cI.1),(30,.slice Y ((K.2.2.2.1.set (Int.toNat K.2.2.2.2) (V.1,U.1))).length Z),(31,iV K.2.2.2.2),(32,pV bk 0),(33,pV a1 0),(34,.slice bw p1.1.length bz),(35,iV (p1.1.length:Int)),(36,iV c3),(37,iV U.1),(38,pV bG bv),(39,pV bG (bv+1))]) ⟨rfl,rfl,by rw [bH];rfl,rfl,rfl,by rw [bH];rfl,rfl,rfl,rfl,rfl,by rw [bH];rfl,rfl,rfl,rfl,rfl,rfl,rfl,rfl,rfl,rfl,trivial⟩ ?_;refine JL.done ?_;obtain rfl:=oi de;exact Ax (b1 _ _ ⟨c8,Y,Z,[(bG,.cells (A1 f138 bv [iV V.1,iV U.1]) 27 (0,0))],c9,da,rfl,rfl,b2,b4,di,db⟩) rfl
    ·refine JL.skip ?_;obtain rfl:=oi c1;exact Ax (b1 _ _ ⟨bY,Y,Z,av,cM,cN,rfl,rfl,Ar,b0,(bE.Ah a9),bZ⟩) rfl
  ·refine JL.exit rfl ?_;obtain rfl:=oi cH;obtain rfl:=cD _ bF;exact Ax (cC _ _ ⟨ap,Y,Z,av,a7,a8,rfl,rfl,bD,bU,bE,bV⟩) rfl
def f24(fuel:Nat)(p0:A2)(p1:B8):Option ((List A2)×(B8)):= (f39 fuel p1 7).bind fun K=> some (([p0,K.1,K.1]:List A2),K.2)
theorem bh{Y:An}{c2:Nat}{Z:An}{ag:Nat}{bk:Nat}{ap:An}{av:Nat}{p0:A2}{p1:B8}(bi:Am (rL rI) E Y c2 p0.1)(bo:Am (rL rI) E Z ag p0.2)(bv:Am rI E ap av p1.1){fuel:Nat}{r:(List A2)×(B8)}(a0:f24 fuel p0 p1=some r):AM J 24 [.agg #[sV Y p0.1 c2,sV Z p0.2 ag],pV bk 0] E [(bk,.cells #[sV ap p1.1 av,iV p1.2.1,.int .u64 ((p1.2.2:Nat):Int)] 92 (0,0))] (fun w E' B'=>∃(a1:An) (a2:Nat) (a3:An) (a4:Nat),w= sV a1 r.1 a2∧B'= [(bk,.cells #[sV a3 r.2.1 a4,iV r.2.2.1,.int .u64 ((r.2.2.2:Nat):Int)] 92 (0,0))]∧Am (rP (rL (rL rI)) (rL (rL rI))) E' a1 a2 r.1∧Am rI E' a3 a4 r.2.1):=by
 refine A4 func24 fun Q bR cs H bw bz=>?_;unfold f24 at a0;refine zg 2 rfl (B7 bw fun bS bT U bA bB=>?_);obtain⟨K,bC,bD⟩:=bs a0;refine zg 5 rfl (B9 0 (aC (bv.Ah U) bC) rfl rfl (AR func39 rfl) bB rfl ?_);rintro _ bU _ V ⟨a5,a6,a7,a8,al,am,rfl,rfl,a9,bb,bE⟩ bF;refine CU bF GW fun bG bH=>?_;refine Cu (S':= [[(bk,.cells #[sV al K.2.1 am,iV K.2.2.1,.int .u64 ((K.2.2.2:Nat):Int)] 92 (0,0))],[],[(bG,.cells #[nS,nS] 24 (0,0))]]) rfl bH fun bI=>BY 2 bI BD fun bJ=>?_;refine C3 2 bJ rfl fun bV O bd bK=>zg 3 rfl (BQ (bA.Ah (V.Ac O)) BX BD rfl rfl ?_);refine BQ bd BX BD rfl rfl (BQ bd BX BD rfl rfl ?_);refine Dt (pp:=(rP (rL (rL rI)) (rL (rL rI)))) [.agg #[sV Y p0.1 c2,sV Z p0.2 ag],.agg #[sV a5 K.1.1 a6,sV a7 K.1.2 a8],.agg #[sV a5 K.1.1 a6,sV a7 K.1.2 a8]] [p0,K.1,K.1] rfl rfl rfl underlying33 BD GW (by decide) rfl rfl rfl ⟨⟨_,_,rfl,⟨_,_,rfl,(bi.Ah ((U.Ac V).Ac O))⟩,⟨_,_,rfl,(bo.Ah ((U.Ac V).Ac O))⟩⟩,⟨_,_,rfl,⟨_,_,rfl,(a9.Ah O)⟩,⟨_,_,rfl,(bb.Ah O)⟩⟩,⟨_,_,rfl,⟨_,_,rfl,(a9.Ah O)⟩,⟨_,_,rfl,(bb.Ah O)⟩⟩,trivial⟩ bK fun bL bW bM bN=>zg 2 rfl (B6 3 bM bN rfl fun bY be bO bP=>?_);refine Cu (S':= [[(bk,.cells #[sV al K.2.1 am,iV K.2.2.1,.int .u64 ((K.2.2.2:Nat):Int)] 92 (0,0))],[],[],[]]) rfl bP fun bQ=>?_;obtain rfl:=oi bD;exact AA func24 rfl rfl (bz (((U.Ac V).Ac O).Ac be) rfl ⟨(AY bL),3,al,am,rfl,rfl,bO,(bE.Ah (O.Ac be))⟩ bQ)
end Pal
namespace Pal
theorem Cj{S A:Type}{body:S→Option (Bf S A)}{Q:A→Prop}{K:S}{F:Nat}(n:Nat)(I:Nat→S→Prop)(V:I 0 K)(Z:n<F)
  (round:∀i s,i<n→I i s→AZ (body s) (Bf.sat (I (i+1)) Q)) (last:∀s,I n s→AZ (body s) (fun st=>∃a,st= .done a∧Q a)):AZ (Pal.iter body F K) Q:=by
 refine Mv (fun m s=>∃i,i≤n∧m=n - i∧I i s) ?_ (m:=n - 0) ⟨0,Nat.zero_le _,rfl,V⟩ (by omega);rintro m s ⟨i,hi,rfl,O⟩;rcases Nat.lt_or_ge i n with Y | ag
 ·refine(round i s Y O).Ah ?_;intro st U;cases st with
  | more s'=>exact⟨n - (i+1),by omega,i+1,by omega,rfl,U⟩
  | done a=>exact U
 ·obtain rfl:i=n:=by omega
  refine(last s O).Ah ?_;rintro st ⟨a,rfl,h⟩;exact h
theorem CO{α:Type}{o:Option α}{a:α}(h:AZ o (fun x=>x=a)):o=some a:=by obtain⟨x,K,rfl⟩:=h;exact K
theorem I0(F:Nat)(a lo hi:Int):f101 F a lo hi=some (decide (a<lo∨hi<a)):=by
 unfold f101;by_cases h:a<lo
 ·simp [h]
 ·simp [h]
theorem Xu(F:Nat){s n:Nat}(hs:s<65536)(V:n≤16):f103 F s (n:Int)=some (s.testBit n):=by
 unfold f103;have K:LD s (n:Int)=some (s>>>n):=by unfold LD;rw [if_pos (by omega)];rfl
 rw [K];simp only [Option.bind_some];have O:s>>>n<65536:=Nat.lt_of_le_of_lt (Nat.shiftRight_le _ _) hs;have U:Kb (s>>>n) 1=some (s>>>n&&& 1):=if_pos ⟨O,by omega⟩;rw [U];simp only [Option.bind_some];rw [X7]
theorem SG(F:Nat){s n:Nat}(hs:s<65536)(K:n<16):f90 F s (n:Int)=some (s ||| 1<<<n):=by
 unfold f90;have O:Lq (n:Int)=some (1<<<n):=by unfold Lq;rw [if_pos (by omega)];rfl
 rw [O];simp only [Option.bind_some];have U:1<<<n<65536:=by rw [Nat.one_shiftLeft];exact Nat.pow_lt_pow_right (by omega) (show n<16 from K)
 have V:Jk s (1<<<n)=some (s ||| 1<<<n):=if_pos ⟨hs,U⟩;rw [V];rfl
theorem NM{a b:Nat}(K:a<65536)(hb:b<65536):a ||| b<65536:=Nat.or_lt_two_pow (n:=16) K hb
theorem Sr{n:Nat}(K:n<16):1<<<n<65536:=by rw [Nat.one_shiftLeft];exact Nat.pow_lt_pow_right (by omega) (show n<16 from K)
def HH(n:Nat)(l:List Int):Prop:=∀x∈l,0≤x∧x<(n:Int)
def CM(l:List Int):Nat:=l.foldl (fun s x=>s ||| 1<<<x.toNat) 0
theorem UI(l:List Int)(x:Int):CM (l++ [x])=CM l ||| 1<<<x.toNat:=by simp [CM]
theorem Re{l:List Int}(h:HH 16 l):CM l<65536:=by
 have key:∀(l:List Int) (s:Nat),s<65536→HH 16 l→l.foldl (fun s x=>s ||| 1<<<x.toNat) s<65536:=by
  intro l
  induction l with
  | nil=>intro s hs _;exact hs
  | cons x l O=>
   intro s hs K;have V:=K x (by simp);exact O _ (NM hs (Sr (by omega))) fun y U=>K y (by simp [U])
 exact key l 0 (by omega) h
theorem Jv{l:List Int}(h:∀x∈l,0≤x)(n:Nat):(CM l).testBit n=decide ((n:Int)∈l):=by
 have key:∀(l:List Int) (s:Nat),(∀x∈l,0≤x)→(l.foldl (fun s x=>s ||| 1<<<x.toNat) s).testBit n=(s.testBit n || decide ((n:Int)∈l)):=by
  intro l
  induction l with
  | nil=>intro s _;simp
  | cons x l O=>
   intro s K;have V:=K x (by simp);rw [List.foldl_cons,O _ fun y U=>K y (by simp [U]),Nat.testBit_or];have e:(1<<<x.toNat).testBit n=decide ((n:Int)=x):=by
    rw [Nat.one_shiftLeft,Nat.testBit_two_pow];exact decide_eq_decide.2 ⟨fun h=>by omega,fun h=>by omega⟩
   rw [e,Bool.or_assoc];congr 1;simp
 rw [CM,key l 0 h];simp
theorem Sn{F:Nat}{l:List Int}(V:100<F)(Y:l.length<100)(h:HH 16 l):f120 F l=some (CM l):=by
 refine CO ?_;unfold f120;refine AD (S:=fun r=>r=CM l) ?_ (by rintro r rfl;exact Ak rfl);refine Cj l.length (fun i s=>s=(CM (l.take i),(i:Int))) (by simp [CM]) (by omega) ?_ ?_
 ·rintro i s hi rfl;unfold MH;refine Br (by simp;omega) (Bl (m:=i) rfl hi ?_);have Z:=h l[i] (List.getElem_mem hi);have O:l[i]=((l[i].toNat:Nat):Int):=by omega
  have hs:CM (l.take i)<65536:=Re fun y U=>h y (List.mem_of_mem_take U);have K:=SG F (n:=l[i].toNat) hs (by omega);rw [← O] at K;refine AO K ?_;refine AV ((i+1:Nat):Int) (by simp) (by omega) (by omega) ?_;refine Ak ?_;show _=_;rw [List.take_add_one,List.getElem?_eq_getElem hi];simp only [Option.toList_some];rw [UI]
 ·rintro s rfl;unfold MH;exact A9 (by simp) (Ak ⟨_,rfl,by simp⟩)
def Ck(s:Nat)(k:Nat):List Int:=((List.range k).filter (fun n=>s.testBit n)).map (fun(n:Nat)=>(n:Int))
theorem Oe(s k:Nat):Ck s (k+1)=if s.testBit k=true then Ck s k++ [(k:Int)] else Ck s k:=by
 unfold Ck;rw [List.range_succ,List.filter_append];by_cases h:s.testBit k=true
 ·rw [if_pos h];simp [h]
 ·rw [if_neg h];simp [h]
theorem Mf(s k:Nat):(Ck s k).length≤k:=by
 unfold Ck;rw [List.length_map];exact Nat.le_trans (List.length_filter_le _ _) (by simp)
theorem Hk{s k:Nat}{x:Int}:x∈Ck s k↔∃n:Nat,n<k∧s.testBit n=true∧x=(n:Int):=by
 unfold Ck;simp only [List.mem_map,List.mem_filter,List.mem_range];exact⟨fun⟨n,⟨K,O⟩,U⟩=>⟨n,K,O,U.symm⟩,fun⟨n,K,O,U⟩=>⟨n,⟨K,O⟩,U.symm⟩⟩
theorem OZ{F s:Nat}(K:100<F)(hs:s<65536):f89 F s=some (Ck s 16):=by
 refine CO ?_;unfold f89;refine AD (S:=fun r=>r=Ck s 16) ?_ (by rintro r rfl;exact Ak rfl);refine Cj 16 (fun i st=>st=(Ck s i,(i:Int))) rfl (by omega) ?_ ?_
 ·rintro i st hi rfl;unfold MW;refine Br (by simp only;omega) (AO (Xu F hs (by omega)) ?_);have hlen:=Mf s i;refine AD (S:=fun r=>r=Ck s (i+1)) ?_ ?_
  ·rw [Oe];refine Bn (fun h=>?_) (fun h=>?_)
   ·rw [if_pos h];exact IN (by simp only;omega) (Ak rfl)
   ·rw [if_neg h];exact Ak rfl
  ·rintro r rfl;exact AV ((i+1:Nat):Int) (by simp) (by omega) (by omega) (Ak rfl)
 ·rintro st rfl;unfold MW;exact A9 (by simp) (Ak ⟨_,rfl,rfl⟩)
end Pal
namespace Pal
abbrev JW:=List (List Int)×List (List Int)
structure VL (n:Nat) (l:List Int):Prop where
 len:l.length≤3
 inr:HH n l
 IJ:l.Pairwise (·<·)
structure VJ (n:Nat) (J:JW):Prop where
 pos:0<n
 le:n≤8
 l1:J.1.length=n
 l2:J.2.length=n
 nx:∀(i:Nat) l,J.1[i]? =some l→VL n l∧0<l.length
 fl:∀(i:Nat) l,J.2[i]? =some l→VL n l∧(i:Int) ∉ l
theorem YB{l:List Int}(h:l.Pairwise (·<·)){i:Nat}(hi:i<l.length)(K:0<i):¬(l[i]≤l[i - 1]'(by omega)):=by
 have:=List.pairwise_iff_getElem.1 h (i - 1) i (by omega) hi (by omega);omega
theorem Sp{F n:Nat}{J:JW}{m:Nat}{l:List Int}{b:Bool}(O:100<F)(U:J.1.length=n)(V:0<n∧n≤8)(K:VL n l)(hb:b=true∨(m:Int) ∉ l):f136 F J (m:Int) l b=some none:=by
 refine CO ?_;unfold f136;have hlen:=K.len;refine AD (S:=fun q=>q=Sum.inr ()) ?_ (by rintro q rfl;exact Ak rfl);refine Cj l.length (fun i s=>s=(i:Int)) rfl (by omega) ?_ ?_
 ·rintro i s hi rfl;unfold JF;have Y:=K.inr l[i] (List.getElem_mem hi);refine Br (by omega) (Bl (m:=i) rfl hi ?_);refine AV ((n - 1:Nat):Int) (by omega) (by omega) (by omega) (AO (I0 F _ _ _) ?_);refine A9 (by simp;omega) (AD (S:=fun c=>c=false) ?_ ?_)
  ·refine Bn (fun h=>?_) (fun h=>Ak rfl);rcases hb with rfl | hb
   ·exact Ak rfl
   ·exact absurd (h▸List.getElem_mem hi) hb
  ·rintro c rfl;refine A9 (by simp) (AD (S:=fun c=>c=false) ?_ ?_)
   ·refine Bn (fun h=>?_) (fun h=>Ak rfl);refine AV ((i - 1:Nat):Int) (by omega) (by omega) (by omega) (Bl (m:=i - 1) rfl (by omega) ?_);exact Ak (decide_eq_false (YB K.IJ hi (by omega)))
   ·rintro c rfl;refine A9 (by simp) (AV ((i+1:Nat):Int) (by simp) (by omega) (by omega) ?_);exact Ak rfl
 ·rintro s rfl;unfold JF;exact A9 (by omega) (Ak ⟨_,rfl,rfl⟩)
theorem W8{F n:Nat}{J:JW}(U:100<F)(K:VJ n J):f113 F J=some none:=by
 have V:=K.l1;have al:=K.l2;have Y:=K.pos;have Z:=K.le;refine CO ?_;unfold f113;refine A9 (by omega) (A9 (by omega) (A9 (by omega) ?_));refine AD (S:=fun q=>q=Sum.inr ()) ?_ (by rintro q rfl;exact Ak rfl);refine Cj n (fun i s=>s=(i:Int)) rfl (by omega) ?_ ?_
 ·rintro i s hi rfl;unfold JU;have ag:i<J.1.length:=by omega
  have O:i<J.2.length:=by omega
  obtain⟨v1,v2⟩:=K.nx i _ (List.getElem?_eq_getElem ag);obtain⟨w1,w2⟩:=K.fl i _ (List.getElem?_eq_getElem O);have am:=v1.len;have g2:=w1.len;refine Br (by omega) (Bl (m:=i) rfl ag ?_);refine A9 (by omega) (A9 (by omega) ?_);refine AO (Sp U V ⟨Y,Z⟩ v1 (.inl rfl)) (A9 (by simp) ?_);refine Bl (m:=i) rfl O (A9 (by omega) ?_);refine Bl (m:=i) rfl O (AO (Sp U V ⟨Y,Z⟩ w1 (.inr w2)) ?_);refine A9 (by simp) (AV ((i+1:Nat):Int) (by simp) (by omega) (by omega) ?_);exact Ak rfl
 ·rintro s rfl;unfold JU;exact A9 (by omega) (Ak ⟨_,rfl,rfl⟩)
theorem Qa(F:Nat):Li F none=some 0:=by
 unfold Li f112;have h:∃b,f135 F=some b:=by unfold f135;exact⟨_,rfl⟩
 obtain⟨b,hb⟩:=h;rw [hb];cases b <;> rfl
def GN(nx:List (List Int))(s:Nat):Nat:=(Ck s 16).foldl (fun o m=>o ||| CM (nx.getD m.toNat [])) 0
theorem VJ.EX{n:Nat}{J:JW}(K:VJ n J)(m:Nat):VL n (J.1.getD m []):=by
 rw [List.getD_eq_getElem?_getD];cases h:J.1[m]? with
 | none=>exact⟨by simp,fun x O=>by simp at O,by simp⟩
 | some l=>exact(K.nx m l h).1
theorem HH.Ah{n m:Nat}{l:List Int}(h:HH n l)(hle:n≤m):HH m l:=fun x K=>by have:=h x K;omega
theorem OQ{n:Nat}{J:JW}(U:VJ n J)(s k:Nat):(GN J.1 s).testBit k=true↔∃m,m<16∧s.testBit m=true∧(k:Int)∈J.1.getD m []:=by
 have key:∀(l:List Int) (o:Nat),(l.foldl (fun o m=>o ||| CM (J.1.getD m.toNat [])) o).testBit k=true↔o.testBit k=true∨∃m∈l,(k:Int)∈J.1.getD m.toNat []:=by
  intro l
  induction l with
  | nil=>intro o;simp
  | cons x l V=>
   intro o;rw [List.foldl_cons,V,Nat.testBit_or,Bool.or_eq_true,Jv fun y Y=>((U.EX x.toNat).inr y Y).1,decide_eq_true_eq];simp only [List.mem_cons,exists_eq_or_imp,or_assoc]
 unfold GN;rw [key];simp only [Nat.zero_testBit,Bool.false_eq_true,false_or];constructor
 ·rintro⟨x,Z,ag⟩;obtain⟨m,K,O,rfl⟩:=Hk.1 Z;exact⟨m,K,O,ag⟩
 ·rintro⟨m,K,O,al⟩;exact⟨(m:Int),Hk.2 ⟨m,K,O,rfl⟩,by simpa using al⟩
theorem UQ{n s:Nat}(h:∀k,n≤k→s.testBit k=false):s<2 ^ n:=Nat.lt_pow_two_of_testBit s h
theorem SQ{n:Nat}{J:JW}(K:VJ n J)(s:Nat):GN J.1 s<2 ^ n:=by
 refine UQ fun k U=>?_;cases h:(GN J.1 s).testBit k with
 | false=>rfl
 | true=>
  obtain⟨m,_,_,O⟩:=(OQ K s k).1 h;have:=(K.EX m).inr _ O;omega
theorem So{n:Nat}(h:n≤8):2 ^ n≤256:=Nat.pow_le_pow_right (by omega) h
theorem Io{n s k:Nat}(h:s<2 ^ n)(O:s.testBit k=true):k<n:=by
 rcases Nat.lt_or_ge k n with K | K
 ·exact K
 ·rw [Nat.testBit_lt_two_pow (Nat.lt_of_lt_of_le h (Nat.pow_le_pow_right (by omega) K))] at O;cases O
theorem VU{F n:Nat}{J:JW}{A:List Nat}{s:Nat}(V:100<F)(K:VJ n J)(hs:s<2 ^ n):Ln F (J.1,J.2,A) s=some (GN J.1 s,(J.1,J.2,A)):=by
 have am:=K.l1;have al:=K.le;have ap:=So al;refine CO ?_;unfold Ln;refine AO (OZ V (by omega)) ?_;refine AD (S:=fun r=>r=GN J.1 s) ?_ (by rintro r rfl;exact Ak rfl);have hlen:=Mf s 16;refine Cj (Ck s 16).length (fun i st=>st=(((Ck s 16).take i).foldl (fun o m=>o ||| CM (J.1.getD m.toNat [])) 0,(i:Int))∧((Ck s 16).take i).foldl (fun o m=>o ||| CM (J.1.getD m.toNat [])) 0<65536) ⟨rfl,by simp⟩ (by omega) ?_ ?_
 ·rintro i st hi ⟨rfl,Y⟩;unfold Mw;obtain⟨m,av,g2,Z⟩:=Hk.1 (List.getElem_mem hi);have hm:=Io hs g2;have O:m<J.1.length:=by omega
  have U:=(K.nx m _ (List.getElem?_eq_getElem O)).1;have a0:=U.len;refine Br (by simp;omega) ?_;refine Bl (m:=i) rfl hi ?_;refine Bl (m:=m) Z O ?_;refine AO (Sn V (show J.1[m].length<100 by omega) (U.inr.Ah (by omega))) ?_;have ag:CM J.1[m]<65536:=Re (U.inr.Ah (by omega));refine AO (b:=((Ck s 16).take i).foldl (fun o m=>o ||| CM (J.1.getD m.toNat [])) 0 ||| CM J.1[m]) (if_pos ⟨Y,ag⟩) ?_;refine AV ((i+1:Nat):Int) (by simp) (by omega) (by omega) ?_;have e:((Ck s 16).take (i+1)).foldl (fun o m=>o ||| CM (J.1.getD m.toNat [])) 0=((Ck s 16).take i).foldl (fun o m=>o ||| CM (J.1.getD m.toNat [])) 0 ||| CM J.1[m]:=by
   rw [List.take_add_one,List.getElem?_eq_getElem hi,List.foldl_append,Z];simp [List.getD_eq_getElem?_getD,O]
  refine Ak ⟨?_,?_⟩
  ·rw [e]
  ·rw [e];exact NM Y ag
 ·rintro st ⟨rfl,_⟩;unfold Mw;refine A9 (by simp) (Ak ⟨_,rfl,?_⟩);rw [List.take_length];rfl
def AG(J:JW):Nat→Nat
 | 0=>1
 | a+1=>GN J.1 (AG J a)
theorem Hy{n:Nat}{J:JW}(K:VJ n J):∀a,AG J a<2 ^ n
 | 0=>Nat.one_lt_two_pow (by have:=K.pos;omega)
 | a+1=>SQ K _
def Gu(J:JW):List Nat:=(List.range 13).map (AG J)
def LI(J:JW)(n k:Nat)(A:List Nat):Prop:=A.length=13∧(∀i,i≤k→i<13→A[i]? =some (AG J i))∧∀x∈A,x<2 ^ n
theorem LI.all{J:JW}{n:Nat}{A:List Nat}(h:LI J n 12 A):A=Gu J:=by
 apply List.ext_getElem?;intro i;rcases Nat.lt_or_ge i 13 with hi | hi
 ·rw [h.2.1 i (by omega) hi];simp [Gu,hi]
 ·rw [List.getElem?_eq_none (by rw [h.1];exact hi),List.getElem?_eq_none (by simp [Gu];exact hi)]
theorem QB{F n:Nat}{J:JW}{A:List Nat}(al:100<F)(Y:VJ n J)(am:A.length=13)(Z:∀x∈A,x<2 ^ n):
  AZ (iter (Lf F) F (J.1,J.2,A,A,0)) (fun r=>r.1=J.1∧r.2.1=J.2∧r.2.2.1=A∧r.2.2.2.length=13∧r.2.2.2[0]? =A[0]? ∧(∀i,i<12→∀s,A[i]? =some s→r.2.2.2[i+1]? =some (GN J.1 s))∧∀x∈r.2.2.2,x<2 ^ n):=by
 refine Cj 12 (fun k st=>∃B:List Nat,st=(J.1,J.2,A,B,(k:Int))∧B.length=13∧B[0]? =A[0]? ∧(∀i,i<k→∀s,A[i]? =some s→B[i+1]? =some (GN J.1 s))∧∀x∈B,x<2 ^ n) ⟨A,rfl,am,rfl,fun i hi=>by omega,Z⟩ (by omega) ?_ ?_
 ·rintro k st av ⟨B,rfl,K,O,hs,hb⟩;unfold Lf;have U:k<A.length:=by omega
  have ag:k+1<B.length:=by omega
  refine Br (by simp only;omega) (AV ((k+1:Nat):Int) (by simp) (by omega) (by omega) ?_);refine Bl (m:=k) rfl U (AO (VU al Y (Z _ (List.getElem_mem U))) ?_);refine Bl (m:=k+1) rfl ag (AV ((k+1:Nat):Int) (by simp) (by omega) (by omega) ?_);refine Ak ⟨B.set (k+1) (GN J.1 A[k]),rfl,by simpa using K,?_,?_,?_⟩
  ·rw [List.getElem?_set_ne (by omega)];exact O
  ·intro i hi s V;by_cases e:i=k
   ·subst e;rw [List.getElem?_set_self ag];have:A[i]=s:=by rw [List.getElem?_eq_getElem U] at V;exact Option.some.inj V
    rw [this]
   ·rw [List.getElem?_set_ne (by omega)];exact hs i (by omega) s V
  ·intro x ap;rcases List.mem_or_eq_of_mem_set ap with h | h
   ·exact hb x h
   ·subst h;exact SQ Y _
 ·rintro st ⟨B,rfl,K,O,hs,hb⟩;unfold Lf;refine A9 (by simp) (Ak ⟨_,rfl,rfl,rfl,rfl,K,O,hs,hb⟩)
theorem Z0{F n:Nat}{J:JW}(av:100<F)(al:VJ n J):f92 F J=some (some (J.1,J.2,Gu J)):=by
 have a7:=al.pos;refine CO ?_;unfold f92;refine Bl (m:=0) rfl (by simp) ?_;refine AD (S:=fun q=>q=Sum.inl (some (J.1,J.2,Gu J))) ?_ (by rintro q rfl;exact Ak rfl);refine Cj 12 (fun k st=>∃A:List Nat,st=(J.1,J.2,A)∧LI J n k A) ?_ (by omega) ?_ ?_
 ·refine⟨_,rfl,by simp,fun i hi _=>?_,fun x a0=>?_⟩
  ·obtain rfl:i=0:=by omega
   rfl
  ·rcases List.mem_or_eq_of_mem_set a0 with h | h
   ·simp at h;subst h;exact Nat.two_pow_pos n
   ·subst h;exact Nat.one_lt_two_pow (by omega)
 ·rintro k st a8 ⟨A,rfl,K⟩;unfold M0;refine AD (QB av al K.1 K.2.2) ?_;rintro⟨a1,a2,am,B⟩ ⟨Y,Z,ag,O,g2,U,V⟩;simp only at Y Z ag O g2 U V ⊢;subst Y Z ag;refine Bn (fun h=>?_) (fun h=>?_)
  ·refine Ak ⟨B,rfl,O,fun i hi ap=>?_,V⟩;cases i with
   | zero=>rw [g2];exact K.2.1 0 (by omega) (by omega)
   | succ i=>exact U i (by omega) _ (K.2.1 i (by omega) (by omega))
  ·have e:B=am:=Decidable.byContradiction fun a3=>h a3;subst e;refine Ak ?_;show _=_;have a4:LI J n 12 B:=by
    refine⟨O,fun i hi ap=>?_,V⟩;have:∀i,i<13→B[i]? =some (AG J i):=by
     intro i
     induction i with
     | zero=>intro _;exact K.2.1 0 (by omega) (by omega)
     | succ i a5=>intro h;exact U i (by omega) _ (a5 (by omega))
    exact this i ap
   rw [a4.all]
 ·rintro st ⟨A,rfl,K⟩;unfold M0;refine AD (QB av al K.1 K.2.2) ?_;rintro⟨a1,a2,am,B⟩ ⟨Y,Z,ag,O,g2,U,V⟩;simp only at Y Z ag O g2 U V ⊢;subst Y Z ag;have a6:LI J n 12 B:=by
   refine⟨O,fun i hi ap=>?_,V⟩;cases i with
   | zero=>rw [g2];exact K.2.1 0 (by omega) (by omega)
   | succ i=>exact U i (by omega) _ (K.2.1 i (by omega) (by omega))
  have e:B=am:=by rw [a6.all,K.all]
  refine A9 (by rw [e];simp) (Ak ⟨_,rfl,?_⟩);rw [K.all]
end Pal
namespace Pal
theorem W6(J:JW){a:Nat}(K:a<13):(Gu J)[a]? =some (AG J a):=by simp [Gu,K]
abbrev EB:=List Int×Int×Nat
def BG(k:Nat)(b:EB):Prop:=0≤b.2.1∧b.2.1≤(k:Int)
theorem BG.Ah{k k':Nat}{b:EB}(h:BG k b)(K:k≤k'):BG k' b:=⟨h.1,by have:=h.2;omega⟩
theorem W2{F k:Nat}{b:EB}(hb:BG k b)(K:k<1000000):AZ (f100 F b) (fun r=>r.1<2 ^ 64∧BG (k+1) r.2):=by
 obtain⟨O,U⟩:=hb;unfold f100;refine AV (b.2.1+1) rfl (by omega) (by omega) ?_;have key:∀x:Nat,(x % 2 ^ 64)>>>11<2 ^ 64:=fun x=>Nat.lt_of_le_of_lt (Nat.shiftRight_le _ _) (Nat.mod_lt _ (Nat.two_pow_pos 64));refine AD (S:=fun _=>True) ?_ ?_
 ·refine Bn (fun h=>?_) (fun h=>?_)
  ·refine AV b.2.1 (by omega) (by omega) (by omega) (Bl (m:=b.2.1.toNat) (by omega) (by omega) ?_);exact Ak trivial
  ·exact Ak trivial
 ·intro x _;exact Ak ⟨key _,by simp only;omega,by simp only;omega⟩
theorem Vp{a:Nat}(h:a<2 ^ 62):LJ a=(a:Int):=by
 unfold LJ;exact IT (by omega)
theorem HT{F k:Nat}{b:EB}{m:Int}(hb:BG k b)(O:k<1000000)(hm:m<1000000):AZ (f41 F b m) (fun r=>0≤r.1∧(r.1≤m∨r.1=0)∧BG (k+1) r.2):=by
 unfold f41;refine AD (W2 hb O) ?_;rintro⟨x,Z⟩ ⟨ag,K⟩;refine Bn (fun h=>?_) (fun h=>?_)
 ·exact Ak ⟨by simp,.inr rfl,K⟩
 ·have U:Dh m=m.toNat:=by unfold Dh;omega
  have V:(Dh m+1) % 2 ^ 64=m.toNat+1:=by rw [U];omega
  have Y:x % (m.toNat+1)<m.toNat+1:=Nat.mod_lt _ (by omega);refine AO (b:=x % (m.toNat+1)) (by rw [V];unfold ND;rw [if_neg (by omega)]) ?_;refine Ak ?_;simp only;generalize x % (m.toNat+1)=z at Y ⊢;rw [Vp (by omega)];exact⟨by omega,.inl (by omega),K⟩
theorem O3{F k:Nat}{b:EB}{lo hi:Int}(hb:BG k b)(O:k<1000000)(V:0≤lo)(Y:lo≤hi)(Z:hi<1000):AZ (f96 F b lo hi) (fun r=>lo≤r.1∧r.1≤hi∧BG (k+1) r.2):=by
 unfold f96;refine AV (hi - lo) rfl (by omega) (by omega) (AD (HT hb O (by omega)) ?_);rintro⟨x,ag⟩ ⟨U,g2,K⟩;simp only at U g2 K ⊢;exact AV (lo+x) rfl (by omega) (by omega) (Ak ⟨by simp only;omega,by simp only;omega,K⟩)
theorem Lc{F k:Nat}{b:EB}{m:Int}(hb:BG k b)(K:k<1000000)(U:1≤m)(V:m<1000):AZ (f97 F b m) (fun r=>BG (k+1) r.2):=by
 unfold f97;refine AV (m - 1) rfl (by omega) (by omega) (AD (HT hb K (by omega)) ?_);rintro⟨x,Y⟩ ⟨Z,g2,O⟩;exact Ak O
theorem MU{F k:Nat}{b:EB}{l:List Int}(hb:BG k b)(U:k<1000000)(Y:0<l.length)(Z:l.length<1000):AZ (f99 F b l) (fun r=>r.1∈l∧BG (k+1) r.2):=by
 unfold f99;refine AV ((l.length - 1:Nat):Int) (by omega) (by omega) (by omega) (AD (HT hb U (by omega)) ?_);rintro⟨x,ag⟩ ⟨V,g2,K⟩;simp only at V g2 K ⊢;have O:x.toNat<l.length:=by omega
 exact Bl (m:=x.toNat) (by omega) O (Ak ⟨List.getElem_mem O,K⟩)
theorem Xq{F:Nat}{x:Int}(K:100<F):f98 F [] x=some [x]:=by
 obtain⟨F,rfl⟩:∃k,F=k+1:=⟨F - 1,by omega⟩;refine CO ?_;unfold f98;refine AO (b:=([],false)) ?_ ?_
 ·unfold iter;rfl
 ·refine AO (b:= [x]) ?_ (Ak rfl)
  rfl
theorem Yd{F:Nat}{a x:Int}(ap:100<F):f98 F [a] x=some (if x<a then [x,a] else if x=a then [a] else [a,x]):=by
 obtain⟨F,rfl⟩:∃k,F=k+2:=⟨F - 2,by omega⟩;refine CO ?_;unfold f98;have U:Au 1=some 1:=rfl;have V:ix [a] 0=some a:=rfl;have r0:room ([]:List Int) x=some [x]:=if_pos (by simp);have ag:room ([]:List Int) a=some [a]:=if_pos (by simp);have al:room [x] a=some [x,a]:=if_pos (by simp);have am:room [a] x=some [a,x]:=if_pos (by simp);have step:JX (F+2) [a] x ([],false,0)=some (.more (if x<a then([x,a],true,1) else if x=a then([x],true,1) else([a],false,1))):=by
  unfold JX;rcases Int.lt_trichotomy x a with h | h | h
  ·have Y:x≤a:=by omega
   have Z:a≠x:=by omega
   simp [V,h,Y,Z,r0,al,U]
  ·subst h;simp [V,r0,U]
  ·have Y:¬x≤a:=by omega
   have Z:a≠x:=by omega
   have K:¬x<a:=by omega
   have O:¬x=a:=by omega
   simp [V,Y,Z,K,O,ag,U]
 have last:∀(o:List Int) (b:Bool),JX (F+2) [a] x (o,b,1)=some (.done (o,b)):=by
  intro o b;unfold JX;simp
 rcases Int.lt_trichotomy x a with h | h | h
 ·rw [if_pos h] at step;refine AO (b:=([x,a],true)) ?_ ?_
  ·unfold iter;rw [step];simp only;unfold iter;rw [last]
  ·rw [if_pos h];exact AO (b:= [x,a]) (by simp) (Ak rfl)
 ·subst h;rw [if_neg (by omega),if_pos rfl] at step;refine AO (b:=([x],true)) ?_ ?_
  ·unfold iter;rw [step];simp only;unfold iter;rw [last]
  ·rw [if_neg (show ¬x<x by omega),if_pos (rfl:x=x)];exact AO (b:= [x]) (by simp) (Ak rfl)
 ·have K:¬x<a:=by omega
  have O:¬x=a:=by omega
  rw [if_neg K,if_neg O] at step;refine AO (b:=([a],false)) ?_ ?_
  ·unfold iter;rw [step];simp only;unfold iter;rw [last]
  ·rw [if_neg K,if_neg O];exact AO (b:= [a,x]) (by simp [am]) (Ak rfl)
theorem Te{F n:Nat}{l:List Int}{x:Int}(O:100<F)(U:HH n l)(V:l.length≤1)(Y:0≤x∧x<(n:Int)):AZ (f98 F l x) (fun r=>VL n r∧0<r.length∧r.length≤l.length+1∧∀y∈r,y=x∨y∈l):=by
 match l,V with
 | [],_=>
  rw [Xq O];exact Ak ⟨⟨by simp,fun y K=>by simp at K;subst K;exact Y,by simp⟩,by simp,by simp,fun y K=>by simpa using K⟩
 | [a],_=>
  rw [Yd O];have Z:=U a (by simp);refine Ak ?_;rcases Int.lt_trichotomy x a with h | h | h
  ·rw [if_pos h];exact⟨⟨by simp,fun y K=>by simp at K;rcases K with rfl | rfl <;> assumption,by simpa using h⟩,by simp,by simp,fun y K=>by simpa using K⟩
  ·rw [if_neg (by omega),if_pos h];exact⟨⟨by simp,fun y K=>by simp at K;subst K;exact Z,by simp⟩,by simp,by simp,fun y K=>by simp at K;subst K;simp⟩
  ·rw [if_neg (by omega),if_neg (by omega)];exact⟨⟨by simp,fun y K=>by simp at K;rcases K with rfl | rfl <;> assumption,by simpa using h⟩,by simp,by simp,fun y K=>by simp at K;rcases K with rfl | rfl <;> simp⟩
 | a::b::l,h=>simp at h
structure PJ (n i:Nat) (N K:List (List Int)):Prop where
 l1:N.length=i
 l2:K.length=i
 nx:∀(q:Nat) l,N[q]? =some l→VL n l∧0<l.length
 fl:∀(q:Nat) l,K[q]? =some l→VL n l∧(q:Int) ∉ l
theorem PJ.snoc{n i:Nat}{N U:List (List Int)}{a b:List Int}(h:PJ n i N U)(V:VL n a∧0<a.length)(hb:VL n b∧(i:Int) ∉ b):PJ n (i+1) (N++ [a]) (U++ [b]):=by
 refine⟨by simp [h.l1],by simp [h.l2],fun q l K=>?_,fun q l K=>?_⟩
 ·rcases Nat.lt_or_ge q N.length with O | O
  ·rw [List.getElem?_append_left O] at K;exact h.nx q l K
  ·rw [List.getElem?_append_right O] at K;have:q - N.length=0:=by
    rcases Nat.eq_zero_or_pos (q - N.length) with e | e
    ·exact e
    ·rw [List.getElem?_eq_none (by simp;omega)] at K;cases K
   rw [this] at K;simp at K;subst K;exact V
 ·rcases Nat.lt_or_ge q U.length with O | O
  ·rw [List.getElem?_append_left O] at K;exact h.fl q l K
  ·rw [List.getElem?_append_right O] at K;have e:q - U.length=0:=by
    rcases Nat.eq_zero_or_pos (q - U.length) with e | e
    ·exact e
    ·rw [List.getElem?_eq_none (by simp;omega)] at K;cases K
   rw [e] at K;simp at K;subst K;have:q=i:=by have:=h.l2;omega
   subst this;exact hb
theorem U6{F n i k:Nat}{al:Int×EB}{am:(List (List Int))×(List (List Int))×(List Int)×Int×Nat×Int}{b:EB}{c:Int}(a6:100<F)(ap:al.1=(n:Int))(av:am.2.2.2.2.2=(i:Int))(hi:i<n)(bb:n≤8)(hb:BG k b)(bd:k<1000)(be:c=0∨c=1∨c=2):
  AZ (iter (M4 F al am) F (b.1,b.2.1,b.2.2,[],c)) (fun r=>VL n r.1∧(i:Int) ∉ r.1∧BG (k+10) r.2):=by
 refine Mv (fun m st=>∃(l:List Int) (K:EB),st=(K.1,K.2.1,K.2.2,l,(m:Int))∧m≤2∧VL n l∧(i:Int) ∉ l∧l.length≤2 - m∧BG (k+10 - 4*m) K) ?_ (m:=c.toNat) ⟨[],b,by simp;omega,by omega,⟨by simp,fun x a7=>by simp at a7,by simp⟩,by simp,by simp,hb.Ah (by omega)⟩ (by omega);rintro m st ⟨l,K,rfl,bi,Y,Z,hlen,a0⟩;unfold M4;refine AD (S:=fun q=>q=decide (0<m∧1<n)) ?_ ?_
 ·refine Bn (fun h=>?_) (fun h=>?_)
  ·refine Ak ?_;rw [ap];exact decide_eq_decide.2 ⟨fun a1=>⟨by simp only at h;omega,by omega⟩,fun a1=>by omega⟩
  ·refine Ak ?_;have:¬0<m:=by simp only at h;omega
   simp [this]
 ·rintro q rfl;refine Bn (fun h=>?_) (fun h=>?_)
  ·have a1:0<m∧1<n:=of_decide_eq_true h;refine AV ((i:Int) - 1) (by rw [av]) (by omega) (by omega) ?_;refine AD (HT (F:=F) (b:=(K.1,K.2.1,K.2.2)) (m:=max 0 ((i:Int) - 1)) a0 (by omega) (by omega)) ?_;rintro⟨y,bo⟩ ⟨a2,g2,a3⟩;simp only at a2 g2 a3 ⊢;refine AD (Lc (F:=F) a3 (by omega) (by omega) (by omega)) ?_;rintro⟨o,bv⟩ ag;simp only at ag ⊢;refine AD (S:=fun r=>0≤r.1∧r.1<(n:Int)∧BG (k+10 - 4*m+1+1+1) r.2) ?_ ?_
   ·refine Bn (fun _=>?_) (fun _=>?_)
    ·refine AV ((n:Int) - 1) (by rw [ap]) (by omega) (by omega) (AD (HT (F:=F) ag (by omega) (by omega)) ?_);rintro⟨z,a4⟩ ⟨O,U,V⟩;exact Ak ⟨O,by simp only at O U ⊢;omega,V⟩
    ·exact Ak ⟨a2,by simp only;omega,BG.Ah ag (by omega)⟩
   ·rintro⟨z,a4⟩ ⟨O,U,V⟩;simp only at O U V ⊢;refine AD (S:=fun r=>VL n r∧(i:Int) ∉ r∧r.length≤l.length+1) ?_ ?_
    ·rw [av];refine Bn (fun a8=>?_) (fun _=>?_)
     ·refine AD (Te (F:=F) a6 Y.inr (by omega) ⟨O,U⟩) ?_;rintro r ⟨v1,v2,a5,v4⟩;refine Ak ⟨v1,fun a9=>?_,a5⟩;rcases v4 _ a9 with e | e
      ·exact a8 e.symm
      ·exact Z e
     ·exact Ak ⟨Y,Z,by omega⟩
    ·rintro r ⟨v1,v2,a5⟩;exact AV ((m - 1:Nat):Int) (by omega) (by omega) (by omega) (Ak ⟨m - 1,by omega,r,a4,rfl,by omega,v1,v2,by omega,V.Ah (by omega)⟩)
  ·exact Ak ⟨Y,Z,a0.Ah (by omega)⟩
theorem ZW{F k mx:Nat}{b:EB}(a0:100<F)(hb:BG k b)(bv:k<100)(bw:1≤mx)(bz:mx≤8):AZ (f39 F b (mx:Int)) (fun r=>(∃n,n≤mx∧VJ n r.1)∧BG (k+301) r.2):=by
 unfold f39;refine AD (O3 (F:=F) hb (by omega) (by omega) (by omega) (by omega)) ?_;rintro⟨a1,bb⟩ ⟨n1,n2,a2⟩;simp only at n1 n2 a2;obtain⟨n,rfl⟩:∃n:Nat,a1=(n:Int):=⟨a1.toNat,by omega⟩;have bA:1≤n:=by omega
 have a3:n≤8:=by omega
 refine AD (S:=fun r=>PJ n n r.2.2.2.1 r.2.2.2.2∧BG (k+301) (r.1,r.2.1,r.2.2.1)) ?_ ?_
 ·refine Cj n (fun i st=>∃(N O:List (List Int)) (Y:EB),st=(N,O,Y.1,Y.2.1,Y.2.2,(i:Int))∧PJ n i N O∧BG (k+1+30*i) Y) ⟨[],[],bb,rfl,⟨rfl,rfl,fun q l ag=>by simp at ag,fun q l ag=>by simp at ag⟩,a2⟩ (by omega) ?_ ?_
  ·rintro i st hi ⟨N,O,Z,rfl,K,al⟩;unfold M5;refine Br (by simp only;omega) (AV ((n:Int) - 1) rfl (by omega) (by omega) ?_);refine AV ((i+1:Nat):Int) (by simp) (by omega) (by omega) (AD (Lc (F:=F) (b:=(Z.1,Z.2.1,Z.2.2)) al (by omega) (by omega) (by omega)) ?_);rintro⟨o,bB⟩ g2;simp only at g2 ⊢;have a4:HH n [min ((n:Int) - 1) ((i+1:Nat):Int)]:=fun x U=>by simp at U;subst U;omega
   refine AD (S:=fun r=>VL n r.1∧0<r.1.length∧BG (k+1+30*i+2) r.2) ?_ ?_
   ·refine Bn (fun _=>?_) (fun _=>?_)
    ·refine AV ((n:Int) - 1) rfl (by omega) (by omega) (AD (O3 (F:=F) g2 (by omega) (by omega) (by omega) (by omega)) ?_);rintro⟨y,a5⟩ ⟨am,ap,V⟩;simp only at am ap V ⊢;refine AD (Te (F:=F) a0 a4 (by simp) ⟨by omega,by omega⟩) ?_;rintro r ⟨v1,v2,bC,v4⟩;exact Ak ⟨v1,v2,V⟩
    ·exact Ak ⟨⟨by simp,a4,by simp⟩,by simp,BG.Ah g2 (by omega)⟩
   ·rintro⟨nx,a5⟩ ⟨w1,w2,w3⟩;simp only at w1 w2 w3 ⊢;refine AD (Lc (F:=F) (b:=a5) w3 (by omega) (by omega) (by omega)) ?_;rintro⟨o2,bD⟩ av;simp only at av ⊢;refine AD (S:=fun r=>VL n r.1∧0<r.1.length∧BG (k+1+30*i+4) r.2) ?_ ?_
    ·refine Bn (fun _=>?_) (fun _=>?_)
     ·refine AV ((n:Int) - 1) rfl (by omega) (by omega) (AD (HT (F:=F) av (by omega) (by omega)) ?_);rintro⟨y,a6⟩ ⟨am,ap,V⟩;simp only at am ap V ⊢;exact Ak ⟨⟨by simp,fun x U=>by simp at U;subst U;omega,by simp⟩,by simp,V⟩
     ·exact Ak ⟨w1,w2,BG.Ah av (by omega)⟩
    ·rintro⟨a7,a6⟩ ⟨u1,u2,a8⟩;simp only at u1 u2 a8 ⊢;refine AD (MU (F:=F) (b:=a6) a8 (by omega) (by simp) (by simp)) ?_;rintro⟨c,bd⟩ ⟨a9,c2⟩;simp only at a9 c2 ⊢;have be:c=0∨c=1∨c=2:=by simp at a9;omega
     refine AD (U6 (F:=F) (b:=bd) a0 rfl rfl hi a3 c2 (by omega) be) ?_;rintro⟨fl,bi⟩ ⟨t1,t2,t3⟩;simp only at t1 t2 t3 ⊢;have bE:=K.l1;have bF:=K.l2;refine AO (b:=N++ [a7]) (if_pos (by simp;omega)) (AO (b:=O++ [fl]) (if_pos (by simp;omega)) ?_);exact AV ((i+1:Nat):Int) (by simp) (by omega) (by omega) (Ak ⟨N++ [a7],O++ [fl],bi,rfl,K.snoc ⟨u1,u2⟩ ⟨t1,t2⟩,t3.Ah (by omega)⟩)
  ·rintro st ⟨N,O,Z,rfl,K,al⟩;unfold M5;refine A9 (by simp) (Ak ⟨_,rfl,K,al.Ah (by omega)⟩)
 ·rintro⟨bG,bH,bI,N,O⟩ ⟨K,bo⟩;refine Ak ⟨⟨n,by omega,?_⟩,bo⟩;exact⟨by omega,a3,K.l1,K.l2,K.nx,K.fl⟩
end Pal
namespace Pal
open Go Go.Conc Go.Proofs
open Go.Proofs.Tryz
end Pal
namespace Pal
def H4(J:JW)(n a:Nat)(d:List Bool):Prop:=d.length=n∧∀m,m<n→d[m]? =some ((AG J a).testBit m)
def PL(J:JW)(n a k:Nat)(d:List Bool):Prop:=d.length=n∧∀x:Nat,x<n→(d[x]? =some true↔∃m,m<k∧(AG J a).testBit m=true∧(x:Int)∈J.1.getD m [])
theorem PL.due{n a:Nat}{J:JW}{d:List Bool}(K:VJ n J)(h:PL J n a n d):H4 J n (a+1) d:=by
 refine⟨h.1,fun x U=>?_⟩;have V:x<d.length:=by rw [h.1];exact U
 rw [List.getElem?_eq_getElem V];congr 1;have Y:=h.2 x U;rw [List.getElem?_eq_getElem V,Option.some.injEq] at Y;have Z:=OQ K (AG J a) x;have e:d[x]=true↔(AG J (a+1)).testBit x=true:=by
  rw [Y];show _↔(GN J.1 (AG J a)).testBit x=true;rw [Z];have al:=K.le;constructor
  ·rintro⟨m,ag,g2,O⟩;exact⟨m,by omega,g2,O⟩
  ·rintro⟨m,ag,g2,O⟩;exact⟨m,Io (Hy K a) g2,g2,O⟩
 cases am:d[x] <;> cases ap:(AG J (a+1)).testBit x <;> simp_all
theorem V5{d:List Bool}{q x:Nat}(K:q<d.length):(d.set q true)[x]? =some true↔d[x]? =some true∨x=q:=by
 by_cases e:q=x
 ·subst e;rw [List.getElem?_set_self K];simp
 ·rw [List.getElem?_set_ne e];constructor
  ·exact .inl
  ·rintro(h | h)
   ·exact h
   ·exact absurd h.symm e
end Pal
namespace Pal
open Go Go.Conc Go.Proofs
open Go.Proofs.Tryz
end Pal
namespace Pal
theorem VJ.PQ{n:Nat}{J:JW}(K:VJ n J)(m:Nat):VL n (J.2.getD m []):=by
 rw [List.getD_eq_getElem?_getD];cases h:J.2[m]? with
 | none=>exact⟨by simp,fun x O=>by simp at O,by simp⟩
 | some l=>exact(K.fl m l h).1
end Pal
