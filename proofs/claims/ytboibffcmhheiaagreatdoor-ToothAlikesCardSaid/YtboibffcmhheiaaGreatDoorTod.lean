/- ToothAlikes. Part 4 of 8. -/
import Derived.Test.YtboibffcmhheiaaGreatDoorTob
import Derived.Test.YtboibffcmhheiaaGreatDoorToc
import Derived.Conc.WgGenN3
import Derived.Sort.AssemblyPlain
import Derived.Sort.Walk13a
set_option linter.all false
set_option maxRecDepth 100000
namespace Pal
open Go Go.Conc Go.Proofs
open Go.Proofs.Tryz
def I9(fuel:Nat)(K:BX)(lk:AI)(age:Int)(ms:List Int)(fl:Nat)(sm:Nat):Option (Option (List Int)):=
 (Lf fuel (K,lk,age,ms,fl)).bind fun O=>
 if O<((ms).length:Int) then(
  some none
 ) else(
  (f89 fuel sm).bind fun U=>
  some (some U)
 )
def Px(rec:Nat→List Int→Nat→List (List Int×Nat)→Option (List (List Int×Nat)))(fuel:Nat)(K:BX)(lk:AI)(age:Int)(ms:List Int)(fl:Nat)(ac:List (List Int×Nat))(n:Int):Option (List (List Int×Nat)):=
 (LA fuel K lk age ms fl n).bind fun r=>match r with
  | none=>some ac
  | some q=>(Ls fuel K lk age q.1 q.2 n).bind fun s'=>rec s' q.1 q.2 ac
def Ka(ok:List (List Int×Nat)→Bool)(rec:Nat→List Int→Nat→List (List Int×Nat)→Option (List (List Int×Nat)))(fuel:Nat)(K:BX)(lk:AI)(age:Int)(ms:List Int)(fl:Nat)(ac:List (List Int×Nat)):Option (List Int)→Option (List (List Int×Nat))
 | none=>if ok (ac++ [(ms,fl)])=true then some (ac++ [(ms,fl)]) else none
 | some l=>if l.length≤1000 then Fu (Px rec fuel K lk age ms fl) l ac else none
def IF(ok:List (List Int×Nat)→Bool)(fuel:Nat)(K:BX)(lk:AI)(age:Int):Nat→Nat→List Int→Nat→List (List Int×Nat)→Option (List (List Int×Nat))
 | 0,_,_,_,_=>none
 | g+1,sm,ms,fl,ac=>(I9 fuel K lk age ms fl sm).bind fun r=>Ka ok (IF ok fuel K lk age g) fuel K lk age ms fl ac r
theorem ZK{J:Judge Tryz.prog}{I:List (List Int×Nat)→LH→Seg→Prop}(a6:∀x E E' X,Le E E'→I x E X→I x E' X){E:LH}{bk k1 o2:Nat}{bv bw Y U:Ao}{bx bz Z V:Nat}{bA:List Value}{ap:BX}{lk:AI}{age:Int}{ms:List Int}{fl:Nat}(bh:At E k1 o2 (([sV bv ap.1 bx,sV bw ap.2.1 bz]:List Value)++bA))(bi:Al (rL rI) E bv bx ap.1)(bj:Al (rL rI) E bw bz ap.2.1)(bl:(rA 13 (rN .u16)).r E bA ap.2.2)(bm:Al A9 E Y Z lk)(bn:Al rI E U V ms){a2 a3:Nat}(a9:At E a2 a3 [pV bk 0]){bb bc kf a4:Nat}(bN:At E kf a4 [.func (.func 153) #[] [pV a2 a3,pV bb bc,pV kf a4].toArray]){bB:Value}(bO:At E bb bc [bB]){X:Seg}{acc acc':List (List Int×Nat)}{ok:List (List Int×Nat)→Bool}(bC:I acc E X){rec:Nat→List Int→Nat→List (List Int×Nat)→Option (List (List Int×Nat))}(bP:∀s' av a7 ac bd,rec s' av a7 ac=some bd→∀E' K a c,Le E E'→Al rI E' a c av→I ac E' K→AK J 153 [uV s',pV a2 a3,pV bb bc,pV kf a4] E' ([(bk,.cells #[pV k1 o2,.slice Y lk.length Z,iV age,(.slice a av.length c),(uV a7)] 175 (0,0))]++K) (fun w E' B'=>∃bo bp bq K,w= .bool true∧B'= [(bk,.cells #[pV k1 o2,.slice Y lk.length Z,bo,bp,bq] 175 (0,0))]++K∧I bd E' K))(bQ:∀(E':LH) (K:Seg) (ac:List (List Int×Nat)) (av:List Int) (a7:Nat) (a:Ao) (c:Nat),Le E E'→Al rI E' a c av→I ac E' K→ok (ac++ [(av,a7)])=true→EU J bB [.agg #[iV age,.slice a av.length c,uV a7]] E' K (fun w bD bR=>w= .bool true∧I (ac++ [(av,a7)]) bD bR)){sm:Nat}{fuel:Nat}{r:Option (List Int)}(bE:I9 fuel ap lk age ms fl sm=some r)(ag:Ka ok rec fuel ap lk age ms fl acc r=some acc'):
  AK J 153 [uV sm,pV a2 a3,pV bb bc,pV kf a4] E ([(bk,.cells #[pV k1 o2,.slice Y lk.length Z,iV age,.slice U ms.length V,uV fl] 175 (0,0))]++X) (fun w E' B'=>∃bo bp bq K,w= .bool true∧B'= [(bk,.cells #[pV k1 o2,.slice Y lk.length Z,bo,bp,bq] 175 (0,0))]++K∧I acc' E' K):=by
 refine A4 func153 fun Q cv cs H a5 bF=>?_;refine DM (S':= [[(bk,.cells #[pV k1 o2,.slice Y lk.length Z,iV age,.slice U ms.length V,uV fl] 175 (0,0))],X]) (by simp) a5 fun a5=>?_;unfold I9 at bE;refine zg 6 rfl (Dl 8 [bk] ⟨⟨0,_,rfl⟩,trivial⟩ a5 fun ht=>?_);refine JG.lp 0 ht 0 a9 a5 ⟨⟨0,_,rfl⟩,trivial⟩ FH ?_;refine B4 1 ht rfl rfl (B7 2 ht underlying175 Ct rfl rfl rfl rfl ?_);refine B7 3 ht underlying104 BZ rfl rfl rfl rfl (Ff 4 ht 3 0 a5 CZ ?_);refine By 5 ht rfl rfl (fun ρ h s' hs=>Yl.len rfl underlying28 (h _ _ rfl)) (JG.lp 6 ht 0 a9 a5 ⟨⟨0,_,rfl⟩,trivial⟩ FH ?_);obtain⟨cw,bS,bT⟩:=bs bE;refine Qv (i:=7) (vs:= [pV bk 0]) 0 ⟨⟨0,_,rfl⟩,trivial⟩ (XP bh bi bj bl bm bn bS) (fun _ _ _ h=>h.2) (by decide+kernel) rfl rfl rfl (AS func154 rfl) rfl a5 rfl ?_;rintro _ bG O ⟨rfl,_⟩ a0;refine Cc [8] (zg 2 rfl ?_);refine AL bT (fun bU bV=>?_) (fun bU bW=>?_)
 ·refine JL.seq (Dl 5 [bk] ⟨⟨0,_,rfl⟩,trivial⟩ a0 fun ht=>?_);refine JG.lp 0 ht 0 (bO.Ah O) a0 ⟨⟨0,_,rfl⟩,trivial⟩ (Dz underlying200) ?_;refine JG.lp 1 ht 0 (a9.Ah O) a0 ⟨⟨0,_,rfl⟩,trivial⟩ FH ?_;refine B4 2 ht rfl rfl (B7 3 ht underlying175 Ct rfl rfl rfl rfl ?_);refine By 4 ht rfl rfl (fun ρ h s' hs=>FY (vs:= [iV age,sV U ms V,uV fl]) FV Ct (h _ _ rfl) (UQ (o:=2) 0 a0 rfl (by simp [A5]) hs rfl)) (Cc [5,6] ?_);obtain rfl:=oi bV;have bH:ok (acc++ [(ms,fl)])=true∧acc++ [(ms,fl)]=acc':=by
   simp only [Ka] at ag;split at ag
   ·exact⟨by assumption,Option.some.inj ag⟩
   ·cases ag
  obtain⟨bY,bH⟩:=bH;subst acc';refine Jq (vs:= [.agg #[iV age,.slice U ms.length V,uV fl]]) 1 (bQ _ _ _ _ _ _ _ O (bn.Ah O) (a6 _ _ _ _ O bC) bY) rfl rfl rfl rfl rfl a0 rfl ?_;rintro _ cy bZ b0 ⟨rfl,b1⟩ b2;refine zg 2 rfl (AD func153 rfl rfl ?_);exact bF (O.Ab b0) rfl ⟨iV age,.slice U ms.length V,uV fl,bZ,rfl,by simp,b1⟩ b2
 ·obtain⟨am,b3,b4⟩:=bs bW;refine zg 5 rfl (BV (I4 b3) rfl rfl IJ a0 ?_);rintro _ b5 _ br ⟨bI,bJ,rfl,rfl,b6⟩ b7;refine Bj underlying28 rfl rfl rfl (zg 2 rfl ?_);obtain rfl:=oi b4;have b8:am.length≤1000∧Fu (Px rec fuel ap lk age ms fl) am acc=some acc':=by
   simp only [Ka] at ag;split at ag
   ·exact⟨by assumption,ag⟩
   ·cases ag
  obtain⟨hlen,ag⟩:=b8;refine JL.block (Ix [(1,pV a2 a3),(3,pV kf a4),(24,sV bI am bJ),(25,iV (am.length:Int)),(26,iV 0)] rfl ?_);refine DM (S':= [[(bk,.cells #[pV k1 o2,.slice Y lk.length Z,iV age,.slice U ms.length V,uV fl] 175 (0,0))],X]) (by simp) b7 fun b9=>T9 (l:=am) ag (fun L s i ac=>∃be a8,Jn b5 H be [[(bk,.cells #[pV k1 o2,.slice Y lk.length Z,iV age,.slice U ms.length V,uV fl] 175 (0,0))],a8] [(1,pV a2 a3),(3,pV kf a4),(24,sV bI am bJ),(25,iV (am.length:Int)),(26,iV ((i:Nat):Int))] L s (I ac be a8)) ⟨_,X,rfl,rfl,Le.refl _,b9,a6 _ _ _ _ (O.Ab br) bC⟩ ?_ ?_
  ·rintro _ _ i ac n bd ⟨be,a8,rfl,rfl,ba,bu,bf⟩ ca cz cb cc;have cd:=(O.Ab br).Ab ba;refine zg 5 rfl ?_;rw [decide_eq_true (show((i:Nat):Int)<(am.length:Int) by omega)];refine zg 6 rfl ?_;have ce:ix am ((i:Nat):Int)=some n:=by unfold ix;rw [if_pos (by omega)];exact ca
   refine Cf (b6.Ah ba) ce underlying28 AX ?_;rintro kk cA _ rfl cf;refine B8 0 cf Bx rfl rfl rfl (CO bu CS fun cg ci=>?_);refine BU 2 ci AX fun ck=>?_;refine C6 2 ck rfl fun cB bg bK cm=>?_;have a1:=cd.trans bg;refine zg 3 rfl (B8 0 (a9.Ah a1) FH rfl rfl rfl ?_);refine B8 0 bK Bx rfl rfl rfl (AF (v:= .func (.func 156) #[] [pV kf a4,pV a2 a3,pV cg 0].toArray) rfl (fun ρ h=>IN (by simp) (by simp [h (.tmp 3) _ rfl,h (.tmp 1) _ rfl,h (.tmp 7) _ rfl])) ?_);refine DM (S':= [[(bk,.cells #[pV k1 o2,.slice Y lk.length Z,iV age,.slice U ms.length V,uV fl] 175 (0,0))]++a8]) (by simp) cm fun a0=>?_;obtain⟨q,cn,bL⟩:=Option.bind_eq_some_iff.1 cb;refine B6 0 (ZI a6 (bh.Ah a1) (bi.Ah a1) (bj.Ah a1) (Rp.Ah _ a1 bl) (bm.Ah a1) (bn.Ah a1) (acc':=bd) (a6 _ _ _ _ bg bf) cn (fun e=>by subst e;exact(Option.some.inj bL).symm) (fun p e E' a c hle bM=>?_)) rfl rfl (AS func155 rfl) a0 rfl ?_
   ·subst e;obtain⟨s',co,cp⟩:=Option.bind_eq_some_iff.1 bL;have al:=a1.trans hle;exact EU.ofFn (AS func156 rfl) (aU (bh.Ah al) (bi.Ah al) (bj.Ah al) (Rp.Ah _ al bl) (bm.Ah al) bM (a9.Ah al) (bN.Ah al) (bK.Ah hle) co fun bD O=>bP _ _ _ _ _ cp _ _ _ _ (al.Ab O) (bM.Ah O) (a6 _ _ _ _ (hle.trans O) (a6 _ _ _ _ bg bf)))
   rintro _ bG _ al ⟨K,rfl,rfl,cq⟩ cr;refine AF (v:= .bool (!true)) rfl (fun ρ h=>Yl.not (h _ _ rfl)) (zg 5 rfl ?_);have ct:As (((i:Nat):Int)+1)=some (((i+1:Nat)):Int):=by unfold As;rw [if_pos (by omega)];simp
   refine Bb ct rfl rfl rfl (zg 2 rfl ?_);exact DM (S':= [[(bk,.cells #[pV k1 o2,.slice Y lk.length Z,iV age,.slice U ms.length V,uV fl] 175 (0,0))],K]) (by simp) cr fun cu=>Az (cc _ _ ⟨bG,K,rfl,rfl,(ba.Ab bg).Ab al,cu,cq⟩) rfl
  ·rintro _ _ ⟨be,a8,rfl,rfl,ba,bu,bf⟩;refine zg 5 rfl ?_;rw [decide_eq_false (Int.lt_irrefl _)];refine zg 6 rfl (AD func153 rfl rfl ?_);exact bF ((O.Ab br).Ab ba) rfl ⟨iV age,.slice U ms.length V,uV fl,a8,rfl,by simp,bf⟩ bu
end Pal
namespace Pal
open Go Go.Conc Go.Proofs
open Go.Proofs.Tryz
theorem XU{J:Judge Tryz.prog}{I:List (List Int×Nat)→LH→Seg→Prop}(bd:∀x E E' X,Le E E'→I x E X→I x E' X){E:LH}{bk k1 o2:Nat}{a7 a8 Z:Ao}{a9 ba ag:Nat}{bb:List Value}{O:BX}{lk:AI}{age:Int}(be:At E k1 o2 (([sV a7 O.1 a9,sV a8 O.2.1 ba]:List Value)++bb))(bf:Al (rL rI) E a7 a9 O.1)(bg:Al (rL rI) E a8 ba O.2.1)(bh:(rA 13 (rN .u16)).r E bb O.2.2)(bi:Al A9 E Z ag lk){al am:Nat}(bj:At E al am [pV bk 0]){ap av kf a0:Nat}(bl:At E kf a0 [.func (.func 153) #[] [pV al am,pV ap av,pV kf a0].toArray]){bc:Value}(bm:At E ap av [bc]){fuel:Nat}{ok:List (List Int×Nat)→Bool}(bn:∀(E':LH) (Y:Seg) (ac:List (List Int×Nat)) (K:List Int) (U:Nat) (a:Ao) (c:Nat),Le E E'→Al rI E' a c K→I ac E' Y→ok (ac++ [(K,U)])=true→EU J bc [.agg #[iV age,.slice a K.length c,uV U]] E' Y (fun w bo bp=>w= .bool true∧I (ac++ [(K,U)]) bo bp)):
  ∀(g sm:Nat) (ms:List Int) (fl:Nat) (ac V:List (List Int×Nat)),IF ok fuel O lk age g sm ms fl ac=some V→∀E' X a c,Le E E'→Al rI E' a c ms→I ac E' X→AK J 153 [uV sm,pV al am,pV ap av,pV kf a0] E' ([(bk,.cells #[pV k1 o2,.slice Z lk.length ag,iV age,(.slice a ms.length c),uV fl] 175 (0,0))]++X) (fun w E' B'=>∃bq br bu Y,w= .bool true∧B'= [(bk,.cells #[pV k1 o2,.slice Z lk.length ag,bq,br,bu] 175 (0,0))]++Y∧I V E' Y):=by
 intro g
 induction g with
 | zero=>intro sm ms fl ac V h;cases h
 | succ g bv=>
  intro sm ms fl ac V h E' X a c hle bw bx;obtain⟨r,bz,bA⟩:=Option.bind_eq_some_iff.1 h;exact ZK bd (be.Ah hle) (bf.Ah hle) (bg.Ah hle) (Rp.Ah _ hle bh) (bi.Ah hle) bw (bj.Ah hle) (bl.Ah hle) (bm.Ah hle) bx (rec:=IF ok fuel O lk age g) (fun s' K U ac V bB a1 a2 a3 c2 a4 a5 a6=>bv s' K U ac V bB a1 a2 a3 c2 (hle.trans a4) a5 a6) (fun a1 a2 ac K U a3 c2 a4 a5 a6 bC=>bn a1 a2 ac K U a3 c2 (hle.trans a4) a5 a6 bC) bz bA
def Kc(fuel:Nat)(K:BX)(lk:AI)(age:Int):Option Nat:=
 (ix K.2.2 (age)).bind fun O=>
 some O
theorem Rs{J:Judge Tryz.prog}{I:List (List Int×Nat)→LH→Seg→Prop}(bc:∀x E E' X,Le E E'→I x E X→I x E' X){E:LH}{bk k1 o2:Nat}{a3 a4 Y:Ao}{a5 a6 Z:Nat}{bd:List Value}{V:BX}{lk:AI}{age:Int}(be:At E k1 o2 (([sV a3 V.1 a5,sV a4 V.2.1 a6]:List Value)++bd))(bn:Al (rL rI) E a3 a5 V.1)(bo:Al (rL rI) E a4 a6 V.2.1)(a7:(rA 13 (rN .u16)).r E bd V.2.2)(bp:Al A9 E Y Z lk){av a0:Nat}(a8:At E av a0 [pV bk 0]){bf bg:Nat}(bh:At E bf bg [iV age]){al am ap:Value}{bi:Go.Fn}{X:Seg}{acc acc':List (List Int×Nat)}(bq:I acc E X){ok:List (List Int×Nat)→Bool}{fuel:Nat}(br:∀(E':LH) (U:Seg) (ac:List (List Int×Nat)) (a1:List Int) (a9:Nat) (a:Ao) (c:Nat),Le E E'→Al rI E' a c a1→I ac E' U→ok (ac++ [(a1,a9)])=true→EU J (.func bi #[] #[]) [.agg #[iV age,.slice a a1.length c,uV a9]] E' U (fun w bu bv=>w= .bool true∧I (ac++ [(a1,a9)]) bu bv)){r:Nat}(bj:Kc fuel V lk age=some r)(bw:IF ok fuel V lk age fuel r [] 0 acc=some acc'):
  AK J 152 [.func bi #[] #[],pV bf bg,pV av a0] E ([(bk,.cells #[pV k1 o2,.slice Y lk.length Z,al,am,ap] 175 (0,0))]++X) (fun w E' B'=>∃al am ap U,w= .tuple #[]∧B'= [(bk,.cells #[pV k1 o2,.slice Y lk.length Z,al,am,ap] 175 (0,0))]++U∧I acc' E' U):=by
 refine A4 func152 fun Q b1 cs H ba bx=>?_;refine DM (S':= [[(bk,.cells #[pV k1 o2,.slice Y lk.length Z,al,am,ap] 175 (0,0))],X]) (by simp) ba fun ba=>?_;unfold Kc at bj;refine zg 2 rfl (Cb ba fun bb b2 K bz bA=>?_);refine zg 3 rfl (B8 0 (a8.Ah K) FH rfl rfl rfl ?_);refine B8 0 (bh.Ah K) Bx rfl rfl rfl (AF (v:= .agg #[iV age,nS,uV 0]) rfl (fun ρ h=>Dk [(0,1),(1,1),(2,1)] h GU underlying104 ⟨rfl,Bw type3,rfl,Bw type28,rfl,Bw type102,trivial⟩ rfl rfl) ?_);refine zg 1 rfl (BM underlying175 Ct rfl rfl rfl ?_);refine BU 0 bA Ct fun bB=>?_;refine zg 3 rfl (CO bB (Dy type201) fun a2 bC=>?_);refine Cr (S':= [[(bk,.cells #[pV k1 o2,sV Y lk Z,iV age,nS,uV 0] 175 (0,0))],X,[],[(a2,.cells #[.nilFunc] 201 (0,0))]]) rfl bC fun bD=>zg 3 rfl (AF (v:= .func (.func 153) #[] ([pV av a0,pV bb 0,pV a2 0]:List Value).toArray) rfl (fun ρ h=>IN (by simp) (by simp [h (.tmp 2) _ rfl,h (.tmp 3) _ rfl,h (.tmp 4) _ rfl])) ?_);refine BU 3 bD (Bw type201) fun bE=>?_;refine C6 3 bE rfl fun bF O bl ag=>JL.done (Dl 11 [bk] ⟨⟨0,_,rfl⟩,trivial⟩ ag fun ht=>?_);refine JG.lp 0 ht 0 bl ag ⟨⟨0,_,rfl⟩,trivial⟩ (Dz underlying201) ?_;refine JG.lp 1 ht 0 (a8.Ah (K.Ab O)) ag ⟨⟨0,_,rfl⟩,trivial⟩ FH ?_;refine B4 2 ht rfl rfl (B7 3 ht underlying175 N3 rfl rfl rfl rfl ?_);refine Ff 4 ht 0 0 ag LQ ?_;refine JG.lp 5 ht 0 (bh.Ah (K.Ab O)) ag ⟨⟨0,_,rfl⟩,trivial⟩ Bx ?_;refine B4 6 ht rfl rfl (B7 7 ht underlying141 Ga rfl rfl rfl rfl ?_);obtain⟨bG,bm,bH⟩:=bs bj;obtain⟨_,rfl,bI,_,_⟩:=Tf (kk:=13) (pp:=(rN .u16)) (Rp.Ah _ (K.Ab O) a7) (At.tail (l:= [sV a3 V.1 a5,sV a4 V.2.1 a6]) (be.Ah (K.Ab O))) bm;refine By (v:= .pointer (some ⟨k1,(o2+2+Int.toNat (age)*1),none⟩)) 8 ht rfl rfl (fun ρ h s' hs=>Ju (kk:=13) (pp:=(rN .u16)) (Rp.Ah _ (K.Ab O) a7) bm underlying139 Ib (h _ _ rfl) (h _ _ rfl)) (B7 9 ht underlying138 Em rfl rfl rfl rfl ?_);refine JG.lp 10 ht 0 bI ag ⟨⟨0,_,rfl⟩,trivial⟩ GO ?_;refine Cc [11] ?_;obtain rfl:=oi bH;have bJ:EU J (.func (.func 153) #[] [pV av a0,pV bb 0,pV a2 0].toArray) [uV bG] bF ([(bk,.cells #[pV k1 o2,.slice Y lk.length Z,iV age,nS,uV 0] 175 (0,0))]++X) (fun w E' B'=>∃al am ap U,w= .bool true∧B'= [(bk,.cells #[pV k1 o2,.slice Y lk.length Z,al,am,ap] 175 (0,0))]++U∧I acc' E' U):=EU.ofFn (caps:= [pV av a0,pV bb 0,pV a2 0]) (AS func153 rfl) (XU bc (be.Ah (K.Ab O)) (bn.Ah (K.Ab O)) (bo.Ah (K.Ab O)) (Rp.Ah _ (K.Ab O) a7) (bp.Ah (K.Ab O)) (a8.Ah (K.Ab O)) bl (bz.Ah O) (fun bK bL ac bM bN bO c2 bP bQ bR bS=>br bK bL ac bM bN bO c2 (((K.Ab O)).Ab bP) bQ bR bS) _ _ _ _ _ _ bw _ _ _ _ Ar Al.nil (bc _ _ _ _ (K.Ab O) bq));refine DM (S':= [[(bk,.cells #[pV k1 o2,.slice Y lk.length Z,iV age,nS,uV 0] 175 (0,0))]++X]) (by simp) ag fun bT=>Jq 0 bJ rfl rfl rfl rfl rfl bT rfl ?_;rintro w b3 _ bU ⟨bV,bW,bY,U,rfl,rfl,bZ⟩ b0;refine JL.done (JL.fin (v:= .tuple #[]) rfl rfl (Ch.list func152 rfl (vs:= []) trivial) ?_);exact bx ((K.Ab O).trans bU) rfl ⟨bV,bW,bY,U,rfl,by simp,bZ⟩ b0
end Pal
namespace Pal
open Go Go.Conc Go.Proofs
open Go.Proofs.Tryz
noncomputable def Iu:Code:=match Tryz.f127.body with | some (.seq _ (.seq _ (.seq (.seq _ (.block _ (.rangeFunc _ _ a _))) _)))=>a | _=> .skip
noncomputable def Iv:Code:=match Tryz.f127.body with | some (.seq _ (.seq _ (.seq (.seq _ (.block _ (.rangeFunc _ _ _ b))) _)))=>b | _=> .skip
def add1(fuel:Nat)(age:Int)(q:Int×List (Ci))(x:List Int×Nat):Option (Int×List (Ci)):=
 (f130 fuel (age,x.1,x.2)).bind fun n=>IE fuel q.1 q.2 (age,x.1,x.2) n
def Hp(fuel:Nat)(age:Int)(ac:List (List Int×Nat)):Option (Int×List (Ci)):=Fu (add1 fuel age) ac (0,[])
def IP(fuel:Nat)(age:Int)(l K O:Nat)(T:Array Value)(ac:List (List Int×Nat))(E:LH)(X:Seg):Prop:=
 ∃q a c g,Hp fuel age ac=some q∧X=(l,.loop ⟨.ready,none,127,T,#[17],Iu,Iv,O⟩)::([(K,.cells #[iV age,iV q.1,.slice a q.2.length c] 133 (0,0))]++g)∧OL 104 Du E a c g q.2
theorem IP.Ah{fuel:Nat}{age:Int}{l K O:Nat}{T:Array Value}:∀(ac:List (List Int×Nat)) (E E':LH) (X:Seg),Le E E'→IP fuel age l K O T ac E X→IP fuel age l K O T ac E' X:=
 fun ac E E' X hle ⟨q,a,c,g,U,V,Y⟩=>⟨q,a,c,g,U,V,Y.Ah hle⟩
theorem Qa{α B:Type}{step:B→α→Option B}:∀{l:List α} {x:α} {b:B},Fu step (l++ [x]) b=(Fu step l b).bind fun K=>step K x
 | [],x,b=>by simp [Fu]
 | y::l,x,b=>by
  simp only [List.cons_append,Fu]
  cases step b y with
  | none=>rfl
  | some K=>exact Qa
theorem RD{J:Judge Tryz.prog}{fuel:Nat}{age:Int}{l K O:Nat}{T:Array Value}(a1:Has Tryz.f127.ntmps [(6,pV K 0)] T){E:LH}{X:Seg}{ac:List (List Int×Nat)}{ms:List Int}{fl:Nat}{U:Ao}{V:Nat}(am:Al rI E U V ms)(a2:IP fuel age l K O T ac E X)(a3:(Hp fuel age (ac++ [(ms,fl)])).isSome=true):
  EU J (.func (.yield l) #[] #[]) [.agg #[iV age,.slice U ms.length V,uV fl]] E X (fun w E' a4=>w= .bool true∧IP fuel age l K O T (ac++ [(ms,fl)]) E' a4):=by
 obtain⟨q,a,c,g,ap,rfl,a5⟩:=a2;obtain⟨r,he⟩:=Option.isSome_iff_exists.1 a3;have av:add1 fuel age q (ms,fl)=some r:=by
  have Z:=he;unfold Hp at Z ap;rw [Qa,ap] at Z;exact Z
 refine EU.yield (i:=0) (t:=17) rfl rfl fun Q a6 cs H ag a7=>?_;refine(?_:JL J Q (Tn l 127) Tryz.f127.ntmps [(17,.agg #[iV age,.slice U ms.length V,uV fl]),(6,pV K 0)] [] [.code Iu,.beginRound,.code Iv] (a6::cs) _) _ (a1.put (d:=some 17) rfl _);refine DM (S':= [[(l,.loop ⟨.ready,none,127,T,#[17],Iu,Iv,O⟩)],[(K,.cells #[iV age,iV q.1,.slice a q.2.length c] 133 (0,0))],g]) (by simp) ag fun ag=>?_;unfold add1 at av;refine JL.region (CO ag GU fun bn a8=>?_);refine BU 3 a8 Ct fun a9=>?_;refine C6 3 a9 rfl fun bo Y a0 ba=>JL.done (JL.beginRound 0 rfl rfl ba rfl rfl fun bb=>?_);refine JL.block (CW 4 fun ht=>?_);refine B7 0 ht underlying133 Dv rfl rfl rfl rfl (Er 1 ht a0 FV Ct rfl rfl rfl ?_);refine Er 2 ht a0 FV Ct rfl rfl rfl ?_;obtain⟨bp,bc,bd⟩:=bs av;refine JG.call (i:=3) (vs:= [.agg #[iV age,sV U ms V,uV fl]]) (ZF (p0:=(age,ms,fl)) (am.Ah Y) bc) (by decide+kernel) rfl rfl rfl (AS func130 rfl) rfl bb ?_;rintro _ bq _ al ⟨rfl,rfl⟩ be;refine Cc [4] (DM (S':= [[(l,.loop ⟨.busy,none,127,T,#[17],Iu,Iv,O⟩)],[(K,.cells #[iV age,iV q.1,.slice a q.2.length c] 133 (0,0))]++g]) (by simp) be fun bf=>?_);refine B6 1 (Zw ((a5.Ah (Y.Ab al))) (tr:=(age,ms,fl)) (am.Ah (Y.Ab al)) bd) rfl rfl (AS func122 rfl) bf rfl ?_;rintro _ br _ bg ⟨bh,bi,g',rfl,rfl,bj⟩ bl;refine zg 2 rfl (JL.endRound 0 rfl rfl bl rfl fun bm=>?_);exact a7 _ _ _ _ ((Y.Ab al).trans bg) rfl ⟨rfl,r,bh,bi,g',he,by simp,bj⟩ bm
end Pal
namespace Pal
open Go Go.Conc Go.Proofs
open Go.Proofs.Tryz
open Go.Conc.Lib Go.ConcR.Gen
theorem Qp{J:Judge Tryz.prog}{E:LH}{bk:Nat}{age:Int}:AK J 129 [pV bk 0,iV age] E [] (fun w E' B'=>∃K O,w= .func (.func 152) #[] [pV K 0,pV O 0].toArray∧B'= []∧At E' K 0 [iV age]∧At E' O 0 [pV bk 0]):=by
 refine A4 func129 fun Q a1 cs H Z ag=>?_;refine zg 2 rfl (Cb Z fun U a2 al am ap=>?_);refine Cb ap fun V a3 Y av a0=>?_;refine zg 4 rfl (AF (v:= .func (.func 152) #[] ([pV V 0,pV U 0]:List Value).toArray) rfl (fun ρ h=>IN (by simp) (by simp [h (.tmp 3) _ rfl,h (.tmp 2) _ rfl])) ?_);refine zg 2 rfl (AD func129 rfl rfl ?_);exact ag (al.Ab Y) rfl ⟨V,U,rfl,by simp,av,(am.Ah Y)⟩ a0
def GC(fuel:Nat)(K:BX)(lk:AI)(age:Int):Option (Int×List (Ci)):=
 (Kc fuel K lk age).bind fun s=>(IF (fun ac=>(Hp fuel age ac).isSome) fuel K lk age fuel s [] 0 []).bind fun tr=>Hp fuel age tr
theorem VG{L:WgLink}(bd:WgLib Tryz.prog L)(bN:L.done=128){F:Fam}{j:Nat}{E:LH}{k1 o2:Nat}{bO bP O:Ao}{bQ bR U:Nat}{bS:List Value}{av:BX}{lk:AI}{age:Int}(bT:At E k1 o2 (([sV bO av.1 bQ,sV bP av.2.1 bR]:List Value)++bS))(bU:Al (rL rI) E bO bQ av.1)(bV:Al (rL rI) E bP bR av.2.1)(bW:(rA 13 (rN .u16)).r E bS av.2.2)(bY:Al A9 E O U lk){be bf bg ol ka a0 kc ag:Nat}(b2:At E be bf [pV k1 o2])(b3:At E bg ol [.slice O lk.length U])(bj:At E ka a0 [iV age])(bZ:At E kc ag [.chan (some F.ch)])
  {fuel:Nat} {q:Int×List (Ci)} (bh:GC fuel av lk age=some q) (bi:F.has j=decide (0<q.2.length)) (b0:∀E' a c,Le E E'→Al Du E' a c q.2→F.msg j (.agg #[iV age,iV q.1,.slice a q.2.length c]) E'):
  Way Tryz.prog false (Stop Tryz.prog F (F.start j)) (born Tryz.prog ⟨.fn (.func 127) [.pointer (some F.sA),pV be bf,pV bg ol,pV ka a0,pV kc ag].toArray,#[]⟩) ⟨E,fun _=>none,false⟩:=by
 refine Rf (fn:=Tryz.f127) (vs:= [.pointer (some F.sA),pV be bf,pV bg ol,pV ka a0,pV kc ag]) func127 rfl rfl (by simp) (Nat.le_of_ble_eq_true rfl) ?_;obtain⟨H,b4⟩:∃H:LH,H=fun _=>none:=⟨_,rfl⟩;rw [← b4];have b1:Av E H []:=trivial;refine(?_:JL (BA Tryz.prog false) (Stop Tryz.prog F (F.start j)) (baseD 127) Tryz.f127.ntmps (FN 0 [.pointer (some F.sA),pV be bf,pV bg ol,pV ka a0,pV kc ag]) [] [.code _] [HQ Tryz.prog] (An E H []));refine zg 2 rfl (JL.defer (vs:= [.pointer (some F.sA)]) rfl rfl rfl rfl rfl ?_);refine zg 2 rfl (CW 8 fun ht=>?_);refine Cn 0 ht 0 b2 LQ rfl rfl rfl rfl (Cn 1 ht 0 b3 GQ rfl rfl rfl rfl ?_);refine By (v:= .agg #[pV k1 o2,sV O lk U,iV 0,nS,uV 0]) 2 ht rfl rfl (fun ρ h s' hs=>Dk [(0,1),(1,1),(2,3)] h (Dy type175) underlying175 ⟨rfl,Bw type94,rfl,Bw type25,rfl,Bw type104,trivial⟩ rfl rfl) (Cn 4 ht 0 bj Bx rfl rfl rfl rfl ?_);refine By (v:= .agg #[iV age,iV 0,nS]) 5 ht rfl rfl (fun ρ h s' hs=>Dk [(0,1),(1,2)] h H9 underlying133 ⟨rfl,Bw type3,rfl,Bw type97,trivial⟩ rfl rfl) (Hm (i:=3) (j:=6) rfl (by decide+kernel) ?_ ?_)
 ·refine Take.Tu (v:= .agg #[pV k1 o2,sV O lk U,iV 0,nS,uV 0]) b1 rfl rfl rfl rfl fun a1 a3=>JG.one (i:=6) rfl (by decide+kernel) (Take.JR a3 rfl rfl rfl H9 fun al a4=>?_);refine B4 7 ht rfl rfl (Cc [8] ?_);refine Cr (S':= [[(a1,.cells #[pV k1 o2,sV O lk U,iV 0,nS,uV 0] 175 (0,0))],[(al,.cells #[iV 0,iV 0,nS] 133 (0,0))]]) rfl a4 fun a5=>BU 1 a5 AQ fun Z=>?_;refine zg 3 rfl (Cr (S':= [[(a1,.cells #[pV k1 o2,.slice O lk.length U,iV 0,nS,uV 0] 175 (0,0))],[(al,.cells #[iV age,iV 0,nS] 133 (0,0))]]) rfl Z fun bl=>?_);refine Ix [(3,pV ka a0),(4,pV kc ag),(5,pV a1 0),(6,pV al 0)] rfl ?_;have a6:Le E E:=Ar;refine zg 2 rfl (B8 0 (bj.Ah a6) Bx rfl rfl rfl ?_);refine BV Qp rfl rfl (AS func129 rfl) bl ?_;rintro _ b5 _ bm ⟨a7,a8,rfl,rfl,bn,bo⟩ a3;have V:=a6.Ab bm;refine zg 2 rfl (DM (S':= [[(a1,.cells #[pV k1 o2,.slice O lk.length U,iV 0,nS,uV 0] 175 (0,0))],[(al,.cells #[iV age,iV 0,nS] 133 (0,0))]]) (by simp) a3 fun bp=>?_);refine JL.rangeFunc (caps:= [pV a7 0,pV a8 0]) rfl (by intro e;cases e) rfl (AS func152 rfl) bp fun Y l T a9 bq=>OO (S':= [[(a1,.cells #[pV k1 o2,.slice O lk.length U,iV 0,nS,uV 0] 175 (0,0))]++([(l,.loop ⟨.ready,none,127,T,#[17],Iu,Iv,Y⟩)]++ [(al,.cells #[iV age,iV 0,nS] 133 (0,0))]),[(Y,.deferred (some []))]]) SB bq fun a4=>?_;unfold GC at bh;obtain⟨b6,br,bu⟩:=Option.bind_eq_some_iff.1 bh;obtain⟨tr,bv,bw⟩:=Option.bind_eq_some_iff.1 bu;refine Ro (vs:= [.func (.yield l) #[] #[],pV a7 0,pV a8 0]) 0 (Rs (I:=IP fuel age l al Y T) (ok:=fun ac=>(Hp fuel age ac).isSome) (acc:= []) IP.Ah (bT.Ah V) (bU.Ah V) (bV.Ah V) (Rp.Ah _ V bW) (bY.Ah V) bo bn ⟨(0,[]),none,0,[],rfl,rfl,OL.nil⟩ (fun E' bx ac b7 b8 a c hle bz bA bB=>RD (a9.sub ⟨rfl,trivial⟩) bz bA bB) br bv) a4 rfl ?_;rintro _ b9 _ bC ⟨bD,bE,bF,bx,rfl,rfl,K,a,c,g,bG,rfl,bH⟩ bI;obtain rfl:K=q:=Option.some.inj (bG.symm.trans bw);refine R3 (S':= [[(a1,.cells #[pV k1 o2,.slice O lk.length U,bD,bE,bF] 175 (0,0))],[(l,.loop ⟨.ready,none,127,T,#[17],Iu,Iv,Y⟩)],[(al,.cells #[iV age,iV K.1,.slice a K.2.length c] 133 (0,0))],g,[(Y,.deferred (some []))]]) (by simp) bI fun a5=>P7 1 a5 rfl rfl rfl fun Z=>?_;refine(?_:JL (BA Tryz.prog false) (Stop Tryz.prog F (F.start j)) (baseD 127) Tryz.f127.ntmps [(4,pV kc ag),(6,pV al 0)] [⟨.collected Y,#[]⟩,dcall 128 #[.pointer (some F.sA)]] _ [HQ Tryz.prog] _) T (a9.sub ⟨rfl,rfl,trivial⟩);have ba:=V.Ab bC;have bJ:dcall 128 #[.pointer (some F.sA)]=dcall L.done #[.pointer (some F.sA)]:=by rw [bN]
  rw [bJ];refine zg 3 rfl (BM underlying133 Dv rfl rfl rfl ?_);refine BM underlying97 Dx rfl rfl rfl (AF (v:= .slice a K.2.length c) rfl (fun ρ h=>Yl.load EO (h _ _ rfl) (DY (j:=2) (off:=2) Z rfl rfl)) ?_);refine Bj underlying95 rfl rfl rfl (zg 2 rfl ?_);refine OV (p:=0<((K.2).length:Int)) rfl (fun bK=>?_) (fun bK=>?_)
  ·have ap:F.start j= .CG j:=by unfold Fam.start;rw [bi,decide_eq_true (show 0<K.2.length by omega)];rfl
   rw [ap];refine JL.region (B8 0 (bZ.Ah ba) LO rfl rfl rfl ?_);refine BT 3 bH Z rfl fun ca bL bM bb=>AF rfl (fun ρ h=>FY (vs:= [iV age,iV K.1,.slice a K.2.length c]) Cq AQ (h _ _ rfl) (FW (off:=0) 2 bb rfl rfl)) (Re rfl rfl rfl rfl rfl rfl rfl (b0 _ _ _ (ba.Ab bL) bM) ?_);exact JL.done (JL.out rfl (JO.collected 4 rfl bb rfl fun bc=>JO.Nz bd rfl rfl (JO.leaveD rfl func127 rfl (.inr rfl) Ko)))
  ·have ap:F.start j= .Db:=by unfold Fam.start;rw [bi,decide_eq_false (show ¬0<K.2.length by omega)];rfl
   rw [ap];exact JL.skip (JL.out rfl (JO.collected 4 rfl Z rfl fun bc=>JO.Nz bd rfl rfl (JO.leaveD rfl func127 rfl (.inr rfl) Ko)))
 ·refine Take.JR b1 rfl rfl rfl H9 fun am bc=>JG.one (i:=3) rfl (by decide+kernel) (Take.Tu (v:= .agg #[pV k1 o2,sV O lk U,iV 0,nS,uV 0]) bc rfl rfl rfl rfl fun a2 cb=>?_);refine B4 7 ht rfl rfl (Cc [8] ?_);refine Cr (S':= [[(am,.cells #[iV 0,iV 0,nS] 133 (0,0))],[(a2,.cells #[pV k1 o2,sV O lk U,iV 0,nS,uV 0] 175 (0,0))]]) rfl cb fun cc=>BU 0 cc AQ fun cd=>?_;refine zg 3 rfl (JS.perm (S':= [[(a2,.cells #[pV k1 o2,.slice O lk.length U,iV 0,nS,uV 0] 175 (0,0))],[(am,.cells #[iV age,iV 0,nS] 133 (0,0))]]) (List.Perm.swap _ _ _) cd fun bl=>?_);refine Ix [(3,pV ka a0),(4,pV kc ag),(5,pV a2 0),(6,pV am 0)] rfl ?_;have a6:Le E E:=Ar;refine zg 2 rfl (B8 0 (bj.Ah a6) Bx rfl rfl rfl ?_);refine BV Qp rfl rfl (AS func129 rfl) bl ?_;rintro _ b5 _ bm ⟨a7,a8,rfl,rfl,bn,bo⟩ a3;have V:=a6.Ab bm;refine zg 2 rfl (DM (S':= [[(a2,.cells #[pV k1 o2,.slice O lk.length U,iV 0,nS,uV 0] 175 (0,0))],[(am,.cells #[iV age,iV 0,nS] 133 (0,0))]]) (by simp) a3 fun bp=>?_);refine JL.rangeFunc (caps:= [pV a7 0,pV a8 0]) rfl (by intro e;cases e) rfl (AS func152 rfl) bp fun Y l T a9 bq=>OO (S':= [[(a2,.cells #[pV k1 o2,.slice O lk.length U,iV 0,nS,uV 0] 175 (0,0))]++([(l,.loop ⟨.ready,none,127,T,#[17],Iu,Iv,Y⟩)]++ [(am,.cells #[iV age,iV 0,nS] 133 (0,0))]),[(Y,.deferred (some []))]]) SB bq fun a4=>?_;unfold GC at bh;obtain⟨b6,br,bu⟩:=Option.bind_eq_some_iff.1 bh;obtain⟨tr,bv,bw⟩:=Option.bind_eq_some_iff.1 bu;refine Ro (vs:= [.func (.yield l) #[] #[],pV a7 0,pV a8 0]) 0 (Rs (I:=IP fuel age l am Y T) (ok:=fun ac=>(Hp fuel age ac).isSome) (acc:= []) IP.Ah (bT.Ah V) (bU.Ah V) (bV.Ah V) (Rp.Ah _ V bW) (bY.Ah V) bo bn ⟨(0,[]),none,0,[],rfl,rfl,OL.nil⟩ (fun E' bx ac b7 b8 a c hle bz bA bB=>RD (a9.sub ⟨rfl,trivial⟩) bz bA bB) br bv) a4 rfl ?_;rintro _ b9 _ bC ⟨bD,bE,bF,bx,rfl,rfl,K,a,c,g,bG,rfl,bH⟩ bI;obtain rfl:K=q:=Option.some.inj (bG.symm.trans bw);refine R3 (S':= [[(a2,.cells #[pV k1 o2,.slice O lk.length U,bD,bE,bF] 175 (0,0))],[(l,.loop ⟨.ready,none,127,T,#[17],Iu,Iv,Y⟩)],[(am,.cells #[iV age,iV K.1,.slice a K.2.length c] 133 (0,0))],g,[(Y,.deferred (some []))]]) (by simp) bI fun a5=>P7 1 a5 rfl rfl rfl fun Z=>?_;refine(?_:JL (BA Tryz.prog false) (Stop Tryz.prog F (F.start j)) (baseD 127) Tryz.f127.ntmps [(4,pV kc ag),(6,pV am 0)] [⟨.collected Y,#[]⟩,dcall 128 #[.pointer (some F.sA)]] _ [HQ Tryz.prog] _) T (a9.sub ⟨rfl,rfl,trivial⟩);have ba:=V.Ab bC;have bJ:dcall 128 #[.pointer (some F.sA)]=dcall L.done #[.pointer (some F.sA)]:=by rw [bN]
  rw [bJ];refine zg 3 rfl (BM underlying133 Dv rfl rfl rfl ?_);refine BM underlying97 Dx rfl rfl rfl (AF (v:= .slice a K.2.length c) rfl (fun ρ h=>Yl.load EO (h _ _ rfl) (DY (j:=2) (off:=2) Z rfl rfl)) ?_);refine Bj underlying95 rfl rfl rfl (zg 2 rfl ?_);refine OV (p:=0<((K.2).length:Int)) rfl (fun bK=>?_) (fun bK=>?_)
  ·have ap:F.start j= .CG j:=by unfold Fam.start;rw [bi,decide_eq_true (show 0<K.2.length by omega)];rfl
   rw [ap];refine JL.region (B8 0 (bZ.Ah ba) LO rfl rfl rfl ?_);refine BT 3 bH Z rfl fun ca bL bM bb=>AF rfl (fun ρ h=>FY (vs:= [iV age,iV K.1,.slice a K.2.length c]) Cq AQ (h _ _ rfl) (FW (off:=0) 2 bb rfl rfl)) (Re rfl rfl rfl rfl rfl rfl rfl (b0 _ _ _ (ba.Ab bL) bM) ?_);exact JL.done (JL.out rfl (JO.collected 4 rfl bb rfl fun bc=>JO.Nz bd rfl rfl (JO.leaveD rfl func127 rfl (.inr rfl) Ko)))
  ·have ap:F.start j= .Db:=by unfold Fam.start;rw [bi,decide_eq_false (show ¬0<K.2.length by omega)];rfl
   rw [ap];exact JL.skip (JL.out rfl (JO.collected 4 rfl Z rfl fun bc=>JO.Nz bd rfl rfl (JO.leaveD rfl func127 rfl (.inr rfl) Ko)))
end Pal
namespace Go.Proofs
abbrev Tryz.link:Go.Conc.Lib.WgLink:={add:=126,done:=128,wait:=132,relMerge:=139,disable:=140,enable:=141,inBubble:=142,associate:=143,fatal:=144,uOr:=145,uAdd:=146,raceRead:=147,uLoad:=148,uStore:=149,disassociate:=150,semrelease:=151,acquire:=157,isAssociated:=158,uCas:=159,raceWrite:=160,semacquire:=161,orU64:=170,addU64:=171,loadU64:=172,storeU64:=173,casU64:=177,tWgP:=189,tUP:=191,tAssoc:=192,tWg:=171,tAU:=168,tU64:=90,tUint:=156,tU32:=169,tPU32:=196,tPAU:=221,tPU64:=223,tNoCopy:=164,tANoCopy:=165,tAlign64:=166}
theorem Tryz.Pj:Go.Conc.Lib.WgLib Tryz.prog Tryz.link:=
 ⟨Tryz.func126,Tryz.func128,Tryz.func132,Tryz.func139,Tryz.func140,Tryz.func141,Tryz.func142,Tryz.func143,Tryz.func144,Tryz.func145,Tryz.func146,Tryz.func147,Tryz.func148,Tryz.func149,Tryz.func150,Tryz.func151,Tryz.func157,Tryz.func158,Tryz.func159,Tryz.func160,Tryz.func161,Tryz.func170,Tryz.func171,Tryz.func172,Tryz.func173,Tryz.func177,Tryz.underlying189,Tryz.runUnderlying189,Tryz.sizeOf189,Tryz.isAgg189,Tryz.zeroValue189,Tryz.underlying191,Tryz.runUnderlying191,Tryz.sizeOf191,Tryz.isAgg191,Tryz.zeroValue191,Tryz.underlying192,Tryz.runUnderlying192,Tryz.sizeOf192,Tryz.isAgg192,Tryz.zeroValue192,Tryz.underlying171,Tryz.runUnderlying171,Tryz.sizeOf171,Tryz.isAgg171,Tryz.zeroValue171,Tryz.underlying168,Tryz.runUnderlying168,Tryz.sizeOf168,Tryz.isAgg168,Tryz.zeroValue168,Tryz.underlying90,Tryz.runUnderlying90,Tryz.sizeOf90,Tryz.isAgg90,Tryz.zeroValue90,Tryz.underlying156,Tryz.runUnderlying156,Tryz.sizeOf156,Tryz.isAgg156,Tryz.zeroValue156,Tryz.underlying169,Tryz.runUnderlying169,Tryz.sizeOf169,Tryz.isAgg169,Tryz.zeroValue169,Tryz.underlying196,Tryz.runUnderlying196,Tryz.sizeOf196,Tryz.isAgg196,Tryz.zeroValue196,Tryz.underlying221,Tryz.runUnderlying221,Tryz.sizeOf221,Tryz.isAgg221,Tryz.zeroValue221,Tryz.underlying223,Tryz.runUnderlying223,Tryz.sizeOf223,Tryz.isAgg223,Tryz.zeroValue223,Tryz.underlying0,Tryz.runUnderlying0,Tryz.sizeOf0,Tryz.isAgg0,Tryz.zeroValue0,Tryz.underlying3,Tryz.runUnderlying3,Tryz.sizeOf3,Tryz.isAgg3,Tryz.zeroValue3,Tryz.underlying4,Tryz.runUnderlying4,Tryz.sizeOf4,Tryz.isAgg4,Tryz.zeroValue4,Tryz.underlying9,Tryz.runUnderlying9,Tryz.sizeOf9,Tryz.isAgg9,Tryz.zeroValue9,Tryz.underlying20,Tryz.runUnderlying20,Tryz.sizeOf20,Tryz.isAgg20,Tryz.zeroValue20,Tryz.underlying21,Tryz.runUnderlying21,Tryz.sizeOf21,Tryz.isAgg21,Tryz.zeroValue21,(by decide+kernel),(by decide+kernel)⟩
end Go.Proofs
namespace Pal
open Go Go.Conc Go.Proofs Go.Conc.Lib Go.ConcR.Gen
theorem Wi{F:Fam}(O:F.n<2147483648){E:LH}{kc K:Nat}(U:At E kc K [.chan (some F.ch)]):Way Tryz.prog false (Stop Tryz.prog F .Dc) (born Tryz.prog ⟨.fn (.func 131) [.pointer (some F.sA),pV kc K].toArray,#[]⟩) ⟨E,fun _=>none,false⟩:=by
 refine Rf (fn:=Tryz.f131) (vs:= [.pointer (some F.sA),pV kc K]) Tryz.func131 rfl rfl (by simp) (Nat.le_of_ble_eq_true rfl) ?_;obtain⟨H,V⟩:∃H:LH,H=fun _=>none:=⟨_,rfl⟩;rw [← V];refine(?_:JL (BA Tryz.prog false) (Stop Tryz.prog F .Dc) (baseD 131) Tryz.f131.ntmps (FN 0 [.pointer (some F.sA),pV kc K]) [] [.code _] [HQ Tryz.prog] (An E H []));refine zg 2 rfl (JL.wait Tryz.Pj O rfl rfl rfl rfl rfl ?_);refine zg 2 rfl (B8 0 U LO rfl rfl rfl ?_);refine Vu rfl rfl rfl rfl rfl rfl rfl (JL.done ?_);exact JL.out rfl (JO.leaveD rfl Tryz.func131 rfl (.inr rfl) Ko)
end Pal
namespace Pal
open Go Go.Conc Go.Proofs
open Go.Proofs.Tryz
open Go.Conc.Lib Go.ConcR.Gen
noncomputable def I5:Code:=match Tryz.f102.body with | some (.seq _ (.seq _ (.seq _ (.seq (.seq _ (.block _ (.loop c))) _))))=>c | _=> .skip
theorem Ug{F:Fam}(bu:F.n=13){E:LH}{k1 o2:Nat}{ap av a0:Ao}{a1 a2 a3:Nat}{a4:List Value}{O:BX}{lk:AI}(a6:At E k1 o2 (([sV ap O.1 a1,sV av O.2.1 a2]:List Value)++a4))(a7:Al (rL rI) E ap a1 O.1)(a8:Al (rL rI) E av a2 O.2.1)(a9:(rA 13 (rN .u16)).r E a4 O.2.2)(ba:Al A9 E a0 a3 lk){V Y Z ol kc ag:Nat}(bb:At E V Y [pV k1 o2])(bc:At E Z ol [.slice a0 lk.length a3])(bd:At E kc ag [.chan (some F.ch)]){fuel:Nat}{qs:Nat→Int×List (Ci)}(be:∀j,j<13→GC fuel O lk ((j:Nat):Int)=some (qs j))(bf:∀j,j<13→F.has j=decide (0<(qs j).2.length))(bg:∀j,j<13→∀E' a c,Al Du E' a c (qs j).2→F.msg j (.agg #[iV ((j:Nat):Int),iV (qs j).1,.slice a (qs j).2.length c]) E'){j:Nat}(al:j<13){am H:LH}(hle:Le E am)(bh:Av am H []){k:List Item}{cs:List Frame}
  (h:∀U,Le E U→Av U H []→JL (BA Tryz.prog true) (Stop Tryz.prog F (F.DV j)) (base 102) Tryz.f102.ntmps [(2,pV V Y),(3,pV Z ol),(5,pV kc ag),(6,.pointer (some F.sA)),(11,iV ((j+1:Nat):Int))] [] (.inLoop I5::k) cs (An U H [])):
  JL (BA Tryz.prog true) (Stop Tryz.prog F (.Fx j)) (base 102) Tryz.f102.ntmps [(2,pV V Y),(3,pV Z ol),(5,pV kc ag),(6,.pointer (some F.sA)),(11,iV ((j:Nat):Int))] [] (.code I5:: .inLoop I5::k) cs (An am H []):=by
 refine zg 5 rfl ?_;rw [decide_eq_true (show((j:Nat):Int)<13 by omega)];refine zg 7 rfl (CO bh CS fun bi bj=>?_);refine BU 0 bj AX fun bl=>?_;refine C6 0 bl rfl fun U bm bn bo=>DM (S':= []) (by simp) bo fun bp=>?_;have K:=hle.trans bm;refine zg 3 rfl (Vg Tryz.Pj rfl rfl rfl rfl rfl rfl ?_);refine zg 2 rfl (AF (v:= .func (.func 127) #[] ([.pointer (some F.sA),pV V Y,pV Z ol,pV bi 0,pV kc ag]:List Value).toArray) rfl (fun ρ h=>IN (by simp) (by simp [h (.tmp 6) _ rfl,h (.tmp 2) _ rfl,h (.tmp 3) _ rfl,h (.tmp 7) _ rfl,h (.tmp 5) _ rfl])) ?_);have a5:=VG Tryz.Pj rfl (F:=F) (j:=j) (a6.Ah K) (a7.Ah K) (a8.Ah K) (Rp.Ah _ K a9) (ba.Ah K) (bb.Ah K) (bc.Ah K) bn (bd.Ah K) (be j al) (bf j al) (fun E' a c _ bq=>bg j al E' a c bq);refine ZD (fi:= #[]) rfl rfl rfl rfl rfl rfl rfl (by first | exact a5 | (simp only [List.append_toArray,List.nil_append,Array.append_empty,Array.empty_append];exact a5)) ?_
 refine zg 3 rfl ?_;have br:As (((j:Nat):Int)+1)=some (((j+1:Nat)):Int):=by unfold As;rw [if_pos (by omega)];simp
 refine Bb br rfl rfl rfl (zg 2 rfl ?_);exact Az (h U K bp) rfl
theorem Vp{F:Fam}(V:F.n=13){E:LH}{k1 o2:Nat}{am ap av:Ao}{a0 a1 a2:Nat}{a3:List Value}{K:BX}{lk:AI}(a6:At E k1 o2 (([sV am K.1 a0,sV ap K.2.1 a1]:List Value)++a3))(a7:Al (rL rI) E am a0 K.1)(a8:Al (rL rI) E ap a1 K.2.1)(a9:(rA 13 (rN .u16)).r E a3 K.2.2)(ba:Al A9 E av a2 lk){Y Z ag ol kc al:Nat}(bb:At E Y Z [pV k1 o2])(bc:At E ag ol [.slice av lk.length a2])(bd:At E kc al [.chan (some F.ch)]){fuel:Nat}{qs:Nat→Int×List (Ci)}(be:∀j,j<13→GC fuel K lk ((j:Nat):Int)=some (qs j))(bf:∀j,j<13→F.has j=decide (0<(qs j).2.length))(bg:∀j,j<13→∀E' a c,Al Du E' a c (qs j).2→F.msg j (.agg #[iV ((j:Nat):Int),iV (qs j).1,.slice a (qs j).2.length c]) E'){H:LH}{k:List Item}{cs:List Frame}
  (h:∀O,Le E O→Av O H []→JL (BA Tryz.prog true) (Stop Tryz.prog F .FO) (base 102) Tryz.f102.ntmps [(2,pV Y Z),(3,pV ag ol),(5,pV kc al),(6,.pointer (some F.sA)),(11,iV 13)] [] (.code I5:: .inLoop I5::k) cs (An O H [])):
  ∀(m j:Nat),j+m=13→0<m→∀U,Le E U→Av U H []→JL (BA Tryz.prog true) (Stop Tryz.prog F (.Fx j)) (base 102) Tryz.f102.ntmps [(2,pV Y Z),(3,pV ag ol),(5,pV kc al),(6,.pointer (some F.sA)),(11,iV ((j:Nat):Int))] [] (.code I5:: .inLoop I5::k) cs (An U H []):=by
 intro m
 induction m with
 | zero=>intro j _ bh;cases bh
 | succ m bi=>
  intro j bm _ U hle bj;refine Ug V a6 a7 a8 a9 ba bb bc bd be bf bg (by omega) hle bj fun O a4 a5=>JL.again ?_;by_cases hm:m=0
  ·subst hm;have bl:j=12:=by omega
   subst bl;have e:F.DV 12= .FO:=by unfold Fam.DV;rw [V];rfl
   rw [e];exact h O a4 a5
  ·have e:F.DV j= .Fx (j+1):=by unfold Fam.DV;rw [V,if_neg (by omega)]
   rw [e];exact bi (j+1) (by omega) (by omega) O a4 a5
end Pal
namespace Pal
open Go Go.Conc Go.Proofs
open Go.Proofs.Tryz
open Go.Conc.Lib Go.ConcR.Gen
noncomputable def Tm:Code:=match Tryz.f102.body with | some (.seq _ (.seq _ (.seq _ (.seq _ (.seq _ (.seq _ (.seq (.seq _ (.block _ (.loop c))) _)))))))=>c | _=> .skip
def partOf(qs:Nat→Int×List (Ci))(k:Nat):(Bu):=(((k:Nat):Int),(qs k).1,(qs k).2)
theorem Z1{K:List Nat}{kk n:Nat}(O:kk<n)(U:kk ∉ K):((List.range n).filter (fun x=> !(K++ [kk]).contains x)).length<((List.range n).filter (fun x=> !K.contains x)).length:=by
 have e:(List.range n).filter (fun x=> !(K++ [kk]).contains x)=((List.range n).filter (fun x=> !K.contains x)).filter (fun x=>x != kk):=by
  rw [List.filter_filter];apply List.filter_congr;intro x _;by_cases V:x∈K <;> by_cases Y:x=kk <;> simp [V,Y]
 rw [e];apply List.length_filter_lt_length_iff_exists.2;exact⟨kk,by simp [O,U],by simp⟩
theorem UR{F:Fam}(ag:F.n=13){Q:GP}(a6:∀g s,(D1 Tryz.prog).ok Q g s→F.fin g s){qs:Nat→Int×List (Ci)}(a7:∀kk v E',F.msg kk v E'→∃a c,v= .agg #[iV ((kk:Nat):Int),iV (qs kk).1,.slice a (qs kk).2.length c]∧Al Du E' a c (qs kk).2)
  {E H:LH} {k:List Item} {cs:List Frame}
  (a8:∀(K:List Nat) (V:LH) (a:Ao) (c:Nat) (g:Seg),Le E V→K.Nodup→(∀x∈K,x<13∧F.has x=true)→(∀x,x<13→F.has x=true→x∈K)→OL 133 Cv V a c g (K.map (partOf qs))→Av V H [g]→JL (D1 Tryz.prog) Q (base 102) Tryz.f102.ntmps [(8,.slice a (K.map (partOf qs)).length c)] [] k cs (An V H [g])):
  ∀(m:Nat) (K:List Nat) (vs:List Value) (U:LH) (a:Ao) (c:Nat) (g:Seg),((List.range 13).filter (fun x=> !K.contains x)).length=m→K.Nodup→(∀x∈K,x<13∧F.has x=true)→K.length+m≤13→Le E U→OL 133 Cv U a c g (K.map (partOf qs))→Av U H [g]→
   JL (BA Tryz.prog true) (Stop Tryz.prog F (.Cm K vs)) (base 102) Tryz.f102.ntmps [(8,.slice a (K.map (partOf qs)).length c),(18,.chan (some F.ch))] [] (.code Tm:: .inLoop Tm:: .inBlock 2::k) cs (An U H [g]):=by
 intro m
 induction m using Nat.strongRecOn with
 | _ m a9=>
  intro K vs U a c g hm al am hlen hle ap av;refine zg 2 rfl (Wn rfl rfl rfl rfl rfl rfl underlying162 H9 ?_ ?_)
  ·intro kk v E' Y ba a0 a1 bb bc;rw [ag] at Y;obtain⟨br,bu,rfl,bd⟩:=a7 kk v E' bc;have be:Av E' H [g]:=av.up bb;refine(?_:JL (BA Tryz.prog true) (Stop Tryz.prog F (.Cm (K++ [kk]) (vs++ [_]))) (base 102) Tryz.f102.ntmps _ [] _ cs (An E' H [g]));refine zg 9 rfl (JS.alloc rfl rfl rfl be H9 fun bv bf=>?_);refine BU 1 bf AQ fun bg=>?_;refine C6 1 bg rfl fun bh Z bi bj=>DM (S':= [g]) (by simp) bj fun bl=>zg 3 rfl (BW bi Cq AQ rfl rfl ?_);have bm:(K.map (partOf qs)).length+1≤2 ^ 40:=by rw [List.length_map];omega
   refine Qe (pp:=Cv) (xv:=partOf qs kk) 0 rfl rfl rfl rfl (fun w=>rfl) rfl (fun w=>rfl) rfl rfl rfl underlying130 underlying130 underlying130 AQ (Cx type133) H9 rfl (by decide) (by decide) (by decide) (by decide) bm (ap.Ah (a1.trans Z)) ⟨_,_,rfl,rfl,⟨_,_,rfl,rfl,⟨_,_,rfl,bd.Ah Z⟩⟩⟩ bl rfl fun w a2 a3 g' a4 bn=>?_;have em:K.map (partOf qs)++ [partOf qs kk]=(K++ [kk]).map (partOf qs):=by simp
   rw [em] at a4;refine A8 (v:= .slice a2 ((K++ [kk]).map (partOf qs)).length a3) rfl rfl rfl (fun ρ h=>by rw [← em];exact Yl.assign (h _ _ rfl)) (zg 2 rfl ?_);refine JL.again ?_;have bo:((List.range 13).filter (fun x=> !(K++ [kk]).contains x)).length<m:=by rw [← hm];exact Z1 Y a0
   exact Az (a9 _ bo (K++ [kk]) (vs++ [_]) bh a2 a3 g' rfl (by rw [List.nodup_append];exact⟨al,by simp,by intro x O y a5;simp at a5;subst a5;intro e;exact a0 (e▸O)⟩) (by intro x O;simp at O;rcases O with O | rfl;exact am x O;exact⟨Y,ba⟩) (by simp only [List.length_append,List.length_cons,List.length_nil];omega) ((hle.trans a1).Ab Z) a4 bn) rfl
  ·intro bp T bq;refine a6 _ _ ?_;refine(?_:JL (D1 Tryz.prog) Q (base 102) Tryz.f102.ntmps _ [] _ cs (An U H [g])) T bq;exact zg 5 rfl (Az (a8 K U a c g hle al am (fun x O hh=>bp x (by rw [ag];exact O) hh) ap av) rfl)
end Pal
namespace Pal
open Go Go.Conc Go.Proofs
open Go.Proofs.Tryz
variable {J:Judge Tryz.prog}{E:LH}
def SF:List Nat:= [0,1,2,2,3,3,3,3,4,4,4,4,4,4,4,4,5,5,5,5,5,5,5,5,5,5,5,5,5,5,5,5,6,6,6,6,6,6,6,6,6,6,6,6,6,6,6,6,6,6,6,6,6,6,6,6,6,6,6,6,6,6,6,6,7,7,7,7,7,7,7,7,7,7,7,7,7,7,7,7,7,7,7,7,7,7,7,7,7,7,7,7,7,7,7,7,7,7,7,7,7,7,7,7,7,7,7,7,7,7,7,7,7,7,7,7,7,7,7,7,7,7,7,7,7,7,7,7,8,8,8,8,8,8,8,8,8,8,8,8,8,8,8,8,8,8,8,8,8,8,8,8,8,8,8,8,8,8,8,8,8,8,8,8,8,8,8,8,8,8,8,8,8,8,8,8,8,8,8,8,8,8,8,8,8,8,8,8,8,8,8,8,8,8,8,8,8,8,8,8,8,8,8,8,8,8,8,8,8,8,8,8,8,8,8,8,8,8,8,8,8,8,8,8,8,8,8,8,8,8,8,8,8,8,8,8,8,8,8,8,8,8,8,8,8,8,8,8,8,8,8,8,8,8,8,8]
def f187(fuel:Nat)(p0:Nat):Option Int:= Option.bind (if(((4294967296):Nat):Int)≤(((p0):Nat):Int) then(some (p0>>>32,32)) else(some (p0,0))) fun K=> Option.bind (if(((65536):Nat):Int)≤(((K.1):Nat):Int) then((As (K.2+16)).bind fun V=> some (K.1>>>16,V)) else(some K)) fun O=> Option.bind (if(((256):Nat):Int)≤(((O.1):Nat):Int) then((As (O.2+8)).bind fun Y=> some (O.1>>>8,Y)) else(some O)) fun U=> (Lw SF (((((U.1) % 256):Nat):Int))).bind fun Z=> (As (((Z):Nat):Int)).bind fun ag=> (As (U.2+ag)).bind fun al=> some al
theorem YZ{p0:Nat}{fuel:Nat}{r:Int}(V:f187 fuel p0=some r):AK J 187 [.int .u64 ((p0:Nat):Int)] E [] (fun w E' B'=>w=iV r∧B'= []):=by
 refine A4 func187 fun Q bz cs H Y av=>?_;unfold f187 at V;obtain⟨K,a0,a1⟩:=bs V;refine zg 10 rfl (CM [] [(0,.int .u64 ((K.1:Nat):Int)),(2,iV K.2)] (fun bA a2 Z=>?_) (fun ag=>?_))
 ·obtain⟨O,a3,a4⟩:=bs a1;refine zg 6 rfl (CM [] [(0,.int .u64 ((O.1:Nat):Int)),(2,iV O.2)] (fun bB a5 al=>?_) (fun am=>?_))
  ·obtain⟨U,a6,a7⟩:=bs a4;refine zg 6 rfl (CM [] [(0,.int .u64 ((U.1:Nat):Int)),(2,iV U.2)] (fun bC a8 a9=>?_) (fun ap=>?_))
   ·refine zg 4 rfl (AF (v:= .int .u8 (((U.1) % 256:Nat):Int)) rfl (fun ρ h=>XC underlying90 underlying5 (h _ _ rfl)) ?_);obtain⟨ba,bb,bc⟩:=bs a7;refine AF (v:= .int .u8 ((ba:Nat):Int)) rfl (fun ρ h=>Om (l:=SF) (by decide+kernel) underlying9 (h _ _ rfl) (h _ _ rfl) bb) ?_;obtain⟨bd,be,bf⟩:=bs bc;refine AF (v:=iV bd) rfl (fun ρ h=>R4 underlying5 underlying3 (h _ _ rfl) be) ?_;obtain⟨bD,bg,bh⟩:=bs bf;refine Bb bg rfl rfl rfl (zg 2 rfl ?_);obtain rfl:=oi bh;exact AD func187 rfl rfl (av ((a2.Ab a5).Ab a8) rfl ⟨rfl,rfl⟩ a9)
   ·refine AL a6 (fun bi bj=>?_) (fun bi bl=>?_)
    ·refine zg 3 rfl (AF (v:= .int .u64 ((O.1>>>8:Nat):Int)) rfl (fun ρ h=>JC 8 (h _ _ rfl) (h _ _ rfl) (by decide)) ?_);obtain⟨bE,bm,bn⟩:=bs bj;refine zg 4 rfl (Bb bm rfl rfl rfl ?_);refine zg 2 rfl ?_;obtain rfl:=oi bn;exact ap Ar al rfl
    ·refine JL.skip ?_;obtain rfl:=oi bl;exact ap Ar al rfl
  ·refine AL a3 (fun bo bp=>?_) (fun bo bq=>?_)
   ·refine zg 3 rfl (AF (v:= .int .u64 ((K.1>>>16:Nat):Int)) rfl (fun ρ h=>JC 16 (h _ _ rfl) (h _ _ rfl) (by decide)) ?_);obtain⟨bF,br,bu⟩:=bs bp;refine zg 4 rfl (Bb br rfl rfl rfl ?_);refine zg 2 rfl ?_;obtain rfl:=oi bu;exact am Ar Z rfl
   ·refine JL.skip ?_;obtain rfl:=oi bq;exact am Ar Z rfl
 ·refine AL a0 (fun bv bw=>?_) (fun bv bx=>?_)
  ·refine zg 3 rfl (AF (v:= .int .u64 ((p0>>>32:Nat):Int)) rfl (fun ρ h=>JC 32 (h _ _ rfl) (h _ _ rfl) (by decide)) ?_);refine zg 5 rfl ?_;obtain rfl:=oi bw;exact ag Ar Y rfl
  ·refine JL.skip ?_;obtain rfl:=oi bx;exact ag Ar Y rfl
def f163(fuel:Nat)(p0:Nat):Option Int:= (f187 fuel p0).bind fun K=> some K
theorem SQ{p0:Nat}{fuel:Nat}{r:Int}(K:f163 fuel p0=some r):AK J 163 [.int .u64 ((p0:Nat):Int)] E [] (fun w E' B'=>w=iV r∧B'= []):=by
 refine A4 func163 fun Q al cs H O U=>?_;unfold f163 at K;obtain⟨am,V,Y⟩:=bs K;refine zg 10 rfl (BF (YZ V) rfl rfl (AS func187 rfl) O fun ap Z ag=>?_);refine zg 2 rfl ?_;obtain rfl:=oi Y;exact AD func163 rfl rfl (U Z rfl ⟨rfl,rfl⟩ ag)
def f134(fuel:Nat)(p0:Bu)(p1:Bu):Option Int:= (As (p0.1 - p1.1)).bind fun K=> some K
theorem G1{K:Ao}{c2:Nat}{O:Ao}{U:Nat}{p0:Bu}{p1:Bu}(a3:Al Du E K c2 p0.2.2)(a4:Al Du E O U p1.2.2){fuel:Nat}{r:Int}(V:f134 fuel p0 p1=some r):AK J 134 [.agg #[iV p0.1,iV p0.2.1,sV K p0.2.2 c2],.agg #[iV p1.1,iV p1.2.1,sV O p1.2.2 U]] E [] (fun w E' B'=>w=iV r∧B'= []):=by
 refine A4 func134 fun Q a5 cs H Z ag=>?_;unfold f134 at V;refine zg 2 rfl (Cb Z fun a6 a7 al am ap=>?_);refine Cb ap fun a8 a9 Y av a0=>?_;refine zg 4 rfl (JL.fl 0 (am.Ah Y) underlying133 AX Bx ?_);refine JL.fl 0 av underlying133 AX Bx ?_;obtain⟨ba,a1,a2⟩:=bs V;refine Cg a1 rfl rfl rfl (zg 2 rfl ?_);obtain rfl:=oi a2;exact AD func134 rfl rfl (ag (al.Ab Y) rfl ⟨rfl,rfl⟩ a0)
def JD(fuel:Nat)(p1:Int)(K:Int×(List Bu)):Option (Bh (Int×(List Bu)) ((List Bu))):= Option.bind (if p1<K.1 then((ix K.2 K.1).bind fun V=> (As (K.1 - 1)).bind fun Y=> (ix K.2 Y).bind fun Z=> (f134 fuel V Z).bind fun ag=> some (decide (ag<0))) else(some false)) fun al=> if al=true then((As (K.1 - 1)).bind fun O=> (As (K.1 - 1)).bind fun am=> (ix K.2 am).bind fun U=> (ix K.2 K.1).bind fun ap=> (ix (K.2.set (Int.toNat K.1) U) O).bind fun a0=> (As (K.1 - 1)).bind fun av=> some (.more (av,((K.2.set (Int.toNat K.1) U).set (Int.toNat O) ap)))) else(some (.done K.2))
def I2(fuel:Nat)(p1:Int)(p2:Int)(K:Int×(List Bu)):Option (Bh (Int×(List Bu)) ((List Bu))):= if K.1<p2 then(Option.bind (iter (JD fuel p1) fuel K) fun O=> (As (K.1+1)).bind fun U=> some (.more (U,O))) else(some (.done K.2))
def f178(fuel:Nat)(p0:List Bu)(p1:Int)(p2:Int):Option ((List Bu)):= (As (p1+1)).bind fun K=> Option.bind (iter (I2 fuel p1 p2) fuel (K,p0)) fun O=> some O
theorem SW{K:Nat}{U:Nat}{V:Nat}{a8:Array Value}{p0:List (Bu)}{p1:Int}{p2:Int}(hW:WL 133 Cv E K U V a8 p0){fuel:Nat}{r:(List Bu)}(bi:f178 fuel p0 p1 p2=some r):AK J 178 [.slice (AZ K) V U,iV p1,iV p2,(fV 134)] E [(K,.cells a8 133 (0,0))] (fun w E' B'=>∃(bj:Array Value),w= .tuple #[]∧B'= [(K,.cells bj 133 (0,0))]∧WL 133 Cv E' K U V bj r):=by
 refine A4 func178 fun Q cO cs H bG bH=>?_;unfold f178 at bi;obtain⟨cP,bI,bJ⟩:=bs bi;refine zg 3 rfl (Bb bI rfl rfl rfl ?_);obtain⟨bK,bL,bM⟩:=bs bJ;refine zg 2 rfl (Bt (fun L s=>∃(a9:LH) (f17:Array Value),Jn E H a9 [bX K f17 133] [] L s (WL 133 Cv a9 K U V f17 bK)) ?_ ?_)
 ·rintro _ _ ⟨a9,f17,rfl,rfl,bN,bO,bP⟩;obtain rfl:=oi bM;exact JL.fin (v:= .tuple #[]) rfl rfl (Ch.list func178 rfl (vs:= []) trivial) (bH bN rfl ⟨f17,rfl,(by first | rfl | simp | (simp [Value.cells])),bP⟩ bO)
 ·intro bQ;refine JL.block (CN bL (fun L s am=>∃(al:LH) (f25:Array Value),Jn E H al [bX K f25 133] [(0,.slice (AZ K) V U),(1,iV p1),(2,iV p2),(3,(fV 134)),(8,iV am.1)] L s (WL 133 Cv al K U V f25 am.2)) ⟨E,a8,rfl,rfl,Ar,bG,hW⟩ ?_);rintro _ _ am ⟨al,f25,rfl,rfl,bl,bm,bn⟩ bR ⟨cQ,ba⟩ bS;have bo:=ba;unfold I2 at bo;refine zg 7 rfl (AL bo (fun bT bU=>?_) (fun bT bV=>?_))
  ·obtain⟨bp,bW,bY⟩:=bs bU;refine zg 8 rfl (Bt (fun L s=>∃(a4:LH) (f48:Array Value),Jn al H a4 [bX K f48 133] [(0,.slice (AZ K) V U),(1,iV p1),(2,iV p2),(3,(fV 134)),(8,iV am.1)] L s (WL 133 Cv a4 K U V f48 bp)) ?_ ?_)
   ·rintro _ _ ⟨a4,f48,rfl,rfl,bZ,b0,b1⟩;obtain⟨b2,b3,b4⟩:=bs bY;refine zg 3 rfl (Bb b3 rfl rfl rfl ?_);refine zg 2 rfl ?_;obtain rfl:=oi b4;exact Az (bS _ _ (b2,bp) ⟨a4,f48,rfl,rfl,(bl.Ab bZ),b0,b1⟩ ba) rfl
   ·intro b5;refine JL.block (CN bW (fun L s ag=>∃(a1:LH) (f58:Array Value),Jn al H a1 [bX K f58 133] [(0,.slice (AZ K) V U),(1,iV p1),(2,iV p2),(3,(fV 134)),(8,iV am.1),(9,iV ag.1)] L s (WL 133 Cv a1 K U V f58 ag.2)) ⟨al,f25,rfl,rfl,Ar,bm,bn⟩ ?_);rintro _ _ ag ⟨a1,f58,rfl,rfl,bq,a2,O⟩ b6 ⟨cR,bb⟩ b7;have br:=bb;unfold JD at br;refine zg 2 rfl (Dl 17 [K] ⟨⟨0,_,rfl⟩,trivial⟩ a2 fun ht=>?_);refine AW ht rfl [0,1,2,3] rfl ?_;obtain⟨b8,bu,b9⟩:=bs br;refine Ed 0 #[true,true,true,true,true,true,true,true,true,true,true,true,true,true,true,true,true] (fun L s=>∃(a5:LH),Jm a1 H a5 [bX K f58 133] [(0,.slice (AZ K) V U),(1,iV p1),(2,iV p2),(3,(fV 134)),(8,iV am.1),(9,iV ag.1),(34,.bool b8)] L s) ?_ ?_
    ·rintro _ _ ⟨a5,rfl,rfl,ap,a6⟩;refine AU.fin (by decide+kernel) (BJ b9 (fun ca cb=>?_) (fun ca cc=>?_))
     ·refine zg 3 rfl (GZ [15,17] [K] mixed rfl ?_);refine Br 0 rfl rfl (Br 1 rfl rfl ?_);refine Br 2 rfl rfl (Br 3 rfl rfl ?_);obtain⟨bv,cd,ce⟩:=bs cb;refine GG 4 true rfl rfl (fun ρ h s' hs=>C9 (h _ _ rfl) (h _ _ rfl) cd) (Br 5 rfl rfl ?_);refine Br 6 rfl rfl ?_;obtain⟨cT,cf,cg⟩:=bs ce;refine GG 7 true rfl rfl (fun ρ h s' hs=>C9 (h _ _ rfl) (h _ _ rfl) cf) ?_;obtain⟨Y,bw,ci⟩:=bs cg;obtain⟨_,⟨_,_,rfl,rfl,⟨_,_,rfl,rfl,⟨bc,bd,rfl,ck⟩⟩⟩,cm⟩:=WL.at (O.Ah ap) bw;refine Cz 8 O.2 bw underlying130 AQ ?_;refine Eg 9 [iV Y.1,iV Y.2.1,sV bc Y.2.2 bd] 0 a6 cm Cq AQ ?_;refine Br 10 rfl rfl (Br 11 rfl rfl ?_);obtain⟨Z,a7,cn⟩:=bs ci;obtain⟨_,⟨_,_,rfl,rfl,⟨_,_,rfl,rfl,⟨be,bf,rfl,co⟩⟩⟩,cp⟩:=WL.at (O.Ah ap) a7;refine Cz 12 O.2 a7 underlying130 AQ ?_;refine Eg 13 [iV Z.1,iV Z.2.1,sV be Z.2.2 bf] 0 a6 cp Cq AQ ?_;refine Cz 14 O.2 a7 underlying130 AQ ?_;have a3:=WL.put (x':=Y) (ws':= [iV Y.1,iV Y.2.1,sV bc Y.2.2 bd]) (O.Ah ap) O.2 a7 ⟨_,_,rfl,rfl,⟨_,_,rfl,rfl,⟨_,_,rfl,ck⟩⟩⟩;refine Eh 15 0 a6 AQ a3.2 fun cq=>?_;obtain⟨cV,bg,cr⟩:=bs cn;obtain⟨_,⟨_,_,rfl,rfl,⟨_,_,rfl,rfl,⟨cW,cX,rfl,cY⟩⟩⟩,cZ⟩:=WL.at a3.1 bg;refine Cz 16 (a3.1).2 bg underlying130 AQ ?_;have bx:=WL.put (x':=Z) (ws':= [iV Z.1,iV Z.2.1,sV be Z.2.2 bf]) a3.1 (a3.1).2 bg ⟨_,_,rfl,rfl,⟨_,_,rfl,rfl,⟨_,_,rfl,co⟩⟩⟩;refine Eh 17 0 cq AQ bx.2 fun ct=>?_;refine JB.fin (by decide+kernel) ?_;obtain⟨cu,cv,cw⟩:=bs cr;refine zg 3 rfl (Cg cv rfl rfl rfl ?_);refine zg 2 rfl ?_;obtain rfl:=oi cw;exact Az (b7 _ _ (cu,((ag.2.set (Int.toNat ag.1) Y).set (Int.toNat bv) Z)) ⟨a5,(A0 (A0 f58 (Int.toNat (ag.1)*3) [iV Y.1,iV Y.2.1,sV bc Y.2.2 bd]) (Int.toNat (bv)*3) [iV Z.1,iV Z.2.1,sV be Z.2.2 bf]),rfl,rfl,(bq.Ab ap),ct,bx.1⟩ bb) rfl
     ·refine JL.exit rfl ?_;obtain rfl:=oi cc;obtain rfl:=b6 _ bb;exact Az (b5 _ _ ⟨a5,f58,rfl,rfl,(bq.Ab ap),a6,(O.Ah ap)⟩) rfl
    ·intro bz;refine Fa (q:=p1<ag.1) (i:=21) rfl (fun bh=>?_) (fun bh=>?_)
     ·have cy:=ip bu bh;refine AW ht rfl [4,5,6] rfl ?_;obtain⟨av,bA,cz⟩:=bs cy;obtain⟨_,⟨_,_,rfl,rfl,⟨_,_,rfl,rfl,⟨bB,bC,rfl,cA⟩⟩⟩,cB⟩:=WL.at O bA;refine F2 7 ht (O).2 bA underlying130 AQ ?_;refine D4 8 ht [iV av.1,iV av.2.1,sV bB av.2.2 bC] 0 a2 cB Cq AQ ?_;refine AW ht rfl [9,10] rfl ?_;obtain⟨c0,cC,cD⟩:=bs cz;refine By 11 ht rfl rfl (fun ρ h s' hs=>C9 (h _ _ rfl) (h _ _ rfl) cC) ?_;obtain⟨a0,bD,cE⟩:=bs cD;obtain⟨_,⟨_,_,rfl,rfl,⟨_,_,rfl,rfl,⟨bE,bF,rfl,cF⟩⟩⟩,cG⟩:=WL.at O bD;refine F2 12 ht (O).2 bD underlying130 AQ ?_;refine D4 13 ht [iV a0.1,iV a0.2.1,sV bE a0.2.2 bF] 0 a2 cG Cq AQ ?_;obtain⟨c1,cH,cI⟩:=bs cE;refine HG (i:=14) ⟨⟨0,_,rfl⟩,trivial⟩ (vs:= [.agg #[iV av.1,iV av.2.1,sV bB av.2.2 bC],.agg #[iV a0.1,iV a0.2.1,sV bE a0.2.2 bF]]) (G1 cA cF cH) (by decide+kernel) rfl rfl rfl rfl GR rfl a2 ?_;rintro _ cJ _ cK ⟨rfl,rfl⟩ cM;refine AW ht rfl [15,16] rfl ?_;obtain rfl:=oi cI;refine CE ?_ (bz _ _ ⟨cJ,rfl,rfl,cK,cM⟩);exact⟨rfl,rfl,rfl,rfl,rfl,rfl,rfl,trivial⟩
     ·have cN:=im bu bh;refine AW ht rfl [4,5,6,7,8,9,10,11,12,13,14,15,16] rfl ?_;obtain rfl:=oi cN;refine CE ?_ (bz _ _ ⟨a1,rfl,rfl,Ar,a2⟩);exact⟨rfl,rfl,rfl,rfl,rfl,rfl,rfl,trivial⟩
  ·refine JL.exit rfl ?_;obtain rfl:=oi bV;obtain rfl:=bR _ ba;exact Az (bQ _ _ ⟨al,f25,rfl,rfl,bl,bm,bn⟩) rfl
def f200(fuel:Nat)(p0:List Bu)(p1:Int)(p2:Int)(p3:Int):Option (Int×Int×Int):= (ix p0 p2).bind fun K=> (ix p0 p1).bind fun O=> (f134 fuel K O).bind fun U=> if U<0 then((As (p3+1)).bind fun V=> some (p2,p1,V)) else(some (p1,p2,p3))
theorem O4{K:Nat}{ag:Nat}{al:Nat}{Y:Array Value}{bk:Nat}{p0:List (Bu)}{p1:Int}{p2:Int}{p3:Int}(hW:WL 133 Cv E K ag al Y p0){fuel:Nat}{r:Int×Int×Int}(am:f200 fuel p0 p1 p2 p3=some r):AK J 200 [.slice (AZ K) al ag,iV p1,iV p2,pV bk 0,(fV 134)] E ([(bk,.cells #[iV p3] 3 (0,0))]++ [(K,.cells Y 133 (0,0))]) (fun w E' B'=>w= .tuple #[iV r.1,iV r.2.1]∧B'= [(bk,.cells #[iV r.2.2] 3 (0,0))]++ [(K,.cells Y 133 (0,0))]):=by
 refine A4 func200 fun Q bj cs H O ap=>?_;unfold f200 at am;refine DM (S':= [[(bk,.cells #[iV p3] 3 (0,0))],[(K,.cells Y 133 (0,0))]]) (by simp) O fun O=>zg 7 rfl (Dl 9 [K] ⟨⟨1,_,rfl⟩,trivial⟩ O fun ht=>?_);refine AW ht rfl [0,1,2] rfl ?_;obtain⟨U,av,a5⟩:=bs am;obtain⟨_,⟨_,_,rfl,rfl,⟨_,_,rfl,rfl,⟨a0,c4,rfl,a6⟩⟩⟩,a7⟩:=WL.at hW av;refine F2 3 ht (hW).2 av underlying130 AQ ?_;refine D4 4 ht [iV U.1,iV U.2.1,sV a0 U.2.2 c4] 1 O a7 Cq AQ ?_;refine AW ht rfl [5,6] rfl ?_;obtain⟨V,a1,a8⟩:=bs a5;obtain⟨_,⟨_,_,rfl,rfl,⟨_,_,rfl,rfl,⟨a2,a3,rfl,a9⟩⟩⟩,ba⟩:=WL.at hW a1;refine F2 7 ht (hW).2 a1 underlying130 AQ ?_;refine D4 8 ht [iV V.1,iV V.2.1,sV a2 V.2.2 a3] 1 O ba Cq AQ ?_;refine Cc [9,10] ?_;obtain⟨bl,bb,bc⟩:=bs a8;refine Kz (vs:= [.agg #[iV U.1,iV U.2.1,sV a0 U.2.2 c4],.agg #[iV V.1,iV V.2.1,sV a2 V.2.2 a3]]) (G1 a6 a9 bb) rfl rfl rfl rfl GR rfl O ?_;rintro _ bm _ a4 ⟨rfl,rfl⟩ Z;refine zg 2 rfl (AL bc (fun bd be=>?_) (fun bd bf=>?_))
 ·refine zg 4 rfl (AF (v:=iV p3) rfl (fun ρ h=>Yl.load Bx (h _ _ rfl) (DY (j:=0) (off:=0) Z rfl rfl)) ?_);obtain⟨bn,bg,bh⟩:=bs be;refine Bb bg rfl rfl rfl (zg 1 rfl ?_);refine BU 0 Z AX fun bi=>?_;refine zg 8 rfl ?_;obtain rfl:=oi bh;exact AD func200 rfl rfl (ap a4 rfl ⟨rfl,(by first | rfl | simp | (simp [Value.cells]))⟩ bi)
 ·refine zg 8 rfl ?_;obtain rfl:=oi bf;exact AD func200 rfl rfl (ap a4 rfl ⟨rfl,(by first | rfl | simp | (simp [Value.cells]))⟩ Z)
def f197(fuel:Nat)(p0:List Bu)(p1:Int)(p2:Int)(p3:Int)(p4:Int):Option (Int×Int):= (f200 fuel p0 p1 p2 p4).bind fun K=> (f200 fuel p0 K.2.1 p3 K.2.2).bind fun O=> (f200 fuel p0 K.1 O.1 O.2.2).bind fun U=> some U.2
theorem Yw{K:Nat}{Y:Nat}{Z:Nat}{O:Array Value}{bk:Nat}{p0:List (Bu)}{p1:Int}{p2:Int}{p3:Int}{p4:Int}(hW:WL 133 Cv E K Y Z O p0){fuel:Nat}{r:Int×Int}(ag:f197 fuel p0 p1 p2 p3 p4=some r):AK J 197 [.slice (AZ K) Z Y,iV p1,iV p2,iV p3,pV bk 0,(fV 134)] E ([(bk,.cells #[iV p4] 3 (0,0))]++ [(K,.cells O 133 (0,0))]) (fun w E' B'=>w=iV r.1∧B'= [(bk,.cells #[iV r.2] 3 (0,0))]++ [(K,.cells O 133 (0,0))]):=by
 refine A4 func197 fun Q bm cs H U ap=>?_;unfold f197 at ag;refine DM (S':= [[(bk,.cells #[iV p4] 3 (0,0))],[(K,.cells O 133 (0,0))]]) (by simp) U fun U=>?_;obtain⟨av,a0,a1⟩:=bs ag;refine zg 11 rfl (KF 0 1 rfl rfl U fun a2=>?_);refine B6 0 (O4 hW a0) rfl rfl NY a2 rfl ?_;rintro _ bn _ V ⟨rfl,rfl⟩ a3;refine Eo 0 rfl a3 fun a4=>Cr (S':= [[(bk,.cells #[iV av.2.2] 3 (0,0))],[],[(K,.cells O 133 (0,0))]]) rfl a4 fun a5=>?_;obtain⟨a6,a7,a8⟩:=bs a1;refine zg 13 rfl (KF 0 2 rfl rfl a5 fun a9=>?_);refine B6 0 (O4 (hW.Ah V) a7) rfl rfl NY a9 rfl ?_;rintro _ bo _ al ⟨rfl,rfl⟩ ba;refine Eo 0 rfl ba fun bb=>Cr (S':= [[(bk,.cells #[iV a6.2.2] 3 (0,0))],[],[],[(K,.cells O 133 (0,0))]]) rfl bb fun bc=>?_;obtain⟨am,bd,be⟩:=bs a8;refine zg 13 rfl (KF 0 3 rfl rfl bc fun bf=>?_);refine B6 0 (O4 (hW.Ah (V.Ab al)) bd) rfl rfl NY bf rfl ?_;rintro _ bp _ bg ⟨rfl,rfl⟩ bh;refine Eo 0 rfl bh fun bi=>Cr (S':= [[(bk,.cells #[iV am.2.2] 3 (0,0))],[],[],[],[(K,.cells O 133 (0,0))]]) rfl bi fun bj=>zg 11 rfl (Cr (S':= [[(bk,.cells #[iV am.2.2] 3 (0,0))],[],[],[],[(K,.cells O 133 (0,0))]]) rfl bj fun bl=>?_);obtain rfl:=oi be;exact AD func197 rfl rfl (ap ((V.Ab al).Ab bg) rfl ⟨rfl,(by first | rfl | simp | (simp [Value.cells]))⟩ bl)
def f181(fuel:Nat)(p0:List Bu)(p1:Int)(p2:Int):Option (Int×Int):= (As (p2 - p1)).bind fun K=> (Hw K (4)).bind fun V=> (As (V*1)).bind fun Y=> (As (p1+Y)).bind fun Z=> (Hw K (4)).bind fun ag=> (As (ag*2)).bind fun al=> (As (p1+al)).bind fun U=> (Hw K (4)).bind fun am=> (As (am*3)).bind fun ap=> (As (p1+ap)).bind fun av=> Option.bind (if 8≤K then(Option.bind (if 50≤K then(none) else(some ())) fun a1=> (f197 fuel p0 Z U av 0).bind fun a0=> some a0) else(some (U,0))) fun O=> if O.2=0 then(some (O.1,1)) else(if O.2=12 then(some (O.1,2)) else(some (O.1,0)))
theorem SG{K:Nat}{Y:Nat}{Z:Nat}{O:Array Value}{p0:List (Bu)}{p1:Int}{p2:Int}(hW:WL 133 Cv E K Y Z O p0){fuel:Nat}{r:Int×Int}(ap:f181 fuel p0 p1 p2=some r):AK J 181 [.slice (AZ K) Z Y,iV p1,iV p2,(fV 134)] E [(K,.cells O 133 (0,0))] (fun w E' B'=>w= .tuple #[iV r.1,iV r.2]∧B'= [(K,.cells O 133 (0,0))]):=by
 refine A4 func181 fun Q b2 cs H a2 ag=>?_;unfold f181 at ap;obtain⟨b3,a3,a4⟩:=bs ap;refine zg 9 rfl (Cg a3 rfl rfl rfl ?_);refine zg 4 rfl (CO a2 CS fun U av=>?_);obtain⟨a5,a6,a7⟩:=bs a4;refine zg 5 rfl (AF (v:=iV a5) rfl (fun ρ h=>KZ (h _ _ rfl) (h _ _ rfl) a6) ?_);obtain⟨b4,a8,a9⟩:=bs a7;refine AF rfl (fun ρ h=>IX (h _ _ rfl) (h _ _ rfl) a8) ?_;obtain⟨ba,bb,bc⟩:=bs a9;refine Bb bb rfl rfl rfl ?_;obtain⟨bd,be,bf⟩:=bs bc;refine zg 6 rfl (AF (v:=iV bd) rfl (fun ρ h=>KZ (h _ _ rfl) (h _ _ rfl) be) ?_);obtain⟨b5,bg,bh⟩:=bs bf;refine AF rfl (fun ρ h=>IX (h _ _ rfl) (h _ _ rfl) bg) ?_;obtain⟨bi,bj,bl⟩:=bs bh;refine Bb bj rfl rfl rfl ?_;obtain⟨bm,bn,bo⟩:=bs bl;refine zg 6 rfl (AF (v:=iV bm) rfl (fun ρ h=>KZ (h _ _ rfl) (h _ _ rfl) bn) ?_);obtain⟨b6,bp,bq⟩:=bs bo;refine AF rfl (fun ρ h=>IX (h _ _ rfl) (h _ _ rfl) bp) ?_;obtain⟨br,bu,bv⟩:=bs bq;refine Bb bu rfl rfl rfl ?_;obtain⟨al,bw,bx⟩:=bs bv;refine zg 8 rfl (CM [bX K O 133,bX U #[iV al.2] 3] [(11,pV U 0),(13,iV al.1)] (fun b7 am V=>?_) (fun a0=>?_))
 ·refine zg 2 rfl (AF (v:=iV al.2) rfl (fun ρ h=>Yl.load Bx (h _ _ rfl) (DY (j:=1) (off:=0) V rfl rfl)) ?_);refine zg 7 rfl (AL bx (fun bz bA=>?_) (fun bz bB=>?_))
  ·refine zg 6 rfl (JS.drop 1 V rfl fun bC=>?_);obtain rfl:=oi bA;exact AD func181 rfl rfl (ag am rfl ⟨rfl,(by first | rfl | simp | (simp [Value.cells]))⟩ bC)
  ·refine zg 5 rfl (AL bB (fun bD bE=>?_) (fun bD bF=>?_))
   ·refine zg 6 rfl (JS.drop 1 V rfl fun bG=>?_);obtain rfl:=oi bE;exact AD func181 rfl rfl (ag am rfl ⟨rfl,(by first | rfl | simp | (simp [Value.cells]))⟩ bG)
   ·refine zg 6 rfl (JS.drop 1 V rfl fun bH=>?_);obtain rfl:=oi bF;exact AD func181 rfl rfl (ag am rfl ⟨rfl,(by first | rfl | simp | (simp [Value.cells]))⟩ bH)
 ·refine AL bw (fun bI bJ=>?_) (fun bI bK=>?_)
  ·obtain⟨b8,bL,bM⟩:=bs bJ;refine zg 6 rfl (CM [bX K O 133,bX U #[iV 0] 3] [(0,.slice (AZ K) Z Y),(3,(fV 134)),(8,iV 0),(9,iV 0),(11,pV U 0),(12,iV ba),(13,iV bi),(14,iV br)] (fun b9 a1 bN=>?_) (fun bO=>?_))
   ·obtain⟨bP,bQ,bR⟩:=bs bM;refine zg 6 rfl (KF 1 0 rfl rfl bN fun bS=>?_);refine B6 1 (Yw (hW.Ah a1) bQ) rfl rfl (AS func197 rfl) bS rfl ?_;rintro _ ca _ bT ⟨rfl,rfl⟩ bU;refine Eo 1 rfl bU fun bV=>Cr (S':= [[],[(U,.cells #[iV bP.2] 3 (0,0))],[(K,.cells O 133 (0,0))]]) rfl bV fun bW=>zg 2 rfl (JS.swap 1 2 rfl rfl rfl bW fun bY=>?_);obtain rfl:=oi bR;exact a0 (a1.Ab bT) bY rfl
   ·refine AL bL (fun bZ b0=>?_) (fun bZ b1=>?_)
    ·refine zg 5 rfl ?_;cases b0
    ·refine JL.skip ?_;obtain rfl:=oi b1;exact bO Ar av rfl
  ·refine JL.skip ?_;obtain rfl:=oi bK;exact a0 Ar av rfl
end Pal
namespace Pal
open Go Go.Conc Go.Proofs
open Go.Proofs.Tryz
variable {J:Judge Tryz.prog}{E:LH}
def HK(fuel:Nat)(K:Int×Int×(List Bu)):Option (Bh (Int×Int×(List Bu)) ((List Bu))):= if K.1<K.2.1 then((ix K.2.2 K.2.1).bind fun O=> (ix K.2.2 K.1).bind fun U=> (As (K.1+1)).bind fun V=> (As (K.2.1 - 1)).bind fun Y=> some (.more (V,Y,((K.2.2.set (Int.toNat K.1) O).set (Int.toNat K.2.1) U)))) else(some (.done K.2.2))
def f182(fuel:Nat)(p0:List Bu)(p1:Int)(p2:Int):Option ((List Bu)):= (As (p2 - 1)).bind fun K=> Option.bind (iter (HK fuel) fuel (p1,K,p0)) fun O=> some O
theorem SU{K:Nat}{Z:Nat}{ag:Nat}{a0:Array Value}{p0:List (Bu)}{p1:Int}{p2:Int}(hW:WL 133 Cv E K Z ag a0 p0){fuel:Nat}{r:(List Bu)}(a7:f182 fuel p0 p1 p2=some r):AK J 182 [.slice (AZ K) ag Z,iV p1,iV p2,(fV 134)] E [(K,.cells a0 133 (0,0))] (fun w E' B'=>∃(a8:Array Value),w= .tuple #[]∧B'= [(K,.cells a8 133 (0,0))]∧WL 133 Cv E' K Z ag a8 r):=by
 refine A4 func182 fun Q bL cs H bd be=>?_;unfold f182 at a7;obtain⟨bM,bf,bg⟩:=bs a7;refine zg 8 rfl (Cg bf rfl rfl rfl ?_);obtain⟨bh,bi,bj⟩:=bs bg;refine zg 2 rfl (Bt (fun L s=>∃(a1:LH) (f17:Array Value),Jn E H a1 [bX K f17 133] [] L s (WL 133 Cv a1 K Z ag f17 bh)) ?_ ?_)
 ·rintro _ _ ⟨a1,f17,rfl,rfl,bl,bm,bn⟩;obtain rfl:=oi bj;exact JL.fin (v:= .tuple #[]) rfl rfl (Ch.list func182 rfl (vs:= []) trivial) (be bl rfl ⟨f17,rfl,(by first | rfl | simp | (simp [Value.cells])),bn⟩ bm)
 ·intro bo;refine JL.block (CN bi (fun L s Y=>∃(al:LH) (f25:Array Value),Jn E H al [bX K f25 133] [(0,.slice (AZ K) ag Z),(8,iV Y.1),(9,iV Y.2.1)] L s (WL 133 Cv al K Z ag f25 Y.2.2)) ⟨E,a0,rfl,rfl,Ar,bd,hW⟩ ?_);rintro _ _ Y ⟨al,f25,rfl,rfl,a9,am,V⟩ bp ⟨bN,a2⟩ bq;have ba:=a2;unfold HK at ba;refine zg 7 rfl (AL ba (fun br bu=>?_) (fun br bv=>?_))
  ·refine zg 3 rfl (GZ [13,15] [K] mixed rfl ?_);refine Br 0 rfl rfl (Br 1 rfl rfl ?_);refine Br 2 rfl rfl (Br 3 rfl rfl ?_);refine Br 4 rfl rfl (Br 5 rfl rfl ?_);obtain⟨O,ap,bw⟩:=bs bu;obtain⟨_,⟨_,_,rfl,rfl,⟨_,_,rfl,rfl,⟨a3,a4,rfl,bx⟩⟩⟩,bz⟩:=WL.at V ap;refine Cz 6 V.2 ap underlying130 AQ ?_;refine Eg 7 [iV O.1,iV O.2.1,sV a3 O.2.2 a4] 0 am bz Cq AQ ?_;refine Br 8 rfl rfl (Br 9 rfl rfl ?_);obtain⟨U,av,bA⟩:=bs bw;obtain⟨_,⟨_,_,rfl,rfl,⟨_,_,rfl,rfl,⟨a5,a6,rfl,bB⟩⟩⟩,bC⟩:=WL.at V av;refine Cz 10 V.2 av underlying130 AQ ?_;refine Eg 11 [iV U.1,iV U.2.1,sV a5 U.2.2 a6] 0 am bC Cq AQ ?_;refine Cz 12 V.2 av underlying130 AQ ?_;have bb:=WL.put (x':=O) (ws':= [iV O.1,iV O.2.1,sV a3 O.2.2 a4]) V V.2 av ⟨_,_,rfl,rfl,⟨_,_,rfl,rfl,⟨_,_,rfl,bx⟩⟩⟩;refine Eh 13 0 am AQ bb.2 fun bD=>?_;refine Cz 14 V.2 ap underlying130 AQ ?_;have bc:=WL.put (x':=U) (ws':= [iV U.1,iV U.2.1,sV a5 U.2.2 a6]) bb.1 V.2 ap ⟨_,_,rfl,rfl,⟨_,_,rfl,rfl,⟨_,_,rfl,bB⟩⟩⟩;refine Eh 15 0 bD AQ bc.2 fun bE=>?_;refine JB.fin (by decide+kernel) ?_;obtain⟨bF,bG,bH⟩:=bs bA;refine zg 3 rfl (Bb bG rfl rfl rfl ?_);obtain⟨bI,bJ,bK⟩:=bs bH;refine zg 4 rfl (Cg bJ rfl rfl rfl ?_);refine zg 3 rfl ?_;obtain rfl:=oi bK;exact Az (bq _ _ (bF,bI,((Y.2.2.set (Int.toNat Y.1) O).set (Int.toNat Y.2.1) U)) ⟨al,(A0 (A0 f25 (Int.toNat (Y.1)*3) [iV O.1,iV O.2.1,sV a3 O.2.2 a4]) (Int.toNat (Y.2.1)*3) [iV U.1,iV U.2.1,sV a5 U.2.2 a6]),rfl,rfl,a9,bE,bc.1⟩ a2) rfl
  ·refine JL.exit rfl ?_;obtain rfl:=oi bv;obtain rfl:=bp _ a2;exact Az (bo _ _ ⟨al,f25,rfl,rfl,a9,am,V⟩) rfl
def IY(fuel:Nat)(p2:Int)(O:Int×Int×(List Bu))(K:Int):Option (Bh Int Int):= Option.bind (if K<p2 then((ix O.2.2 K).bind fun U=> (As (K - 1)).bind fun V=> (ix O.2.2 V).bind fun Y=> (f134 fuel U Y).bind fun Z=> some (decide (¬(Z<0)))) else(some false)) fun ag=> if ag=true then((As (K+1)).bind fun al=> some (.more al)) else(some (.done K))
def RA(fuel:Nat)(K:Int×(List Bu)):Option (Bh (Int×(List Bu)) ((List Bu))):= if 1≤K.1 then((ix K.2 K.1).bind fun O=> (As (K.1 - 1)).bind fun Y=> (ix K.2 Y).bind fun Z=> (f134 fuel O Z).bind fun ag=> if ¬(ag<0) then(some (.done K.2)) else((As (K.1 - 1)).bind fun U=> (As (K.1 - 1)).bind fun al=> (ix K.2 al).bind fun V=> (ix (K.2.set (Int.toNat K.1) V) U).bind fun ap=> (As (K.1 - 1)).bind fun am=> some (.more (am,((K.2.set (Int.toNat K.1) V).set (Int.toNat U) O))))) else(some (.done K.2))
def Se(fuel:Nat)(p2:Int)(K:Int×(List Bu)):Option (Bh (Int×(List Bu)) ((List Bu))):= if K.1<p2 then((ix K.2 K.1).bind fun O=> (As (K.1 - 1)).bind fun Y=> (ix K.2 Y).bind fun Z=> (f134 fuel O Z).bind fun ag=> if ¬(ag<0) then(some (.done K.2)) else((As (K.1 - 1)).bind fun U=> (As (K.1 - 1)).bind fun al=> (ix K.2 al).bind fun V=> (ix (K.2.set (Int.toNat K.1) V) U).bind fun ap=> (As (K.1+1)).bind fun am=> some (.more (am,((K.2.set (Int.toNat K.1) V).set (Int.toNat U) O))))) else(some (.done K.2))
def MF(fuel:Nat)(p1:Int)(p2:Int)(K:Int×Int×(List Bu)):Option (Bh (Int×Int×(List Bu)) ((Bool×(List Bu))⊕((List Bu)))):= if K.2.1<5 then(Option.bind (iter (IY fuel p2 K) fuel K.1) fun O=> if O=p2 then(some (.done (Sum.inl (true,K.2.2)))) else((As (p2 - p1)).bind fun ag=> if ag<50 then(some (.done (Sum.inl (false,K.2.2)))) else((As (O - 1)).bind fun U=> (As (O - 1)).bind fun al=> (ix K.2.2 al).bind fun V=> (ix K.2.2 O).bind fun Y=> (ix (K.2.2.set (Int.toNat O) V) U).bind fun a5=> (As (O - p1)).bind fun am=> Option.bind (if 2≤am then((As (O - 1)).bind fun ap=> Option.bind (iter (RA fuel) fuel (ap,((K.2.2.set (Int.toNat O) V).set (Int.toNat U) Y))) fun av=> some av) else(some ((K.2.2.set (Int.toNat O) V).set (Int.toNat U) Y))) fun Z=> (As (p2 - O)).bind fun a0=> Option.bind (if 2≤a0 then((As (O+1)).bind fun a1=> Option.bind (iter (Se fuel p2) fuel (a1,Z)) fun a2=> some a2) else(some Z)) fun a3=> (As (K.2.1+1)).bind fun a4=> some (.more (O,a4,a3))))) else(some (.done (Sum.inr K.2.2)))
def f183(fuel:Nat)(p0:List Bu)(p1:Int)(p2:Int):Option (Bool×(List Bu)):= (As (p1+1)).bind fun K=> Option.bind (iter (MF fuel p1 p2) fuel (K,0,p0)) fun O=> Sum.elim (fun r=>some r) (fun U=> some (false,U)) O
theorem SM{K:Nat}{O:Nat}{U:Nat}{bO:Array Value}{p0:List (Bu)}{p1:Int}{p2:Int}(hW:WL 133 Cv E K O U bO p0){fuel:Nat}{r:Bool×(List Bu)}(b7:f183 fuel p0 p1 p2=some r):AK J 183 [.slice (AZ K) U O,iV p1,iV p2,(fV 134)] E [(K,.cells bO 133 (0,0))] (fun w E' B'=>∃(b8:Array Value),w= .bool r.1∧B'= [(K,.cells b8 133 (0,0))]∧WL 133 Cv E' K O U b8 r.2):=by
 refine A4 func183 fun Q fY cs H c3 bP=>?_;unfold f183 at b7;obtain⟨fZ,c4,c5⟩:=bs b7;refine zg 7 rfl (Bb c4 rfl rfl rfl ?_);obtain⟨b9,c6,bQ⟩:=bs c5;refine zg 7 rfl (Bt (fun L s=>∃(bR:(List Bu)) (bS:LH) (f18:Array Value),b9=Sum.inr bR∧Jn E H bS [bX K f18 133] [] L s (WL 133 Cv bS K O U f18 bR)) ?_ ?_)
 ·rintro _ _ ⟨bR,bS,f18,rfl,rfl,rfl,c7,c8,c9⟩;have da:=elim_inr bQ;refine zg 4 rfl ?_;obtain rfl:=oi da;exact AD func183 rfl rfl (bP c7 rfl ⟨f18,rfl,(by first | rfl | simp | (simp [Value.cells])),c9⟩ c8)
 ·intro db;refine JL.block (CN c6 (fun L s Z=>∃(bx:LH) (f27:Array Value),Jn E H bx [bX K f27 133] [(0,.slice (AZ K) U O),(1,iV p1),(2,iV p2),(3,(fV 134)),(9,iV Z.1),(10,iV Z.2.1)] L s (WL 133 Cv bx K O U f27 Z.2.2)) ⟨E,bO,rfl,rfl,Ar,c3,hW⟩ ?_);rintro _ _ Z ⟨bx,f27,rfl,rfl,bz,ca,ag⟩ bT ⟨ga,be⟩ dc;have cb:=be;unfold MF at cb;refine zg 6 rfl (AL cb (fun dd de=>?_) (fun dd df=>?_))
  ·obtain⟨a2,dg,dh⟩:=bs de;refine zg 4 rfl (CM [bX K f27 133] [(0,.slice (AZ K) U O),(1,iV p1),(2,iV p2),(3,(fV 134)),(9,iV a2),(10,iV Z.2.1)] (fun bf a3 bg=>?_) (fun di=>?_))
   ·refine zg 7 rfl (AL dh (fun dj dk=>?_) (fun dj dl=>?_))
    ·refine zg 4 rfl ?_;obtain rfl:=oi dk;obtain rfl:=bT _ be;have dm:=elim_inl bQ;obtain rfl:=oi dm;exact AD func183 rfl rfl (bP (bz.Ab a3) rfl ⟨f27,rfl,(by first | rfl | simp | (simp [Value.cells])),(ag.Ah a3)⟩ bg)
    ·obtain⟨gb,dn,dp⟩:=bs dl;refine zg 6 rfl (Cg dn rfl rfl rfl ?_);refine zg 2 rfl (AL dp (fun dq dr=>?_) (fun dq dt=>?_))
     ·refine zg 4 rfl ?_;obtain rfl:=oi dr;obtain rfl:=bT _ be;have du:=elim_inl bQ;obtain rfl:=oi du;exact AD func183 rfl rfl (bP (bz.Ab a3) rfl ⟨f27,rfl,(by first | rfl | simp | (simp [Value.cells])),(ag.Ah a3)⟩ bg)
     ·refine zg 2 rfl (GZ [15,17] [K] mixed rfl ?_);refine Br 0 rfl rfl (Br 1 rfl rfl ?_);refine Br 2 rfl rfl (Br 3 rfl rfl ?_);obtain⟨cc,dv,dw⟩:=bs dt;refine GG 4 true rfl rfl (fun ρ h s' hs=>C9 (h _ _ rfl) (h _ _ rfl) dv) (Br 5 rfl rfl ?_);refine Br 6 rfl rfl ?_;obtain⟨gc,dx,dy⟩:=bs dw;refine GG 7 true rfl rfl (fun ρ h s' hs=>C9 (h _ _ rfl) (h _ _ rfl) dx) ?_;obtain⟨al,cd,dz⟩:=bs dy;obtain⟨_,⟨_,_,rfl,rfl,⟨_,_,rfl,rfl,⟨bA,bB,rfl,dA⟩⟩⟩,dB⟩:=WL.at (ag.Ah a3) cd;refine Cz 8 ag.2 cd underlying130 AQ ?_;refine Eg 9 [iV al.1,iV al.2.1,sV bA al.2.2 bB] 0 bg dB Cq AQ ?_;refine Br 10 rfl rfl (Br 11 rfl rfl ?_);obtain⟨am,bC,dC⟩:=bs dz;obtain⟨_,⟨_,_,rfl,rfl,⟨_,_,rfl,rfl,⟨bD,bE,rfl,dD⟩⟩⟩,dE⟩:=WL.at (ag.Ah a3) bC;refine Cz 12 ag.2 bC underlying130 AQ ?_;refine Eg 13 [iV am.1,iV am.2.1,sV bD am.2.2 bE] 0 bg dE Cq AQ ?_;refine Cz 14 ag.2 bC underlying130 AQ ?_;have bh:=WL.put (x':=al) (ws':= [iV al.1,iV al.2.1,sV bA al.2.2 bB]) (ag.Ah a3) ag.2 bC ⟨_,_,rfl,rfl,⟨_,_,rfl,rfl,⟨_,_,rfl,dA⟩⟩⟩;refine Eh 15 0 bg AQ bh.2 fun dF=>?_;obtain⟨gd,bU,dG⟩:=bs dC;obtain⟨_,⟨_,_,rfl,rfl,⟨_,_,rfl,rfl,⟨ge,gf,rfl,gg⟩⟩⟩,gh⟩:=WL.at bh.1 bU;refine Cz 16 (bh.1).2 bU underlying130 AQ ?_;have bV:=WL.put (x':=am) (ws':= [iV am.1,iV am.2.1,sV bD am.2.2 bE]) bh.1 (bh.1).2 bU ⟨_,_,rfl,rfl,⟨_,_,rfl,rfl,⟨_,_,rfl,dD⟩⟩⟩;refine Eh 17 0 dF AQ bV.2 fun ce=>?_;refine JB.fin (by decide+kernel) ?_;obtain⟨gi,dH,dI⟩:=bs dG;refine zg 5 rfl (Cg dH rfl rfl rfl ?_);obtain⟨dJ,dK,dL⟩:=bs dI;refine zg 2 rfl (Bt (fun L s=>∃(a4:LH) (f99:Array Value),Jn bf H a4 [bX K f99 133] [(0,.slice (AZ K) U O),(1,iV p1),(2,iV p2),(3,(fV 134)),(9,iV a2),(10,iV Z.2.1)] L s (WL 133 Cv a4 K O U f99 dJ)) ?_ ?_)
      ·rintro _ _ ⟨a4,f99,rfl,rfl,dM,cf,cg⟩;obtain⟨gj,dN,dO⟩:=bs dL;refine zg 4 rfl (Cg dN rfl rfl rfl ?_);obtain⟨ci,dP,dQ⟩:=bs dO;refine zg 2 rfl (Bt (fun L s=>∃(bF:LH) (f109:Array Value),Jn a4 H bF [bX K f109 133] [(0,.slice (AZ K) U O),(1,iV p1),(2,iV p2),(3,(fV 134)),(9,iV a2),(10,iV Z.2.1)] L s (WL 133 Cv bF K O U f109 ci)) ?_ ?_)
       ·rintro _ _ ⟨bF,f109,rfl,rfl,dR,dS,dT⟩;obtain⟨dU,dV,dW⟩:=bs dQ;refine zg 3 rfl (Bb dV rfl rfl rfl ?_);refine zg 2 rfl ?_;obtain rfl:=oi dW;exact Az (dc _ _ (a2,dU,ci) ⟨bF,f109,rfl,rfl,(((bz.Ab a3).Ab dM).Ab dR),dS,dT⟩ be) rfl
       ·intro ck;refine AL dP (fun dX dY=>?_) (fun dX dZ=>?_)
        ·obtain⟨gk,ea,eb⟩:=bs dY;refine zg 3 rfl (Bb ea rfl rfl rfl ?_);obtain⟨ec,ed,ee⟩:=bs eb;refine zg 2 rfl (Bt (fun L s=>∃(bG:LH) (f134:Array Value),Jn a4 H bG [bX K f134 133] [(0,.slice (AZ K) U O),(1,iV p1),(2,iV p2),(3,(fV 134)),(9,iV a2),(10,iV Z.2.1)] L s (WL 133 Cv bG K O U f134 ec)) ?_ ?_)
         ·rintro _ _ ⟨bG,f134,rfl,rfl,ef,eg,eh⟩;obtain rfl:=oi ee;exact Az (ck _ _ ⟨bG,f134,rfl,rfl,ef,eg,eh⟩) rfl
         ·intro cm;refine JL.block (CN ed (fun L s a5=>∃(bH:LH) (f142:Array Value),Jn a4 H bH [bX K f142 133] [(0,.slice (AZ K) U O),(1,iV p1),(2,iV p2),(3,(fV 134)),(9,iV a2),(10,iV Z.2.1),(12,iV a5.1)] L s (WL 133 Cv bH K O U f142 a5.2)) ⟨a4,f99,rfl,rfl,Ar,cf,cg⟩ ?_);rintro _ _ a5 ⟨bH,f142,rfl,rfl,bW,bi,ap⟩ cn ⟨gl,bI⟩ ei;have co:=bI;unfold Se at co;refine zg 7 rfl (AL co (fun ej ek=>?_) (fun ej el=>?_))
          ·refine zg 5 rfl (Dl 10 [K] ⟨⟨0,_,rfl⟩,trivial⟩ bi fun ht=>?_);refine AW ht rfl [0,1,2] rfl ?_;obtain⟨V,bj,em⟩:=bs ek;obtain⟨_,⟨_,_,rfl,rfl,⟨_,_,rfl,rfl,⟨bl,bm,rfl,cp⟩⟩⟩,cq⟩:=WL.at ap bj;refine F2 3 ht (ap).2 bj underlying130 AQ ?_;refine D4 4 ht [iV V.1,iV V.2.1,sV bl V.2.2 bm] 0 bi cq Cq AQ ?_;refine AW ht rfl [5,6] rfl ?_;obtain⟨gm,en,eo⟩:=bs em;refine By 7 ht rfl rfl (fun ρ h s' hs=>C9 (h _ _ rfl) (h _ _ rfl) en) ?_;obtain⟨a6,cr,ep⟩:=bs eo;obtain⟨_,⟨_,_,rfl,rfl,⟨_,_,rfl,rfl,⟨ct,cu,rfl,eq⟩⟩⟩,er⟩:=WL.at ap cr;refine F2 8 ht (ap).2 cr underlying130 AQ ?_;refine D4 9 ht [iV a6.1,iV a6.2.1,sV ct a6.2.2 cu] 0 bi er Cq AQ ?_;refine Cc [10,11,12] ?_;obtain⟨et,eu,ew⟩:=bs ep;refine Kz (vs:= [.agg #[iV V.1,iV V.2.1,sV bl V.2.2 bm],.agg #[iV a6.1,iV a6.2.1,sV ct a6.2.2 cu]]) (G1 cp eq eu) rfl rfl rfl rfl GR rfl bi ?_;rintro _ cv _ a7 ⟨rfl,rfl⟩ bJ;refine zg 1 rfl (AF (v:= .bool (decide (¬(et<0)))) rfl (fun ρ h=>I1 (h _ _ rfl)) ?_);refine JL.done (AL ew (fun ex ey=>?_) (fun ex ez=>?_))
           ·refine JL.exit rfl ?_;obtain rfl:=oi ey;obtain rfl:=cn _ bI;exact Az (cm _ _ ⟨cv,f142,rfl,rfl,(bW.Ab a7),bJ,(ap.Ah a7)⟩) rfl
           ·refine JL.skip (GZ [15,17] [K] mixed rfl ?_);refine Br 0 rfl rfl (Br 1 rfl rfl ?_);refine Br 2 rfl rfl (Br 3 rfl rfl ?_);obtain⟨cw,eA,eB⟩:=bs ez;refine GG 4 true rfl rfl (fun ρ h s' hs=>C9 (h _ _ rfl) (h _ _ rfl) eA) (Br 5 rfl rfl ?_);refine Br 6 rfl rfl ?_;obtain⟨gn,eC,eD⟩:=bs eB;refine GG 7 true rfl rfl (fun ρ h s' hs=>C9 (h _ _ rfl) (h _ _ rfl) eC) ?_;obtain⟨a0,cy,eE⟩:=bs eD;obtain⟨_,⟨_,_,rfl,rfl,⟨_,_,rfl,rfl,⟨bY,bZ,rfl,eF⟩⟩⟩,eG⟩:=WL.at (ap.Ah a7) cy;refine Cz 8 ap.2 cy underlying130 AQ ?_;refine Eg 9 [iV a0.1,iV a0.2.1,sV bY a0.2.2 bZ] 0 bJ eG Cq AQ ?_;refine Br 10 rfl rfl (Br 11 rfl rfl ?_);refine Cz 12 ap.2 bj underlying130 AQ ?_;refine Eg 13 [iV V.1,iV V.2.1,sV bl V.2.2 bm] 0 bJ cq Cq AQ ?_;refine Cz 14 ap.2 bj underlying130 AQ ?_;have bn:=WL.put (x':=a0) (ws':= [iV a0.1,iV a0.2.1,sV bY a0.2.2 bZ]) (ap.Ah a7) ap.2 bj ⟨_,_,rfl,rfl,⟨_,_,rfl,rfl,⟨_,_,rfl,eF⟩⟩⟩;refine Eh 15 0 bJ AQ bn.2 fun eH=>?_;obtain⟨gp,b0,eI⟩:=bs eE;obtain⟨_,⟨_,_,rfl,rfl,⟨_,_,rfl,rfl,⟨gq,gr,rfl,gt⟩⟩⟩,gu⟩:=WL.at bn.1 b0;refine Cz 16 (bn.1).2 b0 underlying130 AQ ?_;have cz:=WL.put (x':=V) (ws':= [iV V.1,iV V.2.1,sV bl V.2.2 bm]) bn.1 (bn.1).2 b0 ⟨_,_,rfl,rfl,⟨_,_,rfl,rfl,⟨_,_,rfl,(cp.Ah a7)⟩⟩⟩;refine Eh 17 0 eH AQ cz.2 fun eJ=>?_;refine JB.fin (by decide+kernel) ?_;obtain⟨eK,eL,eM⟩:=bs eI;refine zg 3 rfl (Bb eL rfl rfl rfl ?_);refine zg 2 rfl ?_;obtain rfl:=oi eM;exact Az (ei _ _ (eK,((a5.2.set (Int.toNat a5.1) a0).set (Int.toNat cw) V)) ⟨cv,(A0 (A0 f142 (Int.toNat (a5.1)*3) [iV a0.1,iV a0.2.1,sV bY a0.2.2 bZ]) (Int.toNat (cw)*3) [iV V.1,iV V.2.1,sV bl V.2.2 bm]),rfl,rfl,(bW.Ab a7),eJ,cz.1⟩ bI) rfl
          ·refine JL.exit rfl ?_;obtain rfl:=oi el;obtain rfl:=cn _ bI;exact Az (cm _ _ ⟨bH,f142,rfl,rfl,bW,bi,ap⟩) rfl
        ·refine JL.skip ?_;obtain rfl:=oi dZ;exact Az (ck _ _ ⟨a4,f99,rfl,rfl,Ar,cf,cg⟩) rfl
      ·intro cA;refine AL dK (fun eN eO=>?_) (fun eN eP=>?_)
       ·obtain⟨gv,eQ,eR⟩:=bs eO;refine zg 3 rfl (Cg eQ rfl rfl rfl ?_);obtain⟨eS,eT,eU⟩:=bs eR;refine zg 2 rfl (Bt (fun L s=>∃(bK:LH) (f224:Array Value),Jn bf H bK [bX K f224 133] [(0,.slice (AZ K) U O),(1,iV p1),(2,iV p2),(3,(fV 134)),(9,iV a2),(10,iV Z.2.1)] L s (WL 133 Cv bK K O U f224 eS)) ?_ ?_)
        ·rintro _ _ ⟨bK,f224,rfl,rfl,eV,eW,eX⟩;obtain rfl:=oi eU;exact Az (cA _ _ ⟨bK,f224,rfl,rfl,eV,eW,eX⟩) rfl
        ·intro cB;refine JL.block (CN eT (fun L s a8=>∃(bL:LH) (f232:Array Value),Jn bf H bL [bX K f232 133] [(0,.slice (AZ K) U O),(1,iV p1),(2,iV p2),(3,(fV 134)),(9,iV a2),(10,iV Z.2.1),(11,iV a8.1)] L s (WL 133 Cv bL K O U f232 a8.2)) ⟨bf,(A0 (A0 f27 (Int.toNat (a2)*3) [iV al.1,iV al.2.1,sV bA al.2.2 bB]) (Int.toNat (cc)*3) [iV am.1,iV am.2.1,sV bD am.2.2 bE]),rfl,rfl,Ar,ce,bV.1⟩ ?_);rintro _ _ a8 ⟨bL,f232,rfl,rfl,b1,bo,av⟩ cC ⟨gw,bM⟩ eY;have cD:=bM;unfold RA at cD;refine zg 6 rfl (AL cD (fun eZ e0=>?_) (fun eZ e1=>?_))
         ·refine zg 5 rfl (Dl 10 [K] ⟨⟨0,_,rfl⟩,trivial⟩ bo fun ht=>?_);refine AW ht rfl [0,1,2] rfl ?_;obtain⟨Y,bp,e2⟩:=bs e0;obtain⟨_,⟨_,_,rfl,rfl,⟨_,_,rfl,rfl,⟨bq,br,rfl,cE⟩⟩⟩,cF⟩:=WL.at av bp;refine F2 3 ht (av).2 bp underlying130 AQ ?_;refine D4 4 ht [iV Y.1,iV Y.2.1,sV bq Y.2.2 br] 0 bo cF Cq AQ ?_;refine AW ht rfl [5,6] rfl ?_;obtain⟨gx,e3,e4⟩:=bs e2;refine By 7 ht rfl rfl (fun ρ h s' hs=>C9 (h _ _ rfl) (h _ _ rfl) e3) ?_;obtain⟨a9,cG,e5⟩:=bs e4;obtain⟨_,⟨_,_,rfl,rfl,⟨_,_,rfl,rfl,⟨cH,cI,rfl,e6⟩⟩⟩,e7⟩:=WL.at av cG;refine F2 8 ht (av).2 cG underlying130 AQ ?_;refine D4 9 ht [iV a9.1,iV a9.2.1,sV cH a9.2.2 cI] 0 bo e7 Cq AQ ?_;refine Cc [10,11,12] ?_;obtain⟨e8,e9,fa⟩:=bs e5;refine Kz (vs:= [.agg #[iV Y.1,iV Y.2.1,sV bq Y.2.2 br],.agg #[iV a9.1,iV a9.2.1,sV cH a9.2.2 cI]]) (G1 cE e6 e9) rfl rfl rfl rfl GR rfl bo ?_;rintro _ cJ _ ba ⟨rfl,rfl⟩ bN;refine zg 1 rfl (AF (v:= .bool (decide (¬(e8<0)))) rfl (fun ρ h=>I1 (h _ _ rfl)) ?_);refine JL.done (AL fa (fun fb fc=>?_) (fun fb fd=>?_))
          ·refine JL.exit rfl ?_;obtain rfl:=oi fc;obtain rfl:=cC _ bM;exact Az (cB _ _ ⟨cJ,f232,rfl,rfl,(b1.Ab ba),bN,(av.Ah ba)⟩) rfl
          ·refine JL.skip (GZ [15,17] [K] mixed rfl ?_);refine Br 0 rfl rfl (Br 1 rfl rfl ?_);refine Br 2 rfl rfl (Br 3 rfl rfl ?_);obtain⟨cK,fe,ff⟩:=bs fd;refine GG 4 true rfl rfl (fun ρ h s' hs=>C9 (h _ _ rfl) (h _ _ rfl) fe) (Br 5 rfl rfl ?_);refine Br 6 rfl rfl ?_;obtain⟨gy,fg,fh⟩:=bs ff;refine GG 7 true rfl rfl (fun ρ h s' hs=>C9 (h _ _ rfl) (h _ _ rfl) fg) ?_;obtain⟨a1,cM,fj⟩:=bs fh;obtain⟨_,⟨_,_,rfl,rfl,⟨_,_,rfl,rfl,⟨b2,b3,rfl,fk⟩⟩⟩,fm⟩:=WL.at (av.Ah ba) cM;refine Cz 8 av.2 cM underlying130 AQ ?_;refine Eg 9 [iV a1.1,iV a1.2.1,sV b2 a1.2.2 b3] 0 bN fm Cq AQ ?_;refine Br 10 rfl rfl (Br 11 rfl rfl ?_);refine Cz 12 av.2 bp underlying130 AQ ?_;refine Eg 13 [iV Y.1,iV Y.2.1,sV bq Y.2.2 br] 0 bN cF Cq AQ ?_;refine Cz 14 av.2 bp underlying130 AQ ?_;have bu:=WL.put (x':=a1) (ws':= [iV a1.1,iV a1.2.1,sV b2 a1.2.2 b3]) (av.Ah ba) av.2 bp ⟨_,_,rfl,rfl,⟨_,_,rfl,rfl,⟨_,_,rfl,fk⟩⟩⟩;refine Eh 15 0 bN AQ bu.2 fun fo=>?_;obtain⟨gz,b4,fp⟩:=bs fj;obtain⟨_,⟨_,_,rfl,rfl,⟨_,_,rfl,rfl,⟨gA,gB,rfl,gC⟩⟩⟩,gD⟩:=WL.at bu.1 b4;refine Cz 16 (bu.1).2 b4 underlying130 AQ ?_;have cN:=WL.put (x':=Y) (ws':= [iV Y.1,iV Y.2.1,sV bq Y.2.2 br]) bu.1 (bu.1).2 b4 ⟨_,_,rfl,rfl,⟨_,_,rfl,rfl,⟨_,_,rfl,(cE.Ah ba)⟩⟩⟩;refine Eh 17 0 fo AQ cN.2 fun fq=>?_;refine JB.fin (by decide+kernel) ?_;obtain⟨fs,fu,fv⟩:=bs fp;refine zg 3 rfl (Cg fu rfl rfl rfl ?_);refine zg 2 rfl ?_;obtain rfl:=oi fv;exact Az (eY _ _ (fs,((a8.2.set (Int.toNat a8.1) a1).set (Int.toNat cK) Y)) ⟨cJ,(A0 (A0 f232 (Int.toNat (a8.1)*3) [iV a1.1,iV a1.2.1,sV b2 a1.2.2 b3]) (Int.toNat (cK)*3) [iV Y.1,iV Y.2.1,sV bq Y.2.2 br]),rfl,rfl,(b1.Ab ba),fq,cN.1⟩ bM) rfl
         ·refine JL.exit rfl ?_;obtain rfl:=oi e1;obtain rfl:=cC _ bM;exact Az (cB _ _ ⟨bL,f232,rfl,rfl,b1,bo,av⟩) rfl
       ·refine JL.skip ?_;obtain rfl:=oi eP;exact Az (cA _ _ ⟨bf,(A0 (A0 f27 (Int.toNat (a2)*3) [iV al.1,iV al.2.1,sV bA al.2.2 bB]) (Int.toNat (cc)*3) [iV am.1,iV am.2.1,sV bD am.2.2 bE]),rfl,rfl,Ar,ce,bV.1⟩) rfl
   ·refine JL.block (Cu dg (fun bv=> [bX K f27 133]) (fun bv=> [(0,.slice (AZ K) U O),(1,iV p1),(2,iV p2),(3,(fV 134)),(9,iV bv),(10,iV Z.2.1)]) Ar ca ?_);rintro bv cO bb bw fw ⟨gE,b5⟩ fx;have cP:=b5;unfold IY at cP;refine zg 2 rfl (Dl 18 [K] ⟨⟨0,_,rfl⟩,trivial⟩ bw fun ht=>?_);refine AW ht rfl [0,1,2,3] rfl ?_;obtain⟨fy,cQ,fz⟩:=bs cP;refine Ed 0 #[true,true,true,true,true,true,true,true,true,true,true,true,true,true,true,true,true,true] (fun L s=>∃(cR:LH),Jm cO H cR [bX K f27 133] [(0,.slice (AZ K) U O),(1,iV p1),(2,iV p2),(3,(fV 134)),(9,iV bv),(10,iV Z.2.1),(36,.bool fy)] L s) ?_ ?_
    ·rintro _ _ ⟨cR,rfl,rfl,cT,cV⟩;refine AU.fin (by decide+kernel) (BJ fz (fun fA fB=>?_) (fun fA fC=>?_))
     ·obtain⟨fD,fE,fF⟩:=bs fB;refine zg 4 rfl (Bb fE rfl rfl rfl ?_);refine zg 3 rfl ?_;obtain rfl:=oi fF;exact fx fD (bb.Ab cT) cV rfl b5
     ·refine JL.exit rfl ?_;obtain rfl:=oi fC;obtain rfl:=fw _ b5;exact di (bb.Ab cT) cV rfl
    ·intro cW;refine Fa (q:=bv<p2) (i:=22) rfl (fun b6=>?_) (fun b6=>?_)
     ·have fG:=ip cQ b6;refine AW ht rfl [4,5,6] rfl ?_;obtain⟨bc,cX,fH⟩:=bs fG;obtain⟨_,⟨_,_,rfl,rfl,⟨_,_,rfl,rfl,⟨cY,cZ,rfl,fI⟩⟩⟩,fJ⟩:=WL.at (ag.Ah bb) cX;refine By 7 ht rfl rfl (fun ρ h s' hs=>Gx ((ag.Ah bb)).2 cX underlying130 AQ (h _ _ rfl) (h _ _ rfl)) ?_;refine D4 8 ht [iV bc.1,iV bc.2.1,sV cY bc.2.2 cZ] 0 bw fJ Cq AQ ?_;refine AW ht rfl [9,10] rfl ?_;obtain⟨gF,fK,fL⟩:=bs fH;refine By 11 ht rfl rfl (fun ρ h s' hs=>C9 (h _ _ rfl) (h _ _ rfl) fK) ?_;obtain⟨bd,c0,fM⟩:=bs fL;obtain⟨_,⟨_,_,rfl,rfl,⟨_,_,rfl,rfl,⟨c1,c2,rfl,fN⟩⟩⟩,fO⟩:=WL.at (ag.Ah bb) c0;refine By 12 ht rfl rfl (fun ρ h s' hs=>Gx ((ag.Ah bb)).2 c0 underlying130 AQ (h _ _ rfl) (h _ _ rfl)) ?_;refine D4 13 ht [iV bd.1,iV bd.2.1,sV c1 bd.2.2 c2] 0 bw fO Cq AQ ?_;obtain⟨fP,fQ,fR⟩:=bs fM;refine HG (i:=14) ⟨⟨0,_,rfl⟩,trivial⟩ (vs:= [.agg #[iV bc.1,iV bc.2.1,sV cY bc.2.2 cZ],.agg #[iV bd.1,iV bd.2.1,sV c1 bd.2.2 c2]]) (G1 fI fN fQ) (by decide+kernel) rfl rfl rfl rfl GR rfl bw ?_;rintro _ fS _ fT ⟨rfl,rfl⟩ fU;refine B4 15 ht rfl rfl ?_;refine By (v:= .bool (decide (¬(fP<0)))) 16 ht rfl rfl (fun ρ h s' hs=>I1 (h _ _ rfl)) ?_;refine B4 17 ht rfl rfl ?_;obtain rfl:=oi fR;refine CE ?_ (cW _ _ ⟨fS,rfl,rfl,fT,fU⟩);exact⟨rfl,rfl,rfl,rfl,rfl,rfl,rfl,trivial⟩
     ·have fW:=im cQ b6;refine AW ht rfl [4,5,6,7,8,9,10,11,12,13,14,15,16,17] rfl ?_;obtain rfl:=oi fW;refine CE ?_ (cW _ _ ⟨cO,rfl,rfl,Ar,bw⟩);exact⟨rfl,rfl,rfl,rfl,rfl,rfl,rfl,trivial⟩
  ·refine JL.exit rfl ?_;obtain rfl:=oi df;have fX:b9=(Sum.inr Z.2.2):=(bT _ be).symm;exact Az (db _ _ ⟨Z.2.2,bx,f27,fX,rfl,rfl,bz,ca,ag⟩) rfl
def KN(fuel:Nat)(p0:List Bu)(p1:Int)(p3:Int)(O:Bu)(U:Bu)(V:Int)(K:Int):Option (Bh Int Int):= Option.bind (if K≤V then((ix ((p0.set (Int.toNat p1) O).set (Int.toNat p3) U) K).bind fun Y=> (ix ((p0.set (Int.toNat p1) O).set (Int.toNat p3) U) p1).bind fun Z=> (f134 fuel Y Z).bind fun ag=> some (decide (ag<0))) else(some false)) fun al=> if al=true then((As (K+1)).bind fun am=> some (.more am)) else(some (.done K))
def KM(fuel:Nat)(p0:List Bu)(p1:Int)(p3:Int)(O:Bu)(U:Bu)(V:Int)(K:Int):Option (Bh Int Int):= Option.bind (if V≤K then((ix ((p0.set (Int.toNat p1) O).set (Int.toNat p3) U) K).bind fun Y=> (ix ((p0.set (Int.toNat p1) O).set (Int.toNat p3) U) p1).bind fun Z=> (f134 fuel Y Z).bind fun ag=> some (decide (¬(ag<0)))) else(some false)) fun al=> if al=true then((As (K - 1)).bind fun am=> some (.more am)) else(some (.done K))
def JI(fuel:Nat)(p1:Int)(O:Int×Int×(List Bu))(K:Int):Option (Bh Int Int):= Option.bind (if K≤O.2.1 then((ix O.2.2 K).bind fun U=> (ix O.2.2 p1).bind fun V=> (f134 fuel U V).bind fun Y=> some (decide (Y<0))) else(some false)) fun Z=> if Z=true then((As (K+1)).bind fun ag=> some (.more ag)) else(some (.done K))
def JE(fuel:Nat)(p1:Int)(O:Int×Int×(List Bu))(U:Int)(K:Int):Option (Bh Int Int):= Option.bind (if U≤K then((ix O.2.2 K).bind fun V=> (ix O.2.2 p1).bind fun Y=> (f134 fuel V Y).bind fun Z=> some (decide (¬(Z<0)))) else(some false)) fun ag=> if ag=true then((As (K - 1)).bind fun al=> some (.more al)) else(some (.done K))
def IZ(fuel:Nat)(p1:Int)(K:Int×Int×(List Bu)):Option (Bh (Int×Int×(List Bu)) (Int×(List Bu))):= Option.bind (iter (JI fuel p1 K) fuel K.1) fun O=> Option.bind (iter (JE fuel p1 K O) fuel K.2.1) fun U=> if U<O then(some (.done (U,K.2.2))) else((ix K.2.2 U).bind fun V=> (ix K.2.2 O).bind fun Y=> (As (O+1)).bind fun Z=> (As (U - 1)).bind fun ag=> some (.more (Z,ag,((K.2.2.set (Int.toNat O) V).set (Int.toNat U) Y))))
def f185(fuel:Nat)(p0:List Bu)(p1:Int)(p2:Int)(p3:Int):Option (Int×Bool×(List Bu)):= (ix p0 p3).bind fun K=> (ix p0 p1).bind fun O=> (As (p1+1)).bind fun ag=> (As (p2 - 1)).bind fun Z=> Option.bind (iter (KN fuel p0 p1 p3 K O Z) fuel ag) fun Y=> Option.bind (iter (KM fuel p0 p1 p3 K O Y) fuel Z) fun U=> if U<Y then((ix ((p0.set (Int.toNat p1) K).set (Int.toNat p3) O) p1).bind fun al=> (ix ((p0.set (Int.toNat p1) K).set (Int.toNat p3) O) U).bind fun am=> some (U,true,((((p0.set (Int.toNat p1) K).set (Int.toNat p3) O).set (Int.toNat U) al).set (Int.toNat p1) am))) else((ix ((p0.set (Int.toNat p1) K).set (Int.toNat p3) O) U).bind fun ap=> (ix ((p0.set (Int.toNat p1) K).set (Int.toNat p3) O) Y).bind fun av=> (As (Y+1)).bind fun a0=> (As (U - 1)).bind fun a1=> Option.bind (iter (IZ fuel p1) fuel (a0,a1,((((p0.set (Int.toNat p1) K).set (Int.toNat p3) O).set (Int.toNat Y) ap).set (Int.toNat U) av))) fun V=> (ix V.2 p1).bind fun a2=> (ix V.2 V.1).bind fun a3=> some (V.1,false,((V.2.set (Int.toNat V.1) a2).set (Int.toNat p1) a3)))
theorem Sz{K:Nat}{Y:Nat}{Z:Nat}{av:Array Value}{p0:List (Bu)}{p1:Int}{p2:Int}{p3:Int}(hW:WL 133 Cv E K Y Z av p0){fuel:Nat}{r:Int×Bool×(List Bu)}(ct:f185 fuel p0 p1 p2 p3=some r):AK J 185 [.slice (AZ K) Z Y,iV p1,iV p2,iV p3,(fV 134)] E [(K,.cells av 133 (0,0))] (fun w E' B'=>∃(cu:Array Value),w= .tuple #[iV r.1,.bool r.2.1]∧B'= [(K,.cells cu 133 (0,0))]∧WL 133 Cv E' K Y Z cu r.2.2):=by
 refine A4 func185 fun Q gY cs H bQ cv=>?_;unfold f185 at ct;refine zg 6 rfl (GZ [13,15] [K] mixed rfl ?_);refine Br 0 rfl rfl (Br 1 rfl rfl ?_);refine Br 2 rfl rfl (Br 3 rfl rfl ?_);refine Br 4 rfl rfl (Br 5 rfl rfl ?_);obtain⟨O,bG,dF⟩:=bs ct;obtain⟨_,⟨_,_,rfl,rfl,⟨_,_,rfl,rfl,⟨a0,c4,rfl,dG⟩⟩⟩,dH⟩:=WL.at hW bG;refine Cz 6 hW.2 bG underlying130 AQ ?_;refine Eg 7 [iV O.1,iV O.2.1,sV a0 O.2.2 c4] 0 bQ dH Cq AQ ?_;refine Br 8 rfl rfl (Br 9 rfl rfl ?_);obtain⟨U,bw,dI⟩:=bs dF;obtain⟨_,⟨_,_,rfl,rfl,⟨_,_,rfl,rfl,⟨a1,a2,rfl,dJ⟩⟩⟩,dK⟩:=WL.at hW bw;refine Cz 10 hW.2 bw underlying130 AQ ?_;refine Eg 11 [iV U.1,iV U.2.1,sV a1 U.2.2 a2] 0 bQ dK Cq AQ ?_;refine Cz 12 hW.2 bw underlying130 AQ ?_;have cw:=WL.put (x':=O) (ws':= [iV O.1,iV O.2.1,sV a0 O.2.2 c4]) hW hW.2 bw ⟨_,_,rfl,rfl,⟨_,_,rfl,rfl,⟨_,_,rfl,dG⟩⟩⟩;refine Eh 13 0 bQ AQ cw.2 fun dL=>?_;refine Cz 14 hW.2 bG underlying130 AQ ?_;have V:=WL.put (x':=U) (ws':= [iV U.1,iV U.2.1,sV a1 U.2.2 a2]) cw.1 hW.2 bG ⟨_,_,rfl,rfl,⟨_,_,rfl,rfl,⟨_,_,rfl,dJ⟩⟩⟩;refine Eh 15 0 dL AQ V.2 fun dM=>?_;refine JB.fin (by decide+kernel) ?_;obtain⟨gZ,dN,dO⟩:=bs dI;refine zg 3 rfl (Bb dN rfl rfl rfl ?_);obtain⟨bH,dP,dQ⟩:=bs dO;refine zg 1 rfl (Cg dP rfl rfl rfl ?_);obtain⟨be,dR,dS⟩:=bs dQ;refine zg 4 rfl (CM [bX K (A0 (A0 av (Int.toNat (p1)*3) [iV O.1,iV O.2.1,sV a0 O.2.2 c4]) (Int.toNat (p3)*3) [iV U.1,iV U.2.1,sV a1 U.2.2 a2]) 133] [(0,.slice (AZ K) Z Y),(1,iV p1),(4,(fV 134)),(12,iV be),(13,iV bH)] (fun g0 al dT=>?_) (fun dU=>?_))
 ·obtain⟨bR,dV,dW⟩:=bs dS;refine JL.seq (CM [bX K (A0 (A0 av (Int.toNat (p1)*3) [iV O.1,iV O.2.1,sV a0 O.2.2 c4]) (Int.toNat (p3)*3) [iV U.1,iV U.2.1,sV a1 U.2.2 a2]) 133] [(0,.slice (AZ K) Z Y),(1,iV p1),(4,(fV 134)),(12,iV be),(13,iV bR)] (fun bS bc bf=>?_) (fun dX=>?_))
  ·refine zg 7 rfl (AL dW (fun dY dZ=>?_) (fun dY ea=>?_))
   ·refine JL.seq (GZ [13,15] [K] mixed rfl ?_);refine Br 0 rfl rfl (Br 1 rfl rfl ?_);refine Br 2 rfl rfl (Br 3 rfl rfl ?_);refine Br 4 rfl rfl (Br 5 rfl rfl ?_);refine Cz 6 hW.2 bw underlying130 AQ ?_;obtain⟨a3,bT,eb⟩:=bs dZ;obtain⟨_,⟨_,_,rfl,rfl,⟨_,_,rfl,rfl,⟨bU,bV,rfl,ec⟩⟩⟩,ed⟩:=WL.at (V.1.Ah (al.Ab bc)) bT;refine Eg 7 [iV a3.1,iV a3.2.1,sV bU a3.2.2 bV] 0 bf ed Cq AQ ?_;refine Br 8 rfl rfl (Br 9 rfl rfl ?_);obtain⟨a4,bI,ee⟩:=bs eb;obtain⟨_,⟨_,_,rfl,rfl,⟨_,_,rfl,rfl,⟨bW,bY,rfl,ef⟩⟩⟩,eg⟩:=WL.at (V.1.Ah (al.Ab bc)) bI;refine Cz 10 (V.1).2 bI underlying130 AQ ?_;refine Eg 11 [iV a4.1,iV a4.2.1,sV bW a4.2.2 bY] 0 bf eg Cq AQ ?_;refine Cz 12 (V.1).2 bI underlying130 AQ ?_;have cy:=WL.put (x':=a3) (ws':= [iV a3.1,iV a3.2.1,sV bU a3.2.2 bV]) (V.1.Ah (al.Ab bc)) (V.1).2 bI ⟨_,_,rfl,rfl,⟨_,_,rfl,rfl,⟨_,_,rfl,ec⟩⟩⟩;refine Eh 13 0 bf AQ cy.2 fun eh=>?_;refine Cz 14 (V.1).2 bT underlying130 AQ ?_;have cz:=WL.put (x':=a4) (ws':= [iV a4.1,iV a4.2.1,sV bW a4.2.2 bY]) cy.1 (V.1).2 bT ⟨_,_,rfl,rfl,⟨_,_,rfl,rfl,⟨_,_,rfl,ef⟩⟩⟩;refine Eh 15 0 eh AQ cz.2 fun ei=>?_;refine JB.fin (by decide+kernel) (zg 6 rfl ?_);obtain rfl:=oi ee;exact AD func185 rfl rfl (cv (al.Ab bc) rfl ⟨(A0 (A0 (A0 (A0 av (Int.toNat (p1)*3) [iV O.1,iV O.2.1,sV a0 O.2.2 c4]) (Int.toNat (p3)*3) [iV U.1,iV U.2.1,sV a1 U.2.2 a2]) (Int.toNat (bR)*3) [iV a3.1,iV a3.2.1,sV bU a3.2.2 bV]) (Int.toNat (p1)*3) [iV a4.1,iV a4.2.1,sV bW a4.2.2 bY]),rfl,(by first | rfl | simp | (simp [Value.cells])),cz.1⟩ ei)
   ·refine zg 2 rfl (GZ [13,15] [K] mixed rfl ?_);refine Br 0 rfl rfl (Br 1 rfl rfl ?_);refine Br 2 rfl rfl (Br 3 rfl rfl ?_);refine Br 4 rfl rfl (Br 5 rfl rfl ?_);obtain⟨a5,bJ,ej⟩:=bs ea;obtain⟨_,⟨_,_,rfl,rfl,⟨_,_,rfl,rfl,⟨bZ,b0,rfl,ek⟩⟩⟩,el⟩:=WL.at (V.1.Ah (al.Ab bc)) bJ;refine Cz 6 (V.1).2 bJ underlying130 AQ ?_;refine Eg 7 [iV a5.1,iV a5.2.1,sV bZ a5.2.2 b0] 0 bf el Cq AQ ?_;refine Br 8 rfl rfl (Br 9 rfl rfl ?_);obtain⟨a6,bK,em⟩:=bs ej;obtain⟨_,⟨_,_,rfl,rfl,⟨_,_,rfl,rfl,⟨b1,b2,rfl,en⟩⟩⟩,eo⟩:=WL.at (V.1.Ah (al.Ab bc)) bK;refine Cz 10 (V.1).2 bK underlying130 AQ ?_;refine Eg 11 [iV a6.1,iV a6.2.1,sV b1 a6.2.2 b2] 0 bf eo Cq AQ ?_;refine Cz 12 (V.1).2 bK underlying130 AQ ?_;have cA:=WL.put (x':=a5) (ws':= [iV a5.1,iV a5.2.1,sV bZ a5.2.2 b0]) (V.1.Ah (al.Ab bc)) (V.1).2 bK ⟨_,_,rfl,rfl,⟨_,_,rfl,rfl,⟨_,_,rfl,ek⟩⟩⟩;refine Eh 13 0 bf AQ cA.2 fun ep=>?_;refine Cz 14 (V.1).2 bJ underlying130 AQ ?_;have cB:=WL.put (x':=a6) (ws':= [iV a6.1,iV a6.2.1,sV b1 a6.2.2 b2]) cA.1 (V.1).2 bJ ⟨_,_,rfl,rfl,⟨_,_,rfl,rfl,⟨_,_,rfl,en⟩⟩⟩;refine Eh 15 0 ep AQ cB.2 fun eq=>?_;refine JB.fin (by decide+kernel) ?_;obtain⟨g1,er,et⟩:=bs em;refine zg 3 rfl (Bb er rfl rfl rfl ?_);obtain⟨g3,eu,ew⟩:=bs et;refine zg 5 rfl (Cg eu rfl rfl rfl ?_);obtain⟨b3,ex,ey⟩:=bs ew;refine zg 3 rfl (Bt (fun L s=>∃(b4:LH) (f102:Array Value),Jn bS H b4 [bX K f102 133] [(0,.slice (AZ K) Z Y),(1,iV p1),(13,iV b3.1)] L s (WL 133 Cv b4 K Y Z f102 b3.2)) ?_ ?_)
    ·rintro _ _ ⟨b4,f102,rfl,rfl,ez,b5,ba⟩;refine JL.seq (GZ [13,15] [K] mixed rfl ?_);refine Br 0 rfl rfl (Br 1 rfl rfl ?_);refine Br 2 rfl rfl (Br 3 rfl rfl ?_);refine Br 4 rfl rfl (Br 5 rfl rfl ?_);obtain⟨a7,bL,eA⟩:=bs ey;obtain⟨_,⟨_,_,rfl,rfl,⟨_,_,rfl,rfl,⟨b6,b7,rfl,eB⟩⟩⟩,eC⟩:=WL.at ba bL;refine Cz 6 ba.2 bL underlying130 AQ ?_;refine Eg 7 [iV a7.1,iV a7.2.1,sV b6 a7.2.2 b7] 0 b5 eC Cq AQ ?_;refine Br 8 rfl rfl (Br 9 rfl rfl ?_);obtain⟨a8,bM,eD⟩:=bs eA;obtain⟨_,⟨_,_,rfl,rfl,⟨_,_,rfl,rfl,⟨b8,b9,rfl,eE⟩⟩⟩,eF⟩:=WL.at ba bM;refine Cz 10 ba.2 bM underlying130 AQ ?_;refine Eg 11 [iV a8.1,iV a8.2.1,sV b8 a8.2.2 b9] 0 b5 eF Cq AQ ?_;refine Cz 12 ba.2 bM underlying130 AQ ?_;have cC:=WL.put (x':=a7) (ws':= [iV a7.1,iV a7.2.1,sV b6 a7.2.2 b7]) ba ba.2 bM ⟨_,_,rfl,rfl,⟨_,_,rfl,rfl,⟨_,_,rfl,eB⟩⟩⟩;refine Eh 13 0 b5 AQ cC.2 fun eG=>?_;refine Cz 14 ba.2 bL underlying130 AQ ?_;have cD:=WL.put (x':=a8) (ws':= [iV a8.1,iV a8.2.1,sV b8 a8.2.2 b9]) cC.1 ba.2 bL ⟨_,_,rfl,rfl,⟨_,_,rfl,rfl,⟨_,_,rfl,eE⟩⟩⟩;refine Eh 15 0 eG AQ cD.2 fun eH=>?_;refine JB.fin (by decide+kernel) (zg 6 rfl ?_);obtain rfl:=oi eD;exact AD func185 rfl rfl (cv ((al.Ab bc).Ab ez) rfl ⟨(A0 (A0 f102 (Int.toNat (b3.1)*3) [iV a7.1,iV a7.2.1,sV b6 a7.2.2 b7]) (Int.toNat (p1)*3) [iV a8.1,iV a8.2.1,sV b8 a8.2.2 b9]),rfl,(by first | rfl | simp | (simp [Value.cells])),cD.1⟩ eH)
    ·intro eI;refine JL.block (CN ex (fun L s bb=>∃(ca:LH) (f127:Array Value),Jn bS H ca [bX K f127 133] [(0,.slice (AZ K) Z Y),(1,iV p1),(4,(fV 134)),(12,iV bb.1),(13,iV bb.2.1)] L s (WL 133 Cv ca K Y Z f127 bb.2.2)) ⟨bS,(A0 (A0 (A0 (A0 av (Int.toNat (p1)*3) [iV O.1,iV O.2.1,sV a0 O.2.2 c4]) (Int.toNat (p3)*3) [iV U.1,iV U.2.1,sV a1 U.2.2 a2]) (Int.toNat (be)*3) [iV a5.1,iV a5.2.1,sV bZ a5.2.2 b0]) (Int.toNat (bR)*3) [iV a6.1,iV a6.2.1,sV b1 a6.2.2 b2]),rfl,rfl,Ar,eq,cB.1⟩ ?_);rintro _ _ bb ⟨ca,f127,rfl,rfl,cE,eJ,ag⟩ eK ⟨g4,cb⟩ eL;have cF:=cb;unfold IZ at cF;obtain⟨bd,eM,eN⟩:=bs cF;refine zg 2 rfl (CM [bX K f127 133] [(0,.slice (AZ K) Z Y),(1,iV p1),(4,(fV 134)),(12,iV bd),(13,iV bb.2.1)] (fun g5 a9 eO=>?_) (fun eP=>?_))
     ·obtain⟨cc,eQ,eR⟩:=bs eN;refine JL.seq (CM [bX K f127 133] [(0,.slice (AZ K) Z Y),(1,iV p1),(4,(fV 134)),(12,iV bd),(13,iV cc)] (fun cG bg bN=>?_) (fun eS=>?_))
      ·refine zg 7 rfl (AL eR (fun eT eU=>?_) (fun eT eV=>?_))
       ·refine JL.exit rfl ?_;obtain rfl:=oi eU;obtain rfl:=eK _ cb;exact Az (eI _ _ ⟨cG,f127,rfl,rfl,((cE.Ab a9).Ab bg),bN,(ag.Ah (a9.Ab bg))⟩) rfl
       ·refine zg 2 rfl (GZ [13,15] [K] mixed rfl ?_);refine Br 0 rfl rfl (Br 1 rfl rfl ?_);refine Br 2 rfl rfl (Br 3 rfl rfl ?_);refine Br 4 rfl rfl (Br 5 rfl rfl ?_);obtain⟨am,bO,eW⟩:=bs eV;obtain⟨_,⟨_,_,rfl,rfl,⟨_,_,rfl,rfl,⟨cd,ce,rfl,eX⟩⟩⟩,eY⟩:=WL.at (ag.Ah (a9.Ab bg)) bO;refine Cz 6 ag.2 bO underlying130 AQ ?_;refine Eg 7 [iV am.1,iV am.2.1,sV cd am.2.2 ce] 0 bN eY Cq AQ ?_;refine Br 8 rfl rfl (Br 9 rfl rfl ?_);obtain⟨ap,bP,eZ⟩:=bs eW;obtain⟨_,⟨_,_,rfl,rfl,⟨_,_,rfl,rfl,⟨cf,cg,rfl,e0⟩⟩⟩,e1⟩:=WL.at (ag.Ah (a9.Ab bg)) bP;refine Cz 10 ag.2 bP underlying130 AQ ?_;refine Eg 11 [iV ap.1,iV ap.2.1,sV cf ap.2.2 cg] 0 bN e1 Cq AQ ?_;refine Cz 12 ag.2 bP underlying130 AQ ?_;have cH:=WL.put (x':=am) (ws':= [iV am.1,iV am.2.1,sV cd am.2.2 ce]) (ag.Ah (a9.Ab bg)) ag.2 bP ⟨_,_,rfl,rfl,⟨_,_,rfl,rfl,⟨_,_,rfl,eX⟩⟩⟩;refine Eh 13 0 bN AQ cH.2 fun e2=>?_;refine Cz 14 ag.2 bO underlying130 AQ ?_;have cI:=WL.put (x':=ap) (ws':= [iV ap.1,iV ap.2.1,sV cf ap.2.2 cg]) cH.1 ag.2 bO ⟨_,_,rfl,rfl,⟨_,_,rfl,rfl,⟨_,_,rfl,e0⟩⟩⟩;refine Eh 15 0 e2 AQ cI.2 fun e3=>?_;refine JB.fin (by decide+kernel) ?_;obtain⟨e4,e5,e6⟩:=bs eZ;refine zg 3 rfl (Bb e5 rfl rfl rfl ?_);obtain⟨e7,e8,e9⟩:=bs e6;refine zg 4 rfl (Cg e8 rfl rfl rfl ?_);refine zg 3 rfl ?_;obtain rfl:=oi e9;exact Az (eL _ _ (e4,e7,((bb.2.2.set (Int.toNat bd) am).set (Int.toNat cc) ap)) ⟨cG,(A0 (A0 f127 (Int.toNat (bd)*3) [iV am.1,iV am.2.1,sV cd am.2.2 ce]) (Int.toNat (cc)*3) [iV ap.1,iV ap.2.1,sV cf ap.2.2 cg]),rfl,rfl,((cE.Ab a9).Ab bg),e3,cI.1⟩ cb) rfl
      ·refine JL.block (Cu eQ (fun bx=> [bX K f127 133]) (fun bx=> [(0,.slice (AZ K) Z Y),(1,iV p1),(4,(fV 134)),(12,iV bd),(13,iV bx)]) Ar eO ?_);rintro bx cJ bh bz fa ⟨g6,ci⟩ fb;have cK:=ci;unfold JE at cK;refine zg 2 rfl (Dl 17 [K] ⟨⟨0,_,rfl⟩,trivial⟩ bz fun ht=>?_);refine AW ht rfl [0,1,2,3] rfl ?_;obtain⟨fc,cM,fd⟩:=bs cK;refine Ed 0 #[true,true,true,true,true,true,true,true,true,true,true,true,true,true,true,true,true] (fun L s=>∃(cN:LH),Jm cJ H cN [bX K f127 133] [(0,.slice (AZ K) Z Y),(1,iV p1),(4,(fV 134)),(12,iV bd),(13,iV bx),(139,.bool fc)] L s) ?_ ?_
       ·rintro _ _ ⟨cN,rfl,rfl,cO,cP⟩;refine AU.fin (by decide+kernel) (BJ fd (fun fe ff=>?_) (fun fe fg=>?_))
        ·obtain⟨fh,fj,fk⟩:=bs ff;refine zg 4 rfl (Cg fj rfl rfl rfl ?_);refine zg 3 rfl ?_;obtain rfl:=oi fk;exact fb fh (bh.Ab cO) cP rfl ci
        ·refine JL.exit rfl ?_;obtain rfl:=oi fg;obtain rfl:=fa _ ci;exact eS (bh.Ab cO) cP rfl
       ·intro cQ;refine Fa (q:=bd≤bx) (i:=126) rfl (fun ck=>?_) (fun ck=>?_)
        ·have fm:=ip cM ck;refine AW ht rfl [4,5,6] rfl ?_;obtain⟨bi,cR,fo⟩:=bs fm;obtain⟨_,⟨_,_,rfl,rfl,⟨_,_,rfl,rfl,⟨cT,cV,rfl,fp⟩⟩⟩,fq⟩:=WL.at (ag.Ah (a9.Ab bh)) cR;refine By 7 ht rfl rfl (fun ρ h s' hs=>Gx ((ag.Ah (a9.Ab bh))).2 cR underlying130 AQ (h _ _ rfl) (h _ _ rfl)) ?_;refine D4 8 ht [iV bi.1,iV bi.2.1,sV cT bi.2.2 cV] 0 bz fq Cq AQ ?_;refine AW ht rfl [9,10] rfl ?_;obtain⟨bj,cW,fs⟩:=bs fo;obtain⟨_,⟨_,_,rfl,rfl,⟨_,_,rfl,rfl,⟨cX,cY,rfl,fu⟩⟩⟩,fv⟩:=WL.at (ag.Ah (a9.Ab bh)) cW;refine By 11 ht rfl rfl (fun ρ h s' hs=>Gx ((ag.Ah (a9.Ab bh))).2 cW underlying130 AQ (h _ _ rfl) (h _ _ rfl)) ?_;refine D4 12 ht [iV bj.1,iV bj.2.1,sV cX bj.2.2 cY] 0 bz fv Cq AQ ?_;obtain⟨fw,fx,fy⟩:=bs fs;refine HG (i:=13) ⟨⟨0,_,rfl⟩,trivial⟩ (vs:= [.agg #[iV bi.1,iV bi.2.1,sV cT bi.2.2 cV],.agg #[iV bj.1,iV bj.2.1,sV cX bj.2.2 cY]]) (G1 fp fu fx) (by decide+kernel) rfl rfl rfl rfl GR rfl bz ?_;rintro _ fz _ fA ⟨rfl,rfl⟩ fB;refine B4 14 ht rfl rfl ?_;refine By (v:= .bool (decide (¬(fw<0)))) 15 ht rfl rfl (fun ρ h s' hs=>I1 (h _ _ rfl)) ?_;refine B4 16 ht rfl rfl ?_;obtain rfl:=oi fy;refine CE ?_ (cQ _ _ ⟨fz,rfl,rfl,fA,fB⟩);exact⟨rfl,rfl,rfl,rfl,rfl,rfl,trivial⟩
        ·have fC:=im cM ck;refine AW ht rfl [4,5,6,7,8,9,10,11,12,13,14,15,16] rfl ?_;obtain rfl:=oi fC;refine CE ?_ (cQ _ _ ⟨cJ,rfl,rfl,Ar,bz⟩);exact⟨rfl,rfl,rfl,rfl,rfl,rfl,trivial⟩
     ·refine JL.block (Cu eM (fun bA=> [bX K f127 133]) (fun bA=> [(0,.slice (AZ K) Z Y),(1,iV p1),(4,(fV 134)),(12,iV bA),(13,iV bb.2.1)]) Ar eJ ?_);rintro bA cZ bl bB fD ⟨g7,cm⟩ fE;have c0:=cm;unfold JI at c0;refine zg 2 rfl (Dl 16 [K] ⟨⟨0,_,rfl⟩,trivial⟩ bB fun ht=>?_);refine AW ht rfl [0,1,2,3] rfl ?_;obtain⟨fF,c1,fG⟩:=bs c0;refine Ed 0 #[true,true,true,true,true,true,true,true,true,true,true,true,true,true,true,true] (fun L s=>∃(c2:LH),Jm cZ H c2 [bX K f127 133] [(0,.slice (AZ K) Z Y),(1,iV p1),(4,(fV 134)),(12,iV bA),(13,iV bb.2.1),(120,.bool fF)] L s) ?_ ?_
      ·rintro _ _ ⟨c2,rfl,rfl,c3,c5⟩;refine AU.fin (by decide+kernel) (BJ fG (fun fH fI=>?_) (fun fH fJ=>?_))
       ·obtain⟨fK,fL,fM⟩:=bs fI;refine zg 4 rfl (Bb fL rfl rfl rfl ?_);refine zg 3 rfl ?_;obtain rfl:=oi fM;exact fE fK (bl.Ab c3) c5 rfl cm
       ·refine JL.exit rfl ?_;obtain rfl:=oi fJ;obtain rfl:=fD _ cm;exact eP (bl.Ab c3) c5 rfl
      ·intro c6;refine Fa (q:=bA≤bb.2.1) (i:=108) rfl (fun cn=>?_) (fun cn=>?_)
       ·have fN:=ip c1 cn;refine AW ht rfl [4,5,6] rfl ?_;obtain⟨bm,c7,fO⟩:=bs fN;obtain⟨_,⟨_,_,rfl,rfl,⟨_,_,rfl,rfl,⟨c8,c9,rfl,fP⟩⟩⟩,fQ⟩:=WL.at (ag.Ah bl) c7;refine By 7 ht rfl rfl (fun ρ h s' hs=>Gx ((ag.Ah bl)).2 c7 underlying130 AQ (h _ _ rfl) (h _ _ rfl)) ?_;refine D4 8 ht [iV bm.1,iV bm.2.1,sV c8 bm.2.2 c9] 0 bB fQ Cq AQ ?_;refine AW ht rfl [9,10] rfl ?_;obtain⟨bn,da,fR⟩:=bs fO;obtain⟨_,⟨_,_,rfl,rfl,⟨_,_,rfl,rfl,⟨db,dc,rfl,fS⟩⟩⟩,fT⟩:=WL.at (ag.Ah bl) da;refine By 11 ht rfl rfl (fun ρ h s' hs=>Gx ((ag.Ah bl)).2 da underlying130 AQ (h _ _ rfl) (h _ _ rfl)) ?_;refine D4 12 ht [iV bn.1,iV bn.2.1,sV db bn.2.2 dc] 0 bB fT Cq AQ ?_;obtain⟨g8,fU,fW⟩:=bs fR;refine HG (i:=13) ⟨⟨0,_,rfl⟩,trivial⟩ (vs:= [.agg #[iV bm.1,iV bm.2.1,sV c8 bm.2.2 c9],.agg #[iV bn.1,iV bn.2.1,sV db bn.2.2 dc]]) (G1 fP fS fU) (by decide+kernel) rfl rfl rfl rfl GR rfl bB ?_;rintro _ fX _ fY ⟨rfl,rfl⟩ fZ;refine AW ht rfl [14,15] rfl ?_;obtain rfl:=oi fW;refine CE ?_ (c6 _ _ ⟨fX,rfl,rfl,fY,fZ⟩);exact⟨rfl,rfl,rfl,rfl,rfl,rfl,trivial⟩
       ·have ga:=im c1 cn;refine AW ht rfl [4,5,6,7,8,9,10,11,12,13,14,15] rfl ?_;obtain rfl:=oi ga;refine CE ?_ (c6 _ _ ⟨cZ,rfl,rfl,Ar,bB⟩);exact⟨rfl,rfl,rfl,rfl,rfl,rfl,trivial⟩
  ·refine JL.block (Cu dV (fun bC=> [bX K (A0 (A0 av (Int.toNat (p1)*3) [iV O.1,iV O.2.1,sV a0 O.2.2 c4]) (Int.toNat (p3)*3) [iV U.1,iV U.2.1,sV a1 U.2.2 a2]) 133]) (fun bC=> [(0,.slice (AZ K) Z Y),(1,iV p1),(4,(fV 134)),(12,iV be),(13,iV bC)]) Ar dT ?_);rintro bC dd bo bD gb ⟨g9,co⟩ gc;have de:=co;unfold KM at de;refine zg 2 rfl (Dl 17 [K] ⟨⟨0,_,rfl⟩,trivial⟩ bD fun ht=>?_);refine AW ht rfl [0,1,2,3] rfl ?_;obtain⟨gd,df,ge⟩:=bs de;refine Ed 0 #[true,true,true,true,true,true,true,true,true,true,true,true,true,true,true,true,true] (fun L s=>∃(dg:LH),Jm dd H dg [bX K (A0 (A0 av (Int.toNat (p1)*3) [iV O.1,iV O.2.1,sV a0 O.2.2 c4]) (Int.toNat (p3)*3) [iV U.1,iV U.2.1,sV a1 U.2.2 a2]) 133] [(0,.slice (AZ K) Z Y),(1,iV p1),(4,(fV 134)),(12,iV be),(13,iV bC),(66,.bool gd)] L s) ?_ ?_
   ·rintro _ _ ⟨dg,rfl,rfl,dh,di⟩;refine AU.fin (by decide+kernel) (BJ ge (fun gf gg=>?_) (fun gf gh=>?_))
    ·obtain⟨gi,gj,gk⟩:=bs gg;refine zg 4 rfl (Cg gj rfl rfl rfl ?_);refine zg 3 rfl ?_;obtain rfl:=oi gk;exact gc gi (bo.Ab dh) di rfl co
    ·refine JL.exit rfl ?_;obtain rfl:=oi gh;obtain rfl:=gb _ co;exact dX (bo.Ab dh) di rfl
   ·intro dj;refine Fa (q:=be≤bC) (i:=53) rfl (fun cp=>?_) (fun cp=>?_)
    ·have gl:=ip df cp;refine AW ht rfl [4,5,6] rfl ?_;obtain⟨bp,dk,gm⟩:=bs gl;obtain⟨_,⟨_,_,rfl,rfl,⟨_,_,rfl,rfl,⟨dl,dm,rfl,gn⟩⟩⟩,gp⟩:=WL.at (V.1.Ah (al.Ab bo)) dk;refine By 7 ht rfl rfl (fun ρ h s' hs=>Gx ((V.1.Ah (al.Ab bo))).2 dk underlying130 AQ (h _ _ rfl) (h _ _ rfl)) ?_;refine D4 8 ht [iV bp.1,iV bp.2.1,sV dl bp.2.2 dm] 0 bD gp Cq AQ ?_;refine AW ht rfl [9,10] rfl ?_;obtain⟨bq,dn,gq⟩:=bs gm;obtain⟨_,⟨_,_,rfl,rfl,⟨_,_,rfl,rfl,⟨dp,dq,rfl,gr⟩⟩⟩,gt⟩:=WL.at (V.1.Ah (al.Ab bo)) dn;refine By 11 ht rfl rfl (fun ρ h s' hs=>Gx ((V.1.Ah (al.Ab bo))).2 dn underlying130 AQ (h _ _ rfl) (h _ _ rfl)) ?_;refine D4 12 ht [iV bq.1,iV bq.2.1,sV dp bq.2.2 dq] 0 bD gt Cq AQ ?_;obtain⟨gu,gv,gw⟩:=bs gq;refine HG (i:=13) ⟨⟨0,_,rfl⟩,trivial⟩ (vs:= [.agg #[iV bp.1,iV bp.2.1,sV dl bp.2.2 dm],.agg #[iV bq.1,iV bq.2.1,sV dp bq.2.2 dq]]) (G1 gn gr gv) (by decide+kernel) rfl rfl rfl rfl GR rfl bD ?_;rintro _ gx _ gy ⟨rfl,rfl⟩ gz;refine B4 14 ht rfl rfl ?_;refine By (v:= .bool (decide (¬(gu<0)))) 15 ht rfl rfl (fun ρ h s' hs=>I1 (h _ _ rfl)) ?_;refine B4 16 ht rfl rfl ?_;obtain rfl:=oi gw;refine CE ?_ (dj _ _ ⟨gx,rfl,rfl,gy,gz⟩);exact⟨rfl,rfl,rfl,rfl,rfl,rfl,trivial⟩
    ·have gA:=im df cp;refine AW ht rfl [4,5,6,7,8,9,10,11,12,13,14,15,16] rfl ?_;obtain rfl:=oi gA;refine CE ?_ (dj _ _ ⟨dd,rfl,rfl,Ar,bD⟩);exact⟨rfl,rfl,rfl,rfl,rfl,rfl,trivial⟩
 ·refine JL.block (Cu dR (fun bE=> [bX K (A0 (A0 av (Int.toNat (p1)*3) [iV O.1,iV O.2.1,sV a0 O.2.2 c4]) (Int.toNat (p3)*3) [iV U.1,iV U.2.1,sV a1 U.2.2 a2]) 133]) (fun bE=> [(0,.slice (AZ K) Z Y),(1,iV p1),(4,(fV 134)),(12,iV bE),(13,iV bH)]) Ar dM ?_);rintro bE dr br bF gB ⟨ha,cq⟩ gC;have dt:=cq;unfold KN at dt;refine zg 2 rfl (Dl 16 [K] ⟨⟨0,_,rfl⟩,trivial⟩ bF fun ht=>?_);refine AW ht rfl [0,1,2,3] rfl ?_;obtain⟨gD,du,gE⟩:=bs dt;refine Ed 0 #[true,true,true,true,true,true,true,true,true,true,true,true,true,true,true,true] (fun L s=>∃(dv:LH),Jm dr H dv [bX K (A0 (A0 av (Int.toNat (p1)*3) [iV O.1,iV O.2.1,sV a0 O.2.2 c4]) (Int.toNat (p3)*3) [iV U.1,iV U.2.1,sV a1 U.2.2 a2]) 133] [(0,.slice (AZ K) Z Y),(1,iV p1),(4,(fV 134)),(12,iV bE),(13,iV bH),(47,.bool gD)] L s) ?_ ?_
  ·rintro _ _ ⟨dv,rfl,rfl,dw,dx⟩;refine AU.fin (by decide+kernel) (BJ gE (fun gF gG=>?_) (fun gF gH=>?_))
   ·obtain⟨gI,gJ,gK⟩:=bs gG;refine zg 4 rfl (Bb gJ rfl rfl rfl ?_);refine zg 3 rfl ?_;obtain rfl:=oi gK;exact gC gI (br.Ab dw) dx rfl cq
   ·refine JL.exit rfl ?_;obtain rfl:=oi gH;obtain rfl:=gB _ cq;exact dU (br.Ab dw) dx rfl
  ·intro dy;refine Fa (q:=bE≤bH) (i:=35) rfl (fun cr=>?_) (fun cr=>?_)
   ·have gL:=ip du cr;refine AW ht rfl [4,5,6] rfl ?_;obtain⟨bu,dz,gM⟩:=bs gL;obtain⟨_,⟨_,_,rfl,rfl,⟨_,_,rfl,rfl,⟨dA,dB,rfl,gN⟩⟩⟩,gO⟩:=WL.at (V.1.Ah br) dz;refine By 7 ht rfl rfl (fun ρ h s' hs=>Gx ((V.1.Ah br)).2 dz underlying130 AQ (h _ _ rfl) (h _ _ rfl)) ?_;refine D4 8 ht [iV bu.1,iV bu.2.1,sV dA bu.2.2 dB] 0 bF gO Cq AQ ?_;refine AW ht rfl [9,10] rfl ?_;obtain⟨bv,dC,gP⟩:=bs gM;obtain⟨_,⟨_,_,rfl,rfl,⟨_,_,rfl,rfl,⟨dD,dE,rfl,gQ⟩⟩⟩,gR⟩:=WL.at (V.1.Ah br) dC;refine By 11 ht rfl rfl (fun ρ h s' hs=>Gx ((V.1.Ah br)).2 dC underlying130 AQ (h _ _ rfl) (h _ _ rfl)) ?_;refine D4 12 ht [iV bv.1,iV bv.2.1,sV dD bv.2.2 dE] 0 bF gR Cq AQ ?_;obtain⟨hb,gS,gT⟩:=bs gP;refine HG (i:=13) ⟨⟨0,_,rfl⟩,trivial⟩ (vs:= [.agg #[iV bu.1,iV bu.2.1,sV dA bu.2.2 dB],.agg #[iV bv.1,iV bv.2.1,sV dD bv.2.2 dE]]) (G1 gN gQ gS) (by decide+kernel) rfl rfl rfl rfl GR rfl bF ?_;rintro _ gU _ gV ⟨rfl,rfl⟩ gW;refine AW ht rfl [14,15] rfl ?_;obtain rfl:=oi gT;refine CE ?_ (dy _ _ ⟨gU,rfl,rfl,gV,gW⟩);exact⟨rfl,rfl,rfl,rfl,rfl,rfl,trivial⟩
   ·have gX:=im du cr;refine AW ht rfl [4,5,6,7,8,9,10,11,12,13,14,15] rfl ?_;obtain rfl:=oi gX;refine CE ?_ (dy _ _ ⟨dr,rfl,rfl,Ar,bF⟩);exact⟨rfl,rfl,rfl,rfl,rfl,rfl,trivial⟩
end Pal
namespace Pal
open Go Go.Conc Go.Proofs
open Go.Proofs.Tryz
variable {J:Judge Tryz.prog}{E:LH}
def Mm(fuel:Nat)(p0:List Bu)(p1:Int)(p2:Int)(p3:Int)(a8:Unit):Option (Bh Unit (((List Bu))⊕(Unit))):= (As (p2 - p1)).bind fun Z=> if Z≤12 then((f178 fuel p0 p1 p2).bind fun ag=> some (.done (Sum.inl ag))) else(if p3=0 then(none) else((f181 fuel p0 p1 p2).bind fun O=> Option.bind (if O.2=2 then((f182 fuel p0 p1 p2).bind fun al=> (As (p2 - 1)).bind fun am=> (As (O.1 - p1)).bind fun ap=> (As (am - ap)).bind fun av=> some (av,1,al)) else(some (O.1,O.2,p0))) fun K=> Option.bind (if K.2.1=1 then((f183 fuel K.2.2 p1 p2).bind fun U=> if U.1=true then(some (Sum.inl U.2)) else(some (Sum.inr U.2))) else(some (Sum.inr K.2.2))) fun a0=>Sum.elim (fun r=>some (.done (Sum.inl r))) (fun V=> Option.bind (if 0<p1 then((As (p1 - 1)).bind fun a1=> (ix V a1).bind fun a2=> (ix V K.1).bind fun a3=> (f134 fuel a2 a3).bind fun a4=> some (decide (¬(a4<0)))) else(some false)) fun a5=> if a5=true then(none) else((f185 fuel V p1 p2 K.1).bind fun Y=> (As (Y.1 - p1)).bind fun a6=> (As (p2 - Y.1)).bind fun a7=> (Hw Z (8)).bind fun a9=> if a6<a7 then(none) else((As (Y.1+1)).bind fun ba=> none))) a0))
def IA(fuel:Nat)(p0:List Bu)(p1:Int)(p2:Int)(p3:Int):Option ((List Bu)):= Option.bind (iter (Mm fuel p0 p1 p2 p3) fuel ()) fun K=> Sum.elim (fun r=>some r) (fun O=> none) K
theorem Sk{K:Nat}{O:Nat}{U:Nat}{a0:Array Value}{p0:List (Bu)}{p1:Int}{p2:Int}{p3:Int}(hW:WL 133 Cv E K O U a0 p0){fuel:Nat}{r:(List Bu)}(a6:IA fuel p0 p1 p2 p3=some r):AK J 162 [.slice (AZ K) U O,iV p1,iV p2,iV p3,(fV 134)] E [(K,.cells a0 133 (0,0))] (fun w E' B'=>∃(a7:Array Value),w= .tuple #[]∧B'= [(K,.cells a7 133 (0,0))]∧WL 133 Cv E' K O U a7 r):=by
 refine A4 func162 fun Q db cs H bB a8=>?_;unfold IA at a6;obtain⟨dc,bC,a9⟩:=bs a6;refine zg 8 rfl (Bt (fun L s=>False) ?_ ?_)
 ·intro _ _ bD;exact bD.elim
 ·intro dd;refine JL.block (Cu bC (fun ba=> [bX K a0 133]) (fun ba=> [(0,.slice (AZ K) U O),(1,iV p1),(2,iV p2),(3,iV p3),(4,(fV 134)),(10,.bool true),(11,.bool true)]) Ar bB ?_);rintro ba de V bb bc ⟨df,a1⟩ dg;have bd:=a1;unfold Mm at bd;obtain⟨a2,bE,bF⟩:=bs bd;refine zg 5 rfl (Cg bE rfl rfl rfl ?_);refine zg 8 rfl (AL bF (fun bG bH=>?_) (fun bG bI=>?_))
  ·obtain⟨dh,bJ,bK⟩:=bs bH;refine zg 6 rfl (B6 0 (SW (hW.Ah V) bJ) rfl rfl NW bb rfl ?_);rintro _ di _ bL ⟨f32,rfl,rfl,bM⟩ bN;refine JL.done ?_;obtain rfl:=oi bK;obtain rfl:=bc _ a1;have bO:=elim_inl a9;obtain rfl:=oi bO;exact AD func162 rfl rfl (a8 (V.Ab bL) rfl ⟨f32,rfl,(by first | rfl | simp | (simp [Value.cells])),bM⟩ bN)
  ·refine zg 7 rfl (AL bI (fun bP bQ=>?_) (fun bP bR=>?_))
   ·refine zg 6 rfl ?_;cases bQ
   ·refine zg 5 rfl (AF (v:= .bool false) rfl (fun ρ h=>Yl.not (c:=true) (h _ _ rfl)) ?_);obtain⟨dj,bS,bT⟩:=bs bR;refine zg 9 rfl (B6 0 (SG (hW.Ah V) bS) rfl rfl (AS func181 rfl) bb rfl ?_);rintro _ be _ a3 ⟨rfl,rfl⟩ bf;obtain⟨Y,bU,bV⟩:=bs bT;refine zg 12 rfl (Bt (fun L s=>∃(al:LH) (f56:Array Value),Jn be H al [bX K f56 133] [(0,.slice (AZ K) U O),(1,iV p1),(2,iV p2),(3,iV p3),(4,(fV 134)),(10,.bool true),(11,.bool true),(12,iV a2),(13,iV Y.1),(14,iV Y.2.1)] L s (WL 133 Cv al K O U f56 Y.2.2)) ?_ ?_)
    ·rintro _ _ ⟨al,f56,rfl,rfl,bW,bg,bh⟩;obtain⟨bY,bZ,bi⟩:=bs bV;refine zg 12 rfl (Bt (fun L s=>∃(a4:(List Bu)) (am:LH) (f65:Array Value),bY=Sum.inr a4∧Jn al H am [bX K f65 133] [(0,.slice (AZ K) U O),(1,iV p1),(2,iV p2),(3,iV p3),(4,(fV 134)),(10,.bool true),(11,.bool true),(12,iV a2),(13,iV Y.1)] L s (WL 133 Cv am K O U f65 a4)) ?_ ?_)
     ·rintro _ _ ⟨a4,am,f65,rfl,rfl,rfl,dk,ap,av⟩;have b0:=elim_inr bi;refine zg 2 rfl (Dl 17 [K] ⟨⟨0,_,rfl⟩,trivial⟩ ap fun ht=>?_);refine AW ht rfl [0,1,2] rfl ?_;obtain⟨b1,bj,b2⟩:=bs b0;refine Ed 0 #[true,true,true,true,true,true,true,true,true,true,true,true,true,true,true,true,true] (fun L s=>∃(bl:LH),Jm am H bl [bX K f65 133] [(0,.slice (AZ K) U O),(1,iV p1),(2,iV p2),(3,iV p3),(4,(fV 134)),(10,.bool true),(11,.bool true),(12,iV a2),(13,iV Y.1),(97,.bool b1)] L s) ?_ ?_
      ·rintro _ _ ⟨bl,rfl,rfl,b3,b4⟩;refine AU.fin (by decide+kernel) (BJ b2 (fun b5 b6=>?_) (fun b5 b7=>?_))
       ·refine zg 7 rfl ?_;cases b6
       ·obtain⟨dl,b8,b9⟩:=bs b7;refine zg 8 rfl (B6 0 (Sz (av.Ah b3) b8) rfl rfl (AS func185 rfl) b4 rfl ?_);rintro _ dm _ dn ⟨f83,rfl,rfl,dp⟩ dq;obtain⟨dr,ca,cb⟩:=bs b9;refine zg 15 rfl (Cg ca rfl rfl rfl ?_);obtain⟨dt,cc,cd⟩:=bs cb;refine zg 2 rfl (Cg cc rfl rfl rfl ?_);obtain⟨ce,cf,cg⟩:=bs cd;refine zg 6 rfl (AF (v:=iV ce) rfl (fun ρ h=>KZ (h _ _ rfl) (h _ _ rfl) cf) ?_);refine zg 8 rfl (AL cg (fun ci ck=>?_) (fun ci cm=>?_))
        ·refine zg 14 rfl ?_;cases ck
        ·obtain⟨du,cn,co⟩:=bs cm;refine zg 11 rfl (Bb cn rfl rfl rfl ?_);refine zg 3 rfl ?_;cases co
      ·intro bm;refine Fa (q:=0<p1) (i:=83) rfl (fun a5=>?_) (fun a5=>?_)
       ·have cp:=ip bj a5;refine AW ht rfl [3,4,5] rfl ?_;obtain⟨dv,cq,cr⟩:=bs cp;refine By 6 ht rfl rfl (fun ρ h s' hs=>C9 (h _ _ rfl) (h _ _ rfl) cq) ?_;obtain⟨Z,bn,ct⟩:=bs cr;obtain⟨_,⟨_,_,rfl,rfl,⟨_,_,rfl,rfl,⟨bo,bp,rfl,cu⟩⟩⟩,cv⟩:=WL.at av bn;refine F2 7 ht (av).2 bn underlying130 AQ ?_;refine D4 8 ht [iV Z.1,iV Z.2.1,sV bo Z.2.2 bp] 0 ap cv Cq AQ ?_;refine AW ht rfl [9,10] rfl ?_;obtain⟨ag,bq,cw⟩:=bs ct;obtain⟨_,⟨_,_,rfl,rfl,⟨_,_,rfl,rfl,⟨br,bu,rfl,cy⟩⟩⟩,cz⟩:=WL.at av bq;refine F2 11 ht (av).2 bq underlying130 AQ ?_;refine D4 12 ht [iV ag.1,iV ag.2.1,sV br ag.2.2 bu] 0 ap cz Cq AQ ?_;obtain⟨cA,cB,cC⟩:=bs cw;refine HG (i:=13) ⟨⟨0,_,rfl⟩,trivial⟩ (vs:= [.agg #[iV Z.1,iV Z.2.1,sV bo Z.2.2 bp],.agg #[iV ag.1,iV ag.2.1,sV br ag.2.2 bu]]) (G1 cu cy cB) (by decide+kernel) rfl rfl rfl rfl GR rfl ap ?_;rintro _ cD _ cE ⟨rfl,rfl⟩ cF;refine B4 14 ht rfl rfl ?_;refine By (v:= .bool (decide (¬(cA<0)))) 15 ht rfl rfl (fun ρ h s' hs=>I1 (h _ _ rfl)) ?_;refine B4 16 ht rfl rfl ?_;obtain rfl:=oi cC;refine CE ?_ (bm _ _ ⟨cD,rfl,rfl,cE,cF⟩);exact⟨rfl,rfl,rfl,rfl,rfl,rfl,rfl,rfl,rfl,rfl,trivial⟩
       ·have cG:=im bj a5;refine AW ht rfl [3,4,5,6,7,8,9,10,11,12,13,14,15,16] rfl ?_;obtain rfl:=oi cG;refine CE ?_ (bm _ _ ⟨am,rfl,rfl,Ar,ap⟩);exact⟨rfl,rfl,rfl,rfl,rfl,rfl,rfl,rfl,rfl,rfl,trivial⟩
     ·intro bv;refine AL bZ (fun cH cI=>?_) (fun cH cJ=>?_)
      ·obtain⟨cK,cM,cN⟩:=bs cI;refine zg 6 rfl (B6 0 (SM bh cM) rfl rfl (AS func183 rfl) bg rfl ?_);rintro _ cO _ bw ⟨f133,rfl,rfl,bx⟩ bz;refine JL.done (BJ cN (fun cP cQ=>?_) (fun cP cR=>?_))
       ·obtain rfl:=oi cQ;have cT:=elim_inl bi;obtain rfl:=oi cT;obtain rfl:=bc _ a1;have cV:=elim_inl a9;obtain rfl:=oi cV;exact AD func162 rfl rfl (a8 (((V.Ab a3).Ab bW).Ab bw) rfl ⟨f133,rfl,(by first | rfl | simp | (simp [Value.cells])),bx⟩ bz)
       ·exact JL.skip (Az (bv _ _ ⟨cK.2,cO,f133,(Option.some.inj cR).symm,rfl,rfl,bw,bz,bx⟩) rfl)
      ·exact JL.skip (Az (bv _ _ ⟨Y.2.2,al,f56,(Option.some.inj cJ).symm,rfl,rfl,Ar,bg,bh⟩) rfl)
    ·intro bA;refine AL bU (fun cW cX=>?_) (fun cW cY=>?_)
     ·obtain⟨dw,cZ,c0⟩:=bs cX;refine zg 6 rfl (B6 0 (SU (hW.Ah (V.Ab a3)) cZ) rfl rfl (AS func182 rfl) bf rfl ?_);rintro _ c1 _ c2 ⟨f156,rfl,rfl,c3⟩ c4;obtain⟨dx,c5,c6⟩:=bs c0;refine zg 4 rfl (Cg c5 rfl rfl rfl ?_);obtain⟨dy,c7,c8⟩:=bs c6;refine zg 2 rfl (Cg c7 rfl rfl rfl ?_);obtain⟨dz,c9,da⟩:=bs c8;refine Cg c9 rfl rfl rfl (zg 5 rfl ?_);obtain rfl:=oi da;exact Az (bA _ _ ⟨c1,f156,rfl,rfl,c2,c4,c3⟩) rfl
     ·refine JL.skip ?_;obtain rfl:=oi cY;exact Az (bA _ _ ⟨be,a0,rfl,rfl,Ar,bf,(hW.Ah (V.Ab a3))⟩) rfl
def Hk(fuel:Nat)(p3:Int)(K:Int×Int×Bool×Bool×(List Bu)):Option (Bh (Int×Int×Bool×Bool×(List Bu)) (((List Bu))⊕(Unit))):= Option.bind ((As (K.2.1 - K.1)).bind fun al=> if al≤12 then((f178 fuel K.2.2.2.2 K.1 K.2.1).bind fun a0=> some (Sum.inl a0)) else(if p3=0 then(none) else(Option.bind (if(!K.2.2.1)=true then(none) else(some ())) fun bj=> (f181 fuel K.2.2.2.2 K.1 K.2.1).bind fun V=> Option.bind (if V.2=2 then((f182 fuel K.2.2.2.2 K.1 K.2.1).bind fun a1=> (As (K.2.1 - 1)).bind fun a2=> (As (V.1 - K.1)).bind fun a3=> (As (a2 - a3)).bind fun a4=> some (a4,1,a1)) else(some (V.1,V.2,K.2.2.2.2))) fun U=> Option.bind (if K.2.2.1=true then(some K.2.2.2.1) else(some false)) fun a5=> Option.bind (if a5=true then(some (decide (U.2.1=1))) else(some false)) fun a6=> Option.bind (if a6=true then((f183 fuel U.2.2 K.1 K.2.1).bind fun Z=> if Z.1=true then(some (Sum.inl Z.2)) else(some (Sum.inr Z.2))) else(some (Sum.inr U.2.2))) fun a7=>Sum.elim (fun r=>some (Sum.inl r)) (fun ag=> Option.bind (if 0<K.1 then((As (K.1 - 1)).bind fun a8=> (ix ag a8).bind fun a9=> (ix ag U.1).bind fun ba=> (f134 fuel a9 ba).bind fun bb=> some (decide (¬(bb<0)))) else(some false)) fun bc=> if bc=true then(none) else((f185 fuel ag K.1 K.2.1 U.1).bind fun O=> (As (O.1 - K.1)).bind fun am=> (As (K.2.1 - O.1)).bind fun ap=> (Hw al (8)).bind fun av=> Option.bind (if am<ap then((IA fuel O.2.2 K.1 O.1 p3).bind fun bd=> (As (O.1+1)).bind fun be=> some (be,K.2.1,decide (av≤am),bd)) else((As (O.1+1)).bind fun bf=> (IA fuel O.2.2 bf K.2.1 p3).bind fun bg=> some (K.1,O.1,decide (av≤ap),bg))) fun Y=> some (Sum.inr (Y.1,Y.2.1,Y.2.2.1,O.2.1,Y.2.2.2)))) a7))) fun bh=>Sum.elim (fun r=>some (.done (Sum.inl r))) (fun bi=> some (.more bi)) bh
def f162(fuel:Nat)(p0:List Bu)(p1:Int)(p2:Int)(p3:Int):Option ((List Bu)):= Option.bind (iter (Hk fuel p3) fuel (p1,p2,true,true,p0)) fun K=> Sum.elim (fun r=>some r) (fun O=> none) K
theorem YM{O:Nat}{U:Nat}{V:Nat}{bc:Array Value}{p0:List (Bu)}{p1:Int}{p2:Int}{p3:Int}(hW:WL 133 Cv E O U V bc p0){fuel:Nat}{r:(List Bu)}(bj:f162 fuel p0 p1 p2 p3=some r):AK J 162 [.slice (AZ O) V U,iV p1,iV p2,iV p3,(fV 134)] E [(O,.cells bc 133 (0,0))] (fun w E' B'=>∃(bl:Array Value),w= .tuple #[]∧B'= [(O,.cells bl 133 (0,0))]∧WL 133 Cv E' O U V bl r):=by
 refine A4 func162 fun Q ez cs H bY bm=>?_;unfold f162 at bj;obtain⟨eA,bZ,bn⟩:=bs bj;refine zg 8 rfl (Bt (fun L s=>False) ?_ ?_)
 ·intro _ _ b0;exact b0.elim
 ·intro eB;refine JL.block (CN bZ (fun L s K=>∃(a3:LH) (f22:Array Value),Jn E H a3 [bX O f22 133] [(0,.slice (AZ O) V U),(1,iV K.1),(2,iV K.2.1),(3,iV p3),(4,(fV 134)),(10,.bool K.2.2.1),(11,.bool K.2.2.2.1)] L s (WL 133 Cv a3 O U V f22 K.2.2.2.2)) ⟨E,bc,rfl,rfl,Ar,bY,hW⟩ ?_);rintro _ _ K ⟨a3,f22,rfl,rfl,bd,bo,a4⟩ bp ⟨eC,a5⟩ b1;have bq:=a5;unfold Hk at bq;obtain⟨b2,b3,be⟩:=bs bq;refine Bt (fun L s=>∃(Z:Int×Int×Bool×Bool×(List Bu)) (a6:LH) (f36:Array Value),b2=Sum.inr Z∧Jn a3 H a6 [bX O f36 133] [(0,.slice (AZ O) V U),(1,iV Z.1),(2,iV Z.2.1),(3,iV p3),(4,(fV 134)),(10,.bool Z.2.2.1),(11,.bool Z.2.2.2.1)] L s (WL 133 Cv a6 O U V f36 Z.2.2.2.2)) ?_ ?_
  ·rintro _ _ ⟨Z,a6,f36,rfl,rfl,rfl,b4,b5,b6⟩;have b7:=elim_inr be;obtain rfl:=oi b7;exact Az (b1 _ _ Z ⟨a6,f36,rfl,rfl,(bd.Ab b4),b5,b6⟩ a5) rfl
  ·intro b8;obtain⟨al,b9,ca⟩:=bs b3;refine zg 5 rfl (Cg b9 rfl rfl rfl ?_);refine zg 8 rfl (AL ca (fun cb cc=>?_) (fun cb cd=>?_))
   ·obtain⟨eD,ce,cf⟩:=bs cc;refine zg 6 rfl (B6 0 (SW a4 ce) rfl rfl NW bo rfl ?_);rintro _ eE _ cg ⟨f52,rfl,rfl,ci⟩ ck;refine JL.done ?_;obtain rfl:=oi cf;have cm:=elim_inl be;obtain rfl:=oi cm;obtain rfl:=bp _ a5;have cn:=elim_inl bn;obtain rfl:=oi cn;exact AD func162 rfl rfl (bm (bd.Ab cg) rfl ⟨f52,rfl,(by first | rfl | simp | (simp [Value.cells])),ci⟩ ck)
   ·refine zg 7 rfl (AL cd (fun co cp=>?_) (fun co cq=>?_))
    ·refine zg 6 rfl ?_;cases cp
    ·refine zg 5 rfl (AF (v:= .bool (!K.2.2.1)) rfl (fun ρ h=>Yl.not (h _ _ rfl)) ?_);obtain⟨eF,cr,ct⟩:=bs cq;refine JL.done (CM [bX O f22 133] [(0,.slice (AZ O) V U),(1,iV K.1),(2,iV K.2.1),(3,iV p3),(4,(fV 134)),(10,.bool K.2.2.1),(11,.bool K.2.2.2.1),(12,iV al)] (fun eG av cu=>?_) (fun cv=>?_))
     ·obtain⟨eH,cw,cy⟩:=bs ct;refine zg 6 rfl (B6 0 (SG (a4.Ah av) cw) rfl rfl (AS func181 rfl) cu rfl ?_);rintro _ br _ a7 ⟨rfl,rfl⟩ bu;obtain⟨Y,cz,cA⟩:=bs cy;refine zg 12 rfl (Bt (fun L s=>∃(bf:LH) (f84:Array Value),Jn br H bf [bX O f84 133] [(0,.slice (AZ O) V U),(1,iV K.1),(2,iV K.2.1),(3,iV p3),(4,(fV 134)),(10,.bool K.2.2.1),(11,.bool K.2.2.2.1),(12,iV al),(13,iV Y.1),(14,iV Y.2.1)] L s (WL 133 Cv bf O U V f84 Y.2.2)) ?_ ?_)
      ·rintro _ _ ⟨bf,f84,rfl,rfl,bv,bw,bx⟩;obtain⟨cB,cC,cD⟩:=bs cA;refine zg 5 rfl (Dm 4 4 [bX O f84 133] [(0,.slice (AZ O) V U),(1,iV K.1),(2,iV K.2.1),(3,iV p3),(4,(fV 134)),(10,.bool K.2.2.1),(11,.bool K.2.2.2.1),(12,iV al),(13,iV Y.1),(14,iV Y.2.1),(71,.bool cB)] (fun bg a8 bz=>?_) (fun bA=>?_))
       ·obtain⟨cE,cF,cG⟩:=bs cD;refine zg 1 rfl (ER [] (fun L s=>∃(a9:LH),Jm bg H a9 [bX O f84 133] [(0,.slice (AZ O) V U),(1,iV K.1),(2,iV K.2.1),(3,iV p3),(4,(fV 134)),(10,.bool K.2.2.1),(11,.bool K.2.2.2.1),(12,iV al),(13,iV Y.1),(75,.bool cE)] L s) ?_ ?_)
        ·rintro _ _ ⟨a9,rfl,rfl,ba,bB⟩;obtain⟨cH,cI,bC⟩:=bs cG;refine JL.done (Bt (fun L s=>∃(bh:(List Bu)) (a0:LH) (f105:Array Value),cH=Sum.inr bh∧Jn a9 H a0 [bX O f105 133] [(0,.slice (AZ O) V U),(1,iV K.1),(2,iV K.2.1),(3,iV p3),(4,(fV 134)),(10,.bool K.2.2.1),(11,.bool K.2.2.2.1),(12,iV al),(13,iV Y.1)] L s (WL 133 Cv a0 O U V f105 bh)) ?_ ?_)
         ·rintro _ _ ⟨bh,a0,f105,rfl,rfl,rfl,cJ,a1,a2⟩;have cK:=elim_inr bC;refine zg 2 rfl (Dl 17 [O] ⟨⟨0,_,rfl⟩,trivial⟩ a1 fun ht=>?_);refine AW ht rfl [0,1,2] rfl ?_;obtain⟨cM,bD,cN⟩:=bs cK;refine Ed 0 #[true,true,true,true,true,true,true,true,true,true,true,true,true,true,true,true,true] (fun L s=>∃(bE:LH),Jm a0 H bE [bX O f105 133] [(0,.slice (AZ O) V U),(1,iV K.1),(2,iV K.2.1),(3,iV p3),(4,(fV 134)),(10,.bool K.2.2.1),(11,.bool K.2.2.2.1),(12,iV al),(13,iV Y.1),(97,.bool cM)] L s) ?_ ?_
          ·rintro _ _ ⟨bE,rfl,rfl,bF,cO⟩;refine AU.fin (by decide+kernel) (BJ cN (fun cP cQ=>?_) (fun cP cR=>?_))
           ·refine zg 7 rfl ?_;cases cQ
           ·obtain⟨bG,cT,cV⟩:=bs cR;refine zg 8 rfl (B6 0 (Sz (a2.Ah bF) cT) rfl rfl (AS func185 rfl) cO rfl ?_);rintro _ cW _ cX ⟨f123,rfl,rfl,bH⟩ bI;obtain⟨eI,cY,cZ⟩:=bs cV;refine zg 15 rfl (Cg cY rfl rfl rfl ?_);obtain⟨eJ,c0,c1⟩:=bs cZ;refine zg 2 rfl (Cg c0 rfl rfl rfl ?_);obtain⟨c2,c3,c4⟩:=bs c1;refine zg 6 rfl (AF (v:=iV c2) rfl (fun ρ h=>KZ (h _ _ rfl) (h _ _ rfl) c3) ?_);obtain⟨ag,c5,c6⟩:=bs c4;refine zg 8 rfl (Bt (fun L s=>∃(bb:LH) (f138:Array Value),Jn cW H bb [bX O f138 133] [(0,.slice (AZ O) V U),(1,iV ag.1),(2,iV ag.2.1),(3,iV p3),(4,(fV 134)),(10,.bool ag.2.2.1),(11,.bool bG.2.1)] L s (WL 133 Cv bb O U V f138 ag.2.2.2)) ?_ ?_)
            ·rintro _ _ ⟨bb,f138,rfl,rfl,c7,c8,c9⟩;exact L9 (Az (b8 _ _ ⟨(ag.1,ag.2.1,ag.2.2.1,bG.2.1,ag.2.2.2),bb,f138,(Option.some.inj c6).symm,rfl,rfl,((((((((av.Ab a7).Ab bv).Ab a8).Ab ba).Ab cJ).Ab bF).Ab cX).Ab c7),c8,c9⟩) rfl)
            ·intro bJ;refine AL c5 (fun da db=>?_) (fun da dc=>?_)
             ·obtain⟨eK,dd,de⟩:=bs db;refine zg 14 rfl (B6 0 (Sk bH dd) rfl rfl LU bI rfl ?_);rintro _ df _ dg ⟨f150,rfl,rfl,dh⟩ di;obtain⟨eL,dj,dk⟩:=bs de;refine zg 3 rfl (Bb dj rfl rfl rfl ?_);refine zg 2 rfl ?_;obtain rfl:=oi dk;exact Az (bJ _ _ ⟨df,f150,rfl,rfl,dg,di,dh⟩) rfl
             ·obtain⟨eM,dl,dm⟩:=bs dc;refine zg 11 rfl (Bb dl rfl rfl rfl ?_);obtain⟨eN,dn,dp⟩:=bs dm;refine zg 3 rfl (B6 0 (Sk bH dn) rfl rfl LU bI rfl ?_);rintro _ dq _ dr ⟨f165,rfl,rfl,dt⟩ du;refine zg 5 rfl ?_;obtain rfl:=oi dp;exact Az (bJ _ _ ⟨dq,f165,rfl,rfl,dr,du,dt⟩) rfl
          ·intro bK;refine Fa (q:=0<K.1) (i:=83) rfl (fun bi=>?_) (fun bi=>?_)
           ·have dv:=ip bD bi;refine AW ht rfl [3,4,5] rfl ?_;obtain⟨eO,dw,dx⟩:=bs dv;refine By 6 ht rfl rfl (fun ρ h s' hs=>C9 (h _ _ rfl) (h _ _ rfl) dw) ?_;obtain⟨am,bL,dy⟩:=bs dx;obtain⟨_,⟨_,_,rfl,rfl,⟨_,_,rfl,rfl,⟨bM,bN,rfl,dz⟩⟩⟩,dA⟩:=WL.at a2 bL;refine F2 7 ht (a2).2 bL underlying130 AQ ?_;refine D4 8 ht [iV am.1,iV am.2.1,sV bM am.2.2 bN] 0 a1 dA Cq AQ ?_;refine AW ht rfl [9,10] rfl ?_;obtain⟨ap,bO,dB⟩:=bs dy;obtain⟨_,⟨_,_,rfl,rfl,⟨_,_,rfl,rfl,⟨bP,bQ,rfl,dC⟩⟩⟩,dD⟩:=WL.at a2 bO;refine F2 11 ht (a2).2 bO underlying130 AQ ?_;refine D4 12 ht [iV ap.1,iV ap.2.1,sV bP ap.2.2 bQ] 0 a1 dD Cq AQ ?_;obtain⟨dE,dF,dG⟩:=bs dB;refine HG (i:=13) ⟨⟨0,_,rfl⟩,trivial⟩ (vs:= [.agg #[iV am.1,iV am.2.1,sV bM am.2.2 bN],.agg #[iV ap.1,iV ap.2.1,sV bP ap.2.2 bQ]]) (G1 dz dC dF) (by decide+kernel) rfl rfl rfl rfl GR rfl a1 ?_;rintro _ dH _ dI ⟨rfl,rfl⟩ dJ;refine B4 14 ht rfl rfl ?_;refine By (v:= .bool (decide (¬(dE<0)))) 15 ht rfl rfl (fun ρ h s' hs=>I1 (h _ _ rfl)) ?_;refine B4 16 ht rfl rfl ?_;obtain rfl:=oi dG;refine CE ?_ (bK _ _ ⟨dH,rfl,rfl,dI,dJ⟩);exact⟨rfl,rfl,rfl,rfl,rfl,rfl,rfl,rfl,rfl,rfl,trivial⟩
           ·have dK:=im bD bi;refine AW ht rfl [3,4,5,6,7,8,9,10,11,12,13,14,15,16] rfl ?_;obtain rfl:=oi dK;refine CE ?_ (bK _ _ ⟨a0,rfl,rfl,Ar,a1⟩);exact⟨rfl,rfl,rfl,rfl,rfl,rfl,rfl,rfl,rfl,rfl,trivial⟩
         ·intro bR;refine BJ cI (fun dL dM=>?_) (fun dL dN=>?_)
          ·obtain⟨dO,dP,dQ⟩:=bs dM;refine zg 6 rfl (B6 0 (SM (bx.Ah (a8.Ab ba)) dP) rfl rfl (AS func183 rfl) bB rfl ?_);rintro _ dR _ bS ⟨f205,rfl,rfl,bT⟩ bU;refine JL.done (BJ dQ (fun dS dT=>?_) (fun dS dU=>?_))
           ·obtain rfl:=oi dT;have dV:=elim_inl bC;obtain rfl:=oi dV;have dW:=elim_inl be;obtain rfl:=oi dW;obtain rfl:=bp _ a5;have dX:=elim_inl bn;obtain rfl:=oi dX;exact AD func162 rfl rfl (bm ((((((bd.Ab av).Ab a7).Ab bv).Ab a8).Ab ba).Ab bS) rfl ⟨f205,rfl,(by first | rfl | simp | (simp [Value.cells])),bT⟩ bU)
           ·exact JL.skip (Az (bR _ _ ⟨dO.2,dR,f205,(Option.some.inj dU).symm,rfl,rfl,bS,bU,bT⟩) rfl)
          ·exact JL.skip (Az (bR _ _ ⟨Y.2.2,a9,f84,(Option.some.inj dN).symm,rfl,rfl,Ar,bB,(bx.Ah (a8.Ab ba))⟩) rfl)
        ·intro bV;refine DU 72 cF (fun dY dZ=>?_) (fun dY ea=>?_)
         ·refine zg 3 rfl ?_;obtain rfl:=oi dZ;exact Az (bV _ _ ⟨bg,rfl,rfl,Ar,bz⟩) rfl
         ·refine zg 3 rfl ?_;obtain rfl:=oi ea;exact Az (bV _ _ ⟨bg,rfl,rfl,Ar,bz⟩) rfl
       ·refine DU 69 cC (fun eb ec=>?_) (fun eb ed=>?_)
        ·refine zg 2 rfl ?_;obtain rfl:=oi ec;exact bA Ar bw rfl
        ·refine zg 2 rfl ?_;obtain rfl:=oi ed;exact bA Ar bw rfl
      ·intro bW;refine AL cz (fun ee ef=>?_) (fun ee eg=>?_)
       ·obtain⟨eP,eh,ei⟩:=bs ef;refine zg 6 rfl (B6 0 (SU (a4.Ah (av.Ab a7)) eh) rfl rfl (AS func182 rfl) bu rfl ?_);rintro _ ej _ ek ⟨el,rfl,rfl,em⟩ en;obtain⟨eQ,eo,ep⟩:=bs ei;refine zg 4 rfl (Cg eo rfl rfl rfl ?_);obtain⟨eR,eq,er⟩:=bs ep;refine zg 2 rfl (Cg eq rfl rfl rfl ?_);obtain⟨eS,et,eu⟩:=bs er;refine Cg et rfl rfl rfl (zg 5 rfl ?_);obtain rfl:=oi eu;exact Az (bW _ _ ⟨ej,el,rfl,rfl,ek,en,em⟩) rfl
       ·refine JL.skip ?_;obtain rfl:=oi eg;exact Az (bW _ _ ⟨br,f22,rfl,rfl,Ar,bu,(a4.Ah (av.Ab a7))⟩) rfl
     ·refine BJ cr (fun ew ex=>?_) (fun ew ey=>?_)
      ·refine zg 6 rfl ?_;cases ex
      ·refine JL.skip ?_;obtain rfl:=oi ey;exact cv Ar bo rfl
def f133(fuel:Nat)(p0:List Bu):Option ((List Bu)):= (f163 fuel (Di (p0.length:Int))).bind fun K=> (f162 fuel p0 0 (p0.length:Int) K).bind fun O=> some O
theorem ZN{K:Nat}{O:Nat}{U:Nat}{V:Array Value}{p0:List (Bu)}(hW:WL 133 Cv E K O U V p0){fuel:Nat}{r:(List Bu)}(Y:f133 fuel p0=some r):AK J 133 [.slice (AZ K) U O,(fV 134)] E [(K,.cells V 133 (0,0))] (fun w E' B'=>∃(Z:Array Value),w= .tuple #[]∧B'= [(K,.cells Z 133 (0,0))]∧WL 133 Cv E' K O U Z r):=by
 refine A4 func133 fun Q a6 cs H al am=>?_;unfold f133 at Y;refine zg 3 rfl (AF (v:=iV (p0.length:Int)) rfl (fun ρ h=>R1 (hW).2 rfl underlying130 (h _ _ rfl)) ?_);refine zg 6 rfl (AF (v:= .int .u64 ((Di (p0.length:Int):Nat):Int)) rfl (fun ρ h=>Yl.Di underlying3 underlying156 (h _ _ rfl)) ?_);obtain⟨a7,ap,av⟩:=bs Y;refine BF (SQ ap) rfl rfl (AS func163 rfl) al fun a8 ag a0=>?_;obtain⟨a9,a1,a2⟩:=bs av;refine zg 1 rfl (B6 0 (YM (hW.Ah ag) a1) rfl rfl LU a0 rfl ?_);rintro _ ba _ a3 ⟨f12,rfl,rfl,a4⟩ a5;refine JL.done ?_;obtain rfl:=oi a2;exact JL.fin (v:= .tuple #[]) rfl rfl (Ch.list func133 rfl (vs:= []) trivial) (am (ag.Ab a3) rfl ⟨f12,rfl,(by first | rfl | simp | (simp [Value.cells])),a4⟩ a5)
end Pal
namespace Pal
def A1{α:Type}(o:Option α)(Q:α→Prop):Prop:=∃a,o=some a∧Q a
section
variable {α β:Type}{Q R:α→Prop}
theorem Ak{a:α}(h:Q a):A1 (some a) Q:=⟨a,rfl,h⟩
theorem A1.Ah{o:Option α}(h:A1 o R)(k:∀a,R a→Q a):A1 o Q:=let ⟨a,K,O⟩:=h;⟨a,K,k a O⟩
theorem A1.of_eq{o:Option α}{a:α}(h:o=some a)(k:Q a):A1 o Q:=⟨a,h,k⟩
theorem AB{o:Option β}{f:β→Option α}{S:β→Prop}(h:A1 o S)(k:∀b,S b→A1 (f b) Q):A1 (o.bind f) Q:=by
 obtain⟨b,rfl,hb⟩:=h;obtain⟨a,K,O⟩:=k b hb;exact⟨a,K,O⟩
theorem AM{o:Option β}{f:β→Option α}{b:β}(h:o=some b)(k:A1 (f b) Q):A1 (o.bind f) Q:=by subst h;exact k
theorem A1.aX{f:Int→Option α}{x:Int}(K: -9223372036854775808≤x)(O:x≤9223372036854775807)(k:A1 (f x) Q):A1 ((As x).bind f) Q:=AM (if_pos ⟨K,O⟩) k
theorem D3{xs:List β}{i:Int}{m:Nat}{b:β}(h:i=(m:Int))(hb:xs[m]? =some b):ix xs i=some b:=by subst h;simpa [ix] using hb
theorem Bl{f:β→Option α}{xs:List β}{i:Int}{m:Nat}(h:i=(m:Int))(hm:m<xs.length)(k:A1 (f xs[m]) Q):A1 ((ix xs i).bind f) Q:=AM (D3 h (List.getElem?_eq_getElem hm)) k
theorem Kr{f:List β→Option α}{xs:List β}{x:β}(h:xs.length+1≤2 ^ 40)(k:A1 (f (xs++ [x])) Q):A1 ((room xs x).bind f) Q:=AM (if_pos h) k
theorem Bq{c:Prop} [Decidable c] {x y:Option α}(K:c→A1 x Q)(O:¬c→A1 y Q):A1 (if c then x else y) Q:=by
 by_cases h:c
 ·rw [if_pos h];exact K h
 ·rw [if_neg h];exact O h
theorem Bs{c:Prop} [Decidable c] {x y:Option α}(h:c)(k:A1 x Q):A1 (if c then x else y) Q:=by rw [if_pos h];exact k
theorem A7{c:Prop} [Decidable c] {x y:Option α}(h:¬c)(k:A1 y Q):A1 (if c then x else y) Q:=by rw [if_neg h];exact k
def Bh.sat{S A:Type}(I:S→Prop)(Q:A→Prop):Bh S A→Prop
 | .more s=>I s
 | .done a=>Q a
theorem KB{S:Type}{body:S→Option (Bh S α)}(I:Nat→S→Prop)(round:∀m s,I m s→A1 (body s) (Bh.sat (fun s'=>∃m',m'<m∧I m' s') Q)):
  ∀{m fuel:Nat} {s:S},I m s→m<fuel→A1 (iter body fuel s) Q:=by
 intro m
 induction m using Nat.strongRecOn with
 | _ m O=>
  intro fuel s U ag;obtain⟨fuel,rfl⟩:∃k,fuel=k+1:=⟨fuel - 1,by omega⟩;obtain⟨st,V,K⟩:=round m s U;unfold Pal.iter;rw [V];cases st with
  | more s'=>
   obtain⟨m',Y,Z⟩:=K;exact O m' Y Z (by omega)
  | done a=>exact⟨a,rfl,K⟩
end
end Pal
namespace Pal
open Go.Sort
abbrev PT:=Int×Int×(List (Int×(List Int)×Nat))
def AN(x y:PT):Bool:=decide (x.1<y.1)
theorem Mx:SWO AN:=⟨fun x=>by simp [AN],fun x y z K O=>by simp [AN] at*;omega,fun x y z K O=>by simp [AN] at*;omega⟩
def KO(xs:List PT):Prop:=∀x∈xs,0≤x.1∧x.1≤1000
theorem KH{fuel:Nat}{x y:PT}(K:0≤x.1∧x.1≤1000)(O:0≤y.1∧y.1≤1000):f134 fuel x y=some (x.1 - y.1):=by
 unfold f134;rw [show As (x.1 - y.1)=some (x.1 - y.1) from if_pos (by omega)];rfl
theorem JN(x y:PT):decide (x.1 - y.1<0)=AN x y:=by unfold AN;congr 1;apply propext;omega
theorem KO.get{xs:List PT}(h:KO xs){i:Nat}(hi:i<xs.length):0≤xs[i].1∧xs[i].1≤1000:=h _ (List.getElem_mem hi)
theorem KO.set{xs:List PT}(h:KO xs){i:Nat}{x:PT}(K:0≤x.1∧x.1≤1000):KO (xs.set i x):=fun y O=>by
 rcases List.mem_or_eq_of_mem_set O with q | q
 ·exact h y q
 ·subst q;exact K
theorem IU{xs:List PT}{i j:Nat}(hi:i<xs.length)(K:j<xs.length):((xs.set i xs[j]).set j xs[i]).toArray=swp xs.toArray i j:=by
 unfold swp;rw [show xs.toArray[j]! =xs[j] by simp [getElem!_pos,K],show xs.toArray[i]! =xs[i] by simp [getElem!_pos,hi]];simp
theorem Gw{xs:List PT}{i:Nat}(hi:i<xs.length):xs.toArray[i]! =xs[i]:=by simp [getElem!_pos,hi]
section
variable {α:Type}{Q:α→Prop}
theorem AT{f:Int→Option α}{x:Int}(y:Int)(h:x=y)(K: -9223372036854775808≤y)(O:y≤9223372036854775807)(k:A1 (f y) Q):A1 ((As x).bind f) Q:=by subst h;exact A1.aX K O k
end
theorem Yh{F:Nat}(a:Nat):∀(j fuel:Nat) (xs:List PT),j<fuel→j<xs.length→xs.length<1000→KO xs→
  A1 (iter (JD F (a:Int)) fuel ((j:Int),xs)) (fun ys=>ys.toArray=insInner AN a j xs.toArray∧KO ys∧ys.length=xs.length):=by
 intro j
 induction j with
 | zero=>
  intro fuel xs al U Z K;obtain⟨fuel,rfl⟩:∃k,fuel=k+1:=⟨fuel - 1,by omega⟩;refine⟨xs,?_,rfl,K,rfl⟩;have am:¬((a:Int)<0):=by omega
  simp [iter,JD,am]
 | succ j ap=>
  intro fuel xs al U Z K;obtain⟨fuel,rfl⟩:∃k,fuel=k+1:=⟨fuel - 1,by omega⟩;have O:j<xs.length:=by omega
  have av:A1 (JD F (a:Int) (((j+1:Nat):Int),xs)) (fun st=>st=if(decide (j+1>a)&&AN xs[j+1] xs[j])=true then .more ((j:Int),(xs.set (j+1) xs[j]).set j xs[j+1]) else .done xs):=by
   unfold JD;refine AB (S:=fun c=>c=(decide (j+1>a)&&AN xs[j+1] xs[j])) ?_ ?_
   ·refine Bq (fun h=>?_) (fun h=>?_)
    ·have Y:a<j+1:=by simp at h;omega
     refine Bl (m:=j+1) rfl U (AT (j:Int) (by simp) (by omega) (by omega) ?_);refine Bl (m:=j) rfl O (AM (KH (K.get U) (K.get O)) ?_);refine Ak ?_;rw [JN];simp [Y]
    ·have Y:¬a<j+1:=by simp at h;omega
     refine Ak ?_;simp [Y]
   ·rintro c rfl;refine Bq (fun h=>?_) (fun h=>?_)
    ·refine AT (j:Int) (by simp) (by omega) (by omega) (AT (j:Int) (by simp) (by omega) (by omega) ?_);refine Bl (m:=j) rfl O (Bl (m:=j+1) rfl U ?_);refine AM (b:=(xs.set (j+1) xs[j])[j]'(by simpa using O)) (D3 rfl (List.getElem?_eq_getElem _)) ?_;refine AT (j:Int) (by simp) (by omega) (by omega) (Ak ?_);rw [if_pos h];simp
    ·refine Ak ?_;rw [if_neg h]
  obtain⟨st,a0,rfl⟩:=av;unfold iter;rw [a0];have V:insInner AN a (j+1) xs.toArray=if(decide (j+1>a)&&AN xs[j+1] xs[j])=true then insInner AN a j (swp xs.toArray (j+1) j) else xs.toArray:=by
   rw [insInner,Gw U,Gw O]
  by_cases ag:(decide (j+1>a)&&AN xs[j+1] xs[j])=true
  ·rw [if_pos ag] at V ⊢;have a1:KO ((xs.set (j+1) xs[j]).set j xs[j+1]):=(K.set (K.get O)).set (K.get U);refine(ap fuel ((xs.set (j+1) xs[j]).set j xs[j+1]) (by omega) (by simpa using O) (by simpa using Z) a1).Ah ?_;rintro ys ⟨a2,a3,a4⟩;refine⟨?_,a3,by simpa using a4⟩;rw [a2,IU U O,V]
  ·rw [if_neg ag] at V ⊢;exact⟨xs,rfl,V.symm,K,rfl⟩
theorem WC{F:Nat}(a b:Nat)(av:2000<F):∀(m i fuel:Nat) (xs:List PT),b - i=m→m<fuel→b≤xs.length→xs.length<1000→KO xs→
  A1 (iter (I2 F (a:Int) (b:Int)) fuel ((i:Int),xs)) (fun ys=>ys.toArray=insOuter AN a b i xs.toArray∧KO ys∧ys.length=xs.length):=by
 intro m
 induction m with
 | zero=>
  intro i fuel xs hm Y hb V O;obtain⟨fuel,rfl⟩:∃k,fuel=k+1:=⟨fuel - 1,by omega⟩;have U:¬i<b:=by omega
  have K:A1 (I2 F (a:Int) (b:Int) ((i:Int),xs)) (fun st=>st= .done xs):=by
   unfold I2;exact A7 (show ¬(i:Int)<(b:Int) by omega) (Ak rfl)
  obtain⟨st,K,rfl⟩:=K;unfold iter;rw [K];refine⟨xs,rfl,?_,O,rfl⟩;rw [insOuter,if_neg U]
 | succ m Z=>
  intro i fuel xs hm Y hb V O;obtain⟨fuel,rfl⟩:∃k,fuel=k+1:=⟨fuel - 1,by omega⟩;have U:i<b:=by omega
  obtain⟨ys,ag,al,am,a0⟩:=Yh (F:=F) a i F xs (by omega) (by omega) V O;have K:A1 (I2 F (a:Int) (b:Int) ((i:Int),xs)) (fun st=>st= .more (((i+1:Nat):Int),ys)):=by
   unfold I2;refine Bs (show(i:Int)<(b:Int) by omega) (AM ag ?_);exact AT ((i+1:Nat):Int) (by simp) (by omega) (by omega) (Ak rfl)
  obtain⟨st,K,rfl⟩:=K;unfold iter;rw [K];refine(Z (i+1) fuel ys (by omega) (by omega) (by omega) (by omega) am).Ah ?_;rintro a1 ⟨k1,ap,a2⟩;refine⟨?_,ap,by omega⟩;rw [k1,al,insOuter.eq_def AN a b i,if_pos U]
theorem RS{F a b:Nat}{xs:List PT}(K:2000<F)(hb:b≤xs.length)(O:xs.length<1000)(U:KO xs)(ag:a≤b):
  A1 (f178 F xs (a:Int) (b:Int)) (fun ys=>ys.toArray=insertionSort AN xs.toArray a b∧KO ys∧ys.length=xs.length):=by
 unfold f178;refine AT ((a+1:Nat):Int) (by simp) (by omega) (by omega) (AB (WC (F:=F) a b K (b - (a+1)) (a+1) F xs rfl (by omega) hb O U) ?_);rintro ys ⟨V,Y,Z⟩;exact⟨ys,rfl,V,Y,Z⟩
end Pal
namespace Pal
open Go.Sort
theorem OE{F a b sw:Nat}{xs:List PT}(O:a<xs.length)(hb:b<xs.length)(hs:sw<1000)(V:xs.length<1000)(U:KO xs):
  f200 F xs (a:Int) (b:Int) (sw:Int)=some ((((order2 AN xs.toArray a b sw).1:Nat):Int),(((order2 AN xs.toArray a b sw).2.1:Nat):Int),(((order2 AN xs.toArray a b sw).2.2:Nat):Int)):=by
 have h:A1 (f200 F xs (a:Int) (b:Int) (sw:Int)) (fun r=>r=((((order2 AN xs.toArray a b sw).1:Nat):Int),(((order2 AN xs.toArray a b sw).2.1:Nat):Int),(((order2 AN xs.toArray a b sw).2.2:Nat):Int))):=by
  unfold f200;refine Bl (m:=b) rfl hb (Bl (m:=a) rfl O ?_);refine AM (KH (U.get hb) (U.get O)) ?_;have e:order2 AN xs.toArray a b sw=if AN xs[b] xs[a] then(b,a,sw+1) else(a,b,sw):=by unfold order2;rw [Gw O,Gw hb]
  refine Bq (fun h=>?_) (fun h=>?_)
  ·have K:AN xs[b] xs[a]=true:=by rw [← JN];exact decide_eq_true h
   refine AT ((sw+1:Nat):Int) (by simp) (by omega) (by omega) (Ak ?_);rw [e,if_pos K]
  ·have K:¬AN xs[b] xs[a]=true:=by rw [← JN];simpa using h
   refine Ak ?_;rw [e,if_neg K]
 obtain⟨r,K,rfl⟩:=h;exact K
theorem Qs{n a b sw:Nat}{d:Array PT}(K:a<n)(hb:b<n):(order2 AN d a b sw).1<n∧(order2 AN d a b sw).2.1<n∧(order2 AN d a b sw).2.2≤sw+1:=by
 unfold order2;split
 ·exact⟨hb,K,Nat.le_refl _⟩
 ·exact⟨K,hb,Nat.le_succ _⟩
theorem Yt{F a b c sw:Nat}{xs:List PT}(U:a<xs.length)(hb:b<xs.length)(V:c<xs.length)(hs:sw<900)(K:xs.length<1000)(O:KO xs):
  f197 F xs (a:Int) (b:Int) (c:Int) (sw:Int)=some ((((median AN xs.toArray a b c sw).1:Nat):Int),(((median AN xs.toArray a b c sw).2:Nat):Int)):=by
 unfold f197 median;obtain⟨Z,Y,al⟩:=Qs (sw:=sw) (d:=xs.toArray) U hb;rw [OE U hb (by omega) K O];simp only [Option.bind_some];obtain⟨ag,am,ap⟩:=Qs (sw:=(order2 AN xs.toArray a b sw).2.2) (d:=xs.toArray) Y V;rw [OE Y V (by omega) K O];simp only [Option.bind_some];rw [OE Z ag (by omega) K O];simp only [Option.bind_some]
def Iy:Hint→Int | .unknown=>0 | .increasing=>1 | .decreasing=>2
theorem A1.quo{α:Type}{Q:α→Prop}{f:Int→Option α}{x:Int}(m k:Nat)(K:x=(m:Int))(hm:m<1000)(O:0<k)(h:A1 (f ((m / k:Nat):Int)) Q):A1 ((Hw x (k:Int)).bind f) Q:=by
 subst K;refine AM ?_ h;unfold Hw;rw [if_neg (by omega)];have e:((m:Int).tdiv (k:Int))=((m / k:Nat):Int):=by rw [Int.tdiv_eq_ediv_of_nonneg (by omega)];rfl
 have hle:m / k≤m:=Nat.div_le_self _ _;rw [e];generalize m / k=z at hle ⊢;exact if_pos (by omega)
theorem Yn{F a b:Nat}{xs:List PT}(av:a+8≤b)(a0:b<a+50)(hb:b≤xs.length)(Z:xs.length<1000)(ag:KO xs):
  f181 F xs (a:Int) (b:Int)=some ((((choosePivot AN xs.toArray a b).1:Nat):Int),Iy (choosePivot AN xs.toArray a b).2):=by
 have h:A1 (f181 F xs (a:Int) (b:Int)) (fun r=>r=((((choosePivot AN xs.toArray a b).1:Nat):Int),Iy (choosePivot AN xs.toArray a b).2)):=by
  unfold f181;have a1:(b - a) / 4≤b - a:=Nat.div_le_self _ _;have a2:(b - a) / 4*3<b - a:=by omega
  refine AT ((b - a:Nat):Int) (by omega) (by omega) (by omega) (A1.quo (b - a) 4 rfl (by omega) (by omega) ?_);refine AT (((b - a) / 4*1:Nat):Int) (by push_cast;rfl) (by omega) (by omega) (AT ((a+(b - a) / 4*1:Nat):Int) (by push_cast;rfl) (by omega) (by omega) ?_);refine A1.quo (b - a) 4 rfl (by omega) (by omega) (AT (((b - a) / 4*2:Nat):Int) (by push_cast;rfl) (by omega) (by omega) ?_);refine AT ((a+(b - a) / 4*2:Nat):Int) (by push_cast;rfl) (by omega) (by omega) (A1.quo (b - a) 4 rfl (by omega) (by omega) ?_);refine AT (((b - a) / 4*3:Nat):Int) (by push_cast;rfl) (by omega) (by omega) (AT ((a+(b - a) / 4*3:Nat):Int) (by push_cast;rfl) (by omega) (by omega) ?_);have al:choosePivot AN xs.toArray a b=((median AN xs.toArray (a+(b - a) / 4*1) (a+(b - a) / 4*2) (a+(b - a) / 4*3) 0).1,if(median AN xs.toArray (a+(b - a) / 4*1) (a+(b - a) / 4*2) (a+(b - a) / 4*3) 0).2=0 then .increasing else if(median AN xs.toArray (a+(b - a) / 4*1) (a+(b - a) / 4*2) (a+(b - a) / 4*3) 0).2=12 then .decreasing else .unknown):=by
   unfold choosePivot;simp only;rw [if_pos (by omega),if_neg (by omega)]
  rw [al];generalize am:median AN xs.toArray (a+(b - a) / 4*1) (a+(b - a) / 4*2) (a+(b - a) / 4*3) 0=K;refine AB (S:=fun r=>r=(((K.1:Nat):Int),((K.2:Nat):Int))) ?_ ?_
  ·refine Bs (by omega) (AB (S:=fun _=>True) (A7 (by omega) (Ak trivial)) fun _ _=>?_);have Y:=Yt (F:=F) (a:=a+(b - a) / 4*1) (b:=a+(b - a) / 4*2) (c:=a+(b - a) / 4*3) (sw:=0) (xs:=xs) (by omega) (by omega) (by omega) (by omega) Z ag;rw [am] at Y;exact AM Y (Ak rfl)
  ·rintro r rfl;refine Bq (fun h=>?_) (fun h=>?_)
   ·have O:K.2=0:=by simp at h;omega
    rw [if_pos O];exact Ak rfl
   ·have O:¬K.2=0:=by simp at h;omega
    rw [if_neg O];refine Bq (fun U=>?_) (fun U=>?_)
    ·have V:K.2=12:=by simp at U;omega
     rw [if_pos V];exact Ak rfl
    ·have V:¬K.2=12:=by simp at U;omega
     rw [if_neg V];exact Ak rfl
 obtain⟨r,ap,rfl⟩:=h;exact ap
theorem WM{F:Nat}:∀(m i j fuel:Nat) (xs:List PT),j - i≤m→m<fuel→(i<j→j<xs.length)→i≤xs.length→j≤xs.length→xs.length<1000→KO xs→
  A1 (iter (HK F) fuel ((i:Int),(j:Int),xs)) (fun ys=>ys.toArray=reverseLoop i j xs.toArray∧KO ys∧ys.length=xs.length):=by
 intro m
 induction m with
 | zero=>
  intro i j fuel xs hm al Z hi am ag K;obtain⟨fuel,rfl⟩:∃k,fuel=k+1:=⟨fuel - 1,by omega⟩;have O:¬i<j:=by omega
  have U:A1 (HK F ((i:Int),(j:Int),xs)) (fun st=>st= .done xs):=by
   unfold HK;exact A7 (show ¬(i:Int)<(j:Int) by omega) (Ak rfl)
  obtain⟨st,hb,rfl⟩:=U;unfold iter;rw [hb];refine⟨xs,rfl,?_,K,rfl⟩;rw [reverseLoop,if_neg O]
 | succ m ap=>
  intro i j fuel xs hm al Z hi am ag K;obtain⟨fuel,rfl⟩:∃k,fuel=k+1:=⟨fuel - 1,by omega⟩;by_cases O:i<j
  ·have V:=Z O;have Y:i<xs.length:=by omega
   have U:A1 (HK F ((i:Int),(j:Int),xs)) (fun st=>st= .more (((i+1:Nat):Int),((j - 1:Nat):Int),(xs.set i xs[j]).set j xs[i])):=by
    unfold HK;refine Bs (show(i:Int)<(j:Int) by omega) (Bl (m:=j) rfl V ?_);refine Bl (m:=i) rfl Y (AT ((i+1:Nat):Int) (by simp) (by omega) (by omega) ?_);exact AT ((j - 1:Nat):Int) (by simp;omega) (by omega) (by omega) (Ak rfl)
   obtain⟨st,hb,rfl⟩:=U;unfold iter;rw [hb];refine(ap (i+1) (j - 1) fuel ((xs.set i xs[j]).set j xs[i]) (by omega) (by omega) (by simp;omega) (by simp;omega) (by simp;omega) (by simpa using ag) ((K.set (K.get V)).set (K.get Y))).Ah ?_;rintro ys ⟨av,a0,a1⟩;refine⟨?_,a0,by simpa using a1⟩;rw [av,IU Y V,reverseLoop.eq_def i j,if_pos O]
  ·have U:A1 (HK F ((i:Int),(j:Int),xs)) (fun st=>st= .done xs):=by
    unfold HK;exact A7 (show ¬(i:Int)<(j:Int) by omega) (Ak rfl)
   obtain⟨st,hb,rfl⟩:=U;unfold iter;rw [hb];refine⟨xs,rfl,?_,K,rfl⟩;rw [reverseLoop,if_neg O]
theorem Xq{F a b:Nat}{xs:List PT}(U:2000<F)(V:a<b)(hb:b≤xs.length)(K:xs.length<1000)(O:KO xs):
  A1 (f182 F xs (a:Int) (b:Int)) (fun ys=>ys.toArray=reverseRange xs.toArray a b∧KO ys∧ys.length=xs.length):=by
 unfold f182 reverseRange;refine AT ((b - 1:Nat):Int) (by omega) (by omega) (by omega) (AB (WM (F:=F) (b - 1 - a) a (b - 1) F xs (by omega) (by omega) (by omega) (by omega) (by omega) K O) ?_);rintro ys h;exact⟨ys,rfl,h⟩
theorem Yd{F b q1:Nat}{xs:List PT}(q2:Int)(hb:b≤xs.length)(ap:xs.length<1000)(Z:KO xs):∀(m i fuel:Nat),b - i≤m→m<fuel→1≤i→
  A1 (iter (IY F (b:Int) (((q1:Nat):Int),q2,xs)) fuel (i:Int)) (fun r=>r=((scanSorted AN xs.toArray b i:Nat):Int)):=by
 intro m
 induction m with
 | zero=>
  intro i fuel hm am hi;obtain⟨fuel,rfl⟩:∃k,fuel=k+1:=⟨fuel - 1,by omega⟩;have K:¬i<b:=by omega
  have O:A1 (IY F (b:Int) (((q1:Nat):Int),q2,xs) (i:Int)) (fun st=>st= .done (i:Int)):=by
   unfold IY;refine AB (S:=fun c=>c=false) (A7 (by omega) (Ak rfl)) ?_;rintro c rfl;exact A7 (by simp) (Ak rfl)
  obtain⟨st,U,rfl⟩:=O;unfold iter;rw [U];refine⟨_,rfl,?_⟩;rw [scanSorted,if_neg (by simp [K])]
 | succ m ag=>
  intro i fuel hm am hi;obtain⟨fuel,rfl⟩:∃k,fuel=k+1:=⟨fuel - 1,by omega⟩;by_cases K:i<b
  ·have V:i<xs.length:=by omega
   have Y:i - 1<xs.length:=by omega
   have O:A1 (IY F (b:Int) (((q1:Nat):Int),q2,xs) (i:Int)) (fun st=>st=if(!AN xs[i] xs[i-1])=true then .more ((i+1:Nat):Int) else .done (i:Int)):=by
    unfold IY;refine AB (S:=fun c=>c= !AN xs[i] xs[i-1]) ?_ ?_
    ·refine Bs (by omega) (Bl (m:=i) rfl V ?_);refine AT ((i - 1:Nat):Int) (by omega) (by omega) (by omega) (Bl (m:=i - 1) rfl Y ?_);refine AM (KH (Z.get V) (Z.get Y)) (Ak ?_);rw [← JN];exact decide_not
    ·rintro c rfl;refine Bq (fun h=>?_) (fun h=>?_)
     ·refine AT ((i+1:Nat):Int) (by simp) (by omega) (by omega) ?_;rw [if_pos h];exact Ak rfl
     ·rw [if_neg h];exact Ak rfl
   obtain⟨st,U,rfl⟩:=O;unfold iter;rw [U];have hs:scanSorted AN xs.toArray b i=if(!AN xs[i] xs[i-1])=true then scanSorted AN xs.toArray b (i+1) else i:=by
    rw [scanSorted.eq_def AN xs.toArray b i,Gw V,Gw Y];simp [K]
   by_cases al:(!AN xs[i] xs[i-1])=true
   ·rw [if_pos al] at hs ⊢;rw [hs];exact ag (i+1) fuel (by omega) (by omega) (by omega)
   ·rw [if_neg al] at hs ⊢;exact⟨_,rfl,by rw [hs]⟩
  ·exact ag i (fuel+1) (by omega) (by omega) hi
theorem Xh{F a b:Nat}{xs:List PT}(ag:2000<F)(al:a<b)(am:b<a+50)(hb:b≤xs.length)(O:xs.length<1000)(U:KO xs):
  f183 F xs (a:Int) (b:Int)=some ((partialInsertionSort AN xs.toArray a b).2,xs)∧(partialInsertionSort AN xs.toArray a b).1=xs.toArray:=by
 have e:partialInsertionSort AN xs.toArray a b=if scanSorted AN xs.toArray b (a+1)=b then(xs.toArray,true) else(xs.toArray,false):=by
  unfold partialInsertionSort partialIns;simp only;split
  ·rfl
  ·rw [if_pos (by omega)]
 have h:A1 (f183 F xs (a:Int) (b:Int)) (fun r=>r=((partialInsertionSort AN xs.toArray a b).2,xs)):=by
  unfold f183;refine AT ((a+1:Nat):Int) (by simp) (by omega) (by omega) (AB (S:=fun r=>r=Sum.inl ((partialInsertionSort AN xs.toArray a b).2,xs)) ?_ ?_)
  ·obtain⟨K,rfl⟩:∃k,F=k+1:=⟨F - 1,by omega⟩;have V:A1 (MF (K+1) (a:Int) (b:Int) (((a+1:Nat):Int),0,xs)) (fun st=>st= .done (Sum.inl ((partialInsertionSort AN xs.toArray a b).2,xs))):=by
    unfold MF;refine Bs (show(0:Int)<5 by omega) (AB (Yd (F:=K+1) (q1:=a+1) 0 hb O U (b - (a+1)) (a+1) (K+1) (by omega) (by omega) (by omega)) ?_);rintro r rfl;rw [e];refine Bq (fun h=>?_) (fun h=>?_)
    ·rw [if_pos (by omega)];exact Ak rfl
    ·rw [if_neg (by omega)];exact AT ((b - a:Nat):Int) (by omega) (by omega) (by omega) (Bs (by omega) (Ak rfl))
   obtain⟨st,Y,rfl⟩:=V;unfold iter;rw [Y];exact⟨_,rfl,rfl⟩
  ·rintro r rfl;exact Ak rfl
 obtain⟨r,Z,rfl⟩:=h;refine⟨Z,?_⟩;rw [e];split <;> rfl
end Pal
namespace Pal
open Go.Sort
theorem Qn{body:Int→Option (Bh Int Int)}{d:Array PT}{p:PT→Bool}{j:Nat}(V:j<900)
  (h:∀i:Nat,i≤j+2→body (i:Int)=some (if(decide (i≤j)&&p d[i]!)=true then .more ((i+1:Nat):Int) else .done (i:Int))):
  ∀(m i fuel:Nat),j+1 - i≤m→m<fuel→i≤j+2→iter body fuel (i:Int)=some ((scanUp p d j i:Nat):Int):=by
 intro m
 induction m with
 | zero=>
  intro i fuel hm O hi;obtain⟨fuel,rfl⟩:∃k,fuel=k+1:=⟨fuel - 1,by omega⟩;have K:¬(decide (i≤j)&&p d[i]!)=true:=by simp;omega
  unfold iter;rw [h i hi,if_neg K,scanUp,if_neg K]
 | succ m U=>
  intro i fuel hm O hi;obtain⟨fuel,rfl⟩:∃k,fuel=k+1:=⟨fuel - 1,by omega⟩;unfold iter;rw [h i hi,scanUp];by_cases K:(decide (i≤j)&&p d[i]!)=true
  ·rw [if_pos K,if_pos K];have:i≤j:=by simp at K;exact K.1
   exact U (i+1) fuel (by omega) (by omega) (by omega)
  ·rw [if_neg K,if_neg K]
theorem P1{body:Int→Option (Bh Int Int)}{d:Array PT}{p:PT→Bool}{i:Nat}(hi:1≤i){n:Nat}
  (h:∀j:Nat,j<n→body (j:Int)=some (if(decide (i≤j)&&p d[j]!)=true then .more ((j - 1:Nat):Int) else .done (j:Int))):
  ∀(j fuel:Nat),j<n→j<fuel→iter body fuel (j:Int)=some ((scanDown p d i j:Nat):Int):=by
 intro j
 induction j with
 | zero=>
  intro fuel O U;obtain⟨fuel,rfl⟩:∃k,fuel=k+1:=⟨fuel - 1,by omega⟩;have K:¬(decide (i≤0)&&p d[0]!)=true:=by simp;omega
  unfold iter;rw [h 0 O,if_neg K];rfl
 | succ j V=>
  intro fuel O U;obtain⟨fuel,rfl⟩:∃k,fuel=k+1:=⟨fuel - 1,by omega⟩;unfold iter;rw [h (j+1) O,scanDown];by_cases K:(decide (i≤j+1)&&p d[j+1]!)=true
  ·rw [if_pos K,if_pos K];exact V fuel (by omega) (by omega)
  ·rw [if_neg K,if_neg K]
theorem A1.LI{α:Type}{o:Option α}{a:α}(h:A1 o (fun x=>x=a)):o=some a:=by obtain⟨x,K,rfl⟩:=h;exact K
theorem R0{F a:Nat}{q2:Int}{j:Nat}{q1:Int}{ys:List PT}(K:a<ys.length)(Y:j<ys.length)(Z:ys.length<900)(V:KO ys)(i:Nat)(hi:i≤j+2):
  JI F (a:Int) (q1,(j:Int),ys) (i:Int)=some (if(decide (i≤j)&&AN ys.toArray[i]! ys.toArray[a]!)=true then .more ((i+1:Nat):Int) else .done (i:Int)):=by
 refine A1.LI ?_;unfold JI;refine AB (S:=fun c=>c=(decide (i≤j)&&AN ys.toArray[i]! ys.toArray[a]!)) ?_ ?_
 ·refine Bq (fun h=>?_) (fun h=>?_)
  ·have O:i≤j:=by simp at h;omega
   have U:i<ys.length:=by omega
   refine Bl (m:=i) rfl U (Bl (m:=a) rfl K ?_);refine AM (KH (V.get U) (V.get K)) (Ak ?_);rw [JN,Gw U,Gw K];simp [O]
  ·have O:¬i≤j:=by simp at h;omega
   refine Ak ?_;simp [O]
 ·rintro c rfl;refine Bq (fun h=>?_) (fun h=>?_)
  ·refine AT ((i+1:Nat):Int) (by simp) (by omega) (by omega) ?_;rw [if_pos h];exact Ak rfl
  ·rw [if_neg h];exact Ak rfl
theorem QH{F a i:Nat}{q1 q2:Int}{ys:List PT}(O:a<ys.length)(Y:ys.length<900)(V:KO ys)(hi:1≤i)(j:Nat)(U:j<ys.length):
  JE F (a:Int) (q1,q2,ys) (i:Int) (j:Int)=some (if(decide (i≤j)&& !AN ys.toArray[j]! ys.toArray[a]!)=true then .more ((j - 1:Nat):Int) else .done (j:Int)):=by
 refine A1.LI ?_;unfold JE;refine AB (S:=fun c=>c=(decide (i≤j)&& !AN ys.toArray[j]! ys.toArray[a]!)) ?_ ?_
 ·refine Bq (fun h=>?_) (fun h=>?_)
  ·have K:i≤j:=by omega
   refine Bl (m:=j) rfl U (Bl (m:=a) rfl O ?_);refine AM (KH (V.get U) (V.get O)) (Ak ?_);rw [Gw U,Gw O,← JN,← decide_not];simp [K]
  ·have K:¬i≤j:=by omega
   refine Ak ?_;simp [K]
 ·rintro c rfl;refine Bq (fun h=>?_) (fun h=>?_)
  ·have K:i≤j:=by simp at h;exact h.1
   refine AT ((j - 1:Nat):Int) (by omega) (by omega) (by omega) ?_;rw [if_pos h];exact Ak rfl
  ·rw [if_neg h];exact Ak rfl
theorem WO{F a b:Nat}(bc:2000<F)(bd:a<b):∀(m i j fuel:Nat) (ys:List PT),j+1 - i≤m→m<fuel→a<i→i≤j+2→j<b→b≤ys.length→ys.length<900→KO ys→
  A1 (iter (IZ F (a:Int)) fuel ((i:Int),(j:Int),ys)) (fun r=>r.1=(((partLoop AN a i j ys.toArray).1:Nat):Int)∧r.2.toArray=(partLoop AN a i j ys.toArray).2∧KO r.2∧r.2.length=ys.length):=by
 intro m
 induction m with
 | zero=>?_
 | succ m a2=>?_
 all_goals
  intro i j fuel ys hm be bf a3 bg hb V U;obtain⟨fuel,rfl⟩:∃k,fuel=k+1:=⟨fuel - 1,by omega⟩;have ap:a<ys.length:=by omega
  have av:j<ys.length:=by omega
  have Y:iter (JI F (a:Int) ((i:Int),(j:Int),ys)) F (i:Int)=some ((scanUp (fun x=>AN x ys.toArray[a]!) ys.toArray j i:Nat):Int):=
   Qn (by omega) (fun a4 a5=>R0 (q2:=0) ap av V U a4 a5) (j+1 - i) i F (by omega) (by omega) a3
  have a6:=scanUp_ge (fun x=>AN x ys.toArray[a]!) ys.toArray j i;have a7:=scanUp_spec (fun x=>AN x ys.toArray[a]!) ys.toArray j _ i rfl;have O:=partLoop_eq AN a i j ys.toArray;generalize bh:scanUp (fun x=>AN x ys.toArray[a]!) ys.toArray j i=i2 at Y a6 a7 O;have Z:iter (JE F (a:Int) ((i:Int),(j:Int),ys) (i2:Int)) F (j:Int)=some ((scanDown (fun x=> !AN x ys.toArray[a]!) ys.toArray i2 j:Nat):Int):=
   P1 (n:=ys.length) (by omega) (fun a8 a9=>QH ap V U (by omega) a8 a9) j F av (by omega)
  have hle:=scanDown_le (fun x=> !AN x ys.toArray[a]!) ys.toArray i2 j;generalize bi:scanDown (fun x=> !AN x ys.toArray[a]!) ys.toArray i2 j=K at Z hle O;by_cases a0:i2>K
  ·have ag:IZ F (a:Int) ((i:Int),(j:Int),ys)=some (.done ((K:Int),ys)):=by
    refine A1.LI ?_;unfold IZ;refine AM Y (AM Z ?_);exact Bs (by omega) (Ak rfl)
   unfold iter;rw [ag];rw [if_pos a0] at O;exact⟨_,rfl,by rw [O],by rw [O],U,rfl⟩
  ·first
    | (exfalso;omega)
    | (
     have al:i2<ys.length:=by omega
     have am:K<ys.length:=by omega
     have ag:IZ F (a:Int) ((i:Int),(j:Int),ys)=some (.more (((i2+1:Nat):Int),((K - 1:Nat):Int),(ys.set i2 ys[K]).set K ys[i2])):=by
      refine A1.LI ?_
      unfold IZ
      refine AM Y ?_
      refine AM Z ?_
      refine A7 (by omega) ?_
      refine Bl (m:=K) rfl am ?_
      refine Bl (m:=i2) rfl al ?_
      refine AT ((i2+1:Nat):Int) (by simp) (by omega) (by omega) ?_
      refine AT ((K - 1:Nat):Int) (by omega) (by omega) (by omega) ?_
      exact Ak rfl
     unfold iter;rw [ag]
     rw [if_neg a0] at O
     refine(a2 (i2+1) (K - 1) fuel ((ys.set i2 ys[K]).set K ys[i2]) (by omega) (by omega) (by omega) (by omega) (by omega) (by simpa using hb) (by simpa using V) ((U.set (U.get am)).set (U.get al))).Ah ?_
     rintro r ⟨k1,a1,ba,bb⟩
     rw [IU al am,← O] at k1 a1
     exact⟨k1,a1,ba,by simpa using bb⟩)
theorem WH{F a:Nat}{j p3:Nat}{xs ys:List PT}{K O:PT}(he:(xs.set a K).set p3 O=ys)(U:a<ys.length)(V:j<ys.length)(Y:ys.length<900)(Z:KO ys)(i:Nat)(hi:i≤j+2):
  KN F xs (a:Int) (p3:Int) K O (j:Int) (i:Int)=some (if(decide (i≤j)&&AN ys.toArray[i]! ys.toArray[a]!)=true then .more ((i+1:Nat):Int) else .done (i:Int)):=by
 rw [← R0 (F:=F) (q1:=0) (q2:=0) U V Y Z i hi];unfold KN JI;simp only [Int.toNat_natCast,he]
theorem Uw{F a i p3:Nat}{xs ys:List PT}{K O:PT}(he:(xs.set a K).set p3 O=ys)(U:a<ys.length)(V:ys.length<900)(Y:KO ys)(hi:1≤i)(j:Nat)(Z:j<ys.length):
  KM F xs (a:Int) (p3:Int) K O (i:Int) (j:Int)=some (if(decide (i≤j)&& !AN ys.toArray[j]! ys.toArray[a]!)=true then .more ((j - 1:Nat):Int) else .done (j:Int)):=by
 rw [← QH (F:=F) (q1:=0) (q2:=0) U V Y hi j Z];unfold KM JE;simp only [Int.toNat_natCast,he]
theorem T7(a:Nat):∀(n i j:Nat) (d:Array PT),j+1 - i≤n→(partLoop AN a i j d).1≤j:=by
  intro n
  induction n with
  | zero=>?_
  | succ n V=>?_
  all_goals
    intro i j d Z;have K:=partLoop_eq AN a i j d;have Y:=scanUp_ge (fun x=>AN x d[a]!) d j i;generalize ag:scanUp (fun x=>AN x d[a]!) d j i=i2 at Y K;have hle:=scanDown_le (fun x=> !AN x d[a]!) d i2 j;generalize al:scanDown (fun x=> !AN x d[a]!) d i2 j=O at hle K;by_cases U:i2>O
    ·rw [K,if_pos U];exact hle
    ·first
        | (exfalso;omega)
        | (rw [K,if_neg U]
           have:=V (i2+1) (O - 1) (swp d i2 O) (by omega)
           omega)
theorem Xg{F a b pv:Nat}(a8:2000<F){xs:List PT}(bi:a≤pv)(bj:pv<b)(hb:b≤xs.length)(bl:xs.length<900)(al:KO xs):
  A1 (f185 F xs (a:Int) (b:Int) (pv:Int)) (fun r=>r.1=(((partition AN xs.toArray a b pv).1:Nat):Int)∧r.2.1=(partition AN xs.toArray a b pv).2.1∧r.2.2.toArray=(partition AN xs.toArray a b pv).2.2∧KO r.2.2∧r.2.2.length=xs.length):=by
 have am:a<xs.length:=by omega
 have ap:pv<xs.length:=by omega
 obtain⟨ys,V⟩:∃ys,(xs.set a xs[pv]).set pv xs[a]=ys:=⟨_,rfl⟩;have O:KO ys:=by rw [← V];exact(al.set (al.get ap)).set (al.get am)
 have a5:ys.length=xs.length:=by rw [← V];simp
 have a9:ys.toArray=swp xs.toArray a pv:=by rw [← V,IU am ap]
 have Z:a<ys.length:=by omega
 have a6:b - 1<ys.length:=by omega
 unfold f185;refine Bl (m:=pv) rfl ap (Bl (m:=a) rfl am ?_);refine AT ((a+1:Nat):Int) (by simp) (by omega) (by omega) (AT ((b - 1:Nat):Int) (by omega) (by omega) (by omega) ?_);have ba:iter (KN F xs (a:Int) (pv:Int) xs[pv] xs[a] ((b - 1:Nat):Int)) F ((a+1:Nat):Int)=some ((scanUp (fun x=>AN x ys.toArray[a]!) ys.toArray (b - 1) (a+1):Nat):Int):=
  Qn (by omega) (fun bb bc=>WH V Z a6 (by omega) O bb bc) (b - 1+1 - (a+1)) (a+1) F (by omega) (by omega) (by omega)
 refine AM ba ?_;have bd:=scanUp_ge (fun x=>AN x ys.toArray[a]!) ys.toArray (b - 1) (a+1);have U:partition AN xs.toArray a b pv=if scanUp (fun x=>AN x ys.toArray[a]!) ys.toArray (b - 1) (a+1)>scanDown (fun x=> !AN x ys.toArray[a]!) ys.toArray (scanUp (fun x=>AN x ys.toArray[a]!) ys.toArray (b - 1) (a+1)) (b - 1) then
   (scanDown (fun x=> !AN x ys.toArray[a]!) ys.toArray (scanUp (fun x=>AN x ys.toArray[a]!) ys.toArray (b - 1) (a+1)) (b - 1),true,swp ys.toArray (scanDown (fun x=> !AN x ys.toArray[a]!) ys.toArray (scanUp (fun x=>AN x ys.toArray[a]!) ys.toArray (b - 1) (a+1)) (b - 1)) a) else
   ((partLoop AN a (scanUp (fun x=>AN x ys.toArray[a]!) ys.toArray (b - 1) (a+1)+1) (scanDown (fun x=> !AN x ys.toArray[a]!) ys.toArray (scanUp (fun x=>AN x ys.toArray[a]!) ys.toArray (b - 1) (a+1)) (b - 1) - 1) (swp ys.toArray (scanUp (fun x=>AN x ys.toArray[a]!) ys.toArray (b - 1) (a+1)) (scanDown (fun x=> !AN x ys.toArray[a]!) ys.toArray (scanUp (fun x=>AN x ys.toArray[a]!) ys.toArray (b - 1) (a+1)) (b - 1)))).1,false,
    swp (partLoop AN a (scanUp (fun x=>AN x ys.toArray[a]!) ys.toArray (b - 1) (a+1)+1) (scanDown (fun x=> !AN x ys.toArray[a]!) ys.toArray (scanUp (fun x=>AN x ys.toArray[a]!) ys.toArray (b - 1) (a+1)) (b - 1) - 1) (swp ys.toArray (scanUp (fun x=>AN x ys.toArray[a]!) ys.toArray (b - 1) (a+1)) (scanDown (fun x=> !AN x ys.toArray[a]!) ys.toArray (scanUp (fun x=>AN x ys.toArray[a]!) ys.toArray (b - 1) (a+1)) (b - 1)))).2
     (partLoop AN a (scanUp (fun x=>AN x ys.toArray[a]!) ys.toArray (b - 1) (a+1)+1) (scanDown (fun x=> !AN x ys.toArray[a]!) ys.toArray (scanUp (fun x=>AN x ys.toArray[a]!) ys.toArray (b - 1) (a+1)) (b - 1) - 1) (swp ys.toArray (scanUp (fun x=>AN x ys.toArray[a]!) ys.toArray (b - 1) (a+1)) (scanDown (fun x=> !AN x ys.toArray[a]!) ys.toArray (scanUp (fun x=>AN x ys.toArray[a]!) ys.toArray (b - 1) (a+1)) (b - 1)))).1 a):=by
  rw [a9];rfl
 generalize bm:scanUp (fun x=>AN x ys.toArray[a]!) ys.toArray (b - 1) (a+1)=i2 at bd U ⊢;have be:iter (KM F xs (a:Int) (pv:Int) xs[pv] xs[a] (i2:Int)) F ((b - 1:Nat):Int)=some ((scanDown (fun x=> !AN x ys.toArray[a]!) ys.toArray i2 (b - 1):Nat):Int):=
  P1 (n:=ys.length) (by omega) (fun bf bg=>Uw V Z (by omega) O (by omega) bf bg) (b - 1) F a6 (by omega)
 refine AM be ?_;have hle:=scanDown_le (fun x=> !AN x ys.toArray[a]!) ys.toArray i2 (b - 1);generalize bn:scanDown (fun x=> !AN x ys.toArray[a]!) ys.toArray i2 (b - 1)=K at hle U ⊢;have Y:K<ys.length:=by omega
 simp only [Int.toNat_natCast,V];refine Bq (fun h=>?_) (fun h=>?_)
 ·have av:i2>K:=by omega
  rw [if_pos av] at U;refine Bl (m:=a) rfl Z (Bl (m:=K) rfl Y ?_);refine Ak ?_;rw [U];exact⟨rfl,rfl,IU Y Z,(O.set (O.get Z)).set (O.get Y),by simp [a5]⟩
 ·have av:¬i2>K:=by omega
  have a0:i2<ys.length:=by omega
  rw [if_neg av] at U;refine Bl (m:=K) rfl Y (Bl (m:=i2) rfl a0 ?_);refine AT ((i2+1:Nat):Int) (by simp) (by omega) (by omega) (AT ((K - 1:Nat):Int) (by omega) (by omega) (by omega) ?_);refine AB (WO (F:=F) a8 (show a<b by omega) (K - 1+1 - (i2+1)) (i2+1) (K - 1) F ((ys.set i2 ys[K]).set K ys[i2]) (by omega) (by omega) (by omega) (by omega) (by omega) (by simp;omega) (by simp;omega) ((O.set (O.get Y)).set (O.get a0))) ?_;rintro r ⟨k1,a1,ag,a7⟩;rw [IU a0 Y] at k1 a1;have bh:=T7 a _ (i2+1) (K - 1) (swp ys.toArray i2 K) (Nat.le_refl _);obtain⟨bo,a2⟩:=r;simp only at k1 a1 ag a7 ⊢;subst k1;rw [← a1] at U;have hlen:a2.length=ys.length:=by simpa using a7
  generalize (partLoop AN a (i2+1) (K - 1) (swp ys.toArray i2 K)).1=pm at bh U ⊢;have a3:pm<a2.length:=by omega
  have a4:a<a2.length:=by omega
  refine Bl (m:=a) rfl a4 (Bl (m:=pm) rfl a3 ?_);refine Ak ?_;rw [U];exact⟨rfl,rfl,IU a3 a4,(ag.set (ag.get a4)).set (ag.get a3),by simp [hlen,a5]⟩
end Pal
namespace Pal
open Go.Sort
theorem Ys(F:Nat):∀n:Nat,n<13→∃l,f163 F (Di (n:Int))=some l:=by
 intro n K
 match n,K with
 | 0,_=>exact⟨_,rfl⟩
 | 1,_=>exact⟨_,rfl⟩
 | 2,_=>exact⟨_,rfl⟩
 | 3,_=>exact⟨_,rfl⟩
 | 4,_=>exact⟨_,rfl⟩
 | 5,_=>exact⟨_,rfl⟩
 | 6,_=>exact⟨_,rfl⟩
 | 7,_=>exact⟨_,rfl⟩
 | 8,_=>exact⟨_,rfl⟩
 | 9,_=>exact⟨_,rfl⟩
 | 10,_=>exact⟨_,rfl⟩
 | 11,_=>exact⟨_,rfl⟩
 | 12,_=>exact⟨_,rfl⟩
 | n+13,h=>omega
theorem VP(F:Nat):f163 F (Di ((13:Nat):Int))=some 4:=rfl
def Is(xs:List PT)(d:Array PT)(ys:List PT):Prop:=ys.toArray=d∧KO ys∧ys.length=xs.length
theorem P5{F a b:Nat}{l:Int}{xs:List PT}(K:2000<F)(O:a≤b)(ap:b≤a+12)(hb:b≤xs.length)(av:xs.length<900)(U:KO xs):
  A1 (IA F xs (a:Int) (b:Int) l) (Is xs (insertionSort AN xs.toArray a b)):=by
 unfold IA;refine AB (S:=fun r=>∃ys,r=Sum.inl ys∧Is xs (insertionSort AN xs.toArray a b) ys) ?_ ?_
 ·obtain⟨V,rfl⟩:∃k,F=k+1:=⟨F - 1,by omega⟩;obtain⟨ys,Y,Z,ag,al⟩:=RS K hb (by omega) U O;have am:Mm (V+1) xs (a:Int) (b:Int) l ()=some (.done (Sum.inl ys)):=by
   refine A1.LI ?_;unfold Mm;refine AT ((b - a:Nat):Int) (by omega) (by omega) (by omega) (Bs (by omega) ?_);exact AM Y (Ak rfl)
  unfold iter;rw [am];exact⟨_,rfl,ys,rfl,Z,ag,al⟩
 ·rintro r ⟨ys,rfl,h⟩;exact Ak h
theorem N4{F a b:Nat}{l:Int}{wb wp:Bool}{xs:List PT}(K:2000<F)(O:a≤b)(al:b≤a+12)(hb:b≤xs.length)(am:xs.length<900)(U:KO xs):
  A1 (Hk F l ((a:Int),(b:Int),wb,wp,xs)) (fun st=>∃ys,st= .done (Sum.inl ys)∧Is xs (insertionSort AN xs.toArray a b) ys):=by
 obtain⟨ys,V,Y,Z,ag⟩:=RS K hb (by omega) U O;unfold Hk;refine AB (S:=fun r=>r=Sum.inl ys) ?_ ?_
 ·refine AT ((b - a:Nat):Int) (by dsimp only;omega) (by omega) (by omega) (Bs (by omega) ?_);exact AM V (Ak rfl)
 ·rintro r rfl;exact Ak ⟨ys,rfl,Y,Z,ag⟩
theorem UG{F n:Nat}{l:Int}{xs:List PT}(O:2000<F)(ag:n=xs.length)(al:n≤12)(U:KO xs):
  A1 (f162 F xs 0 (n:Int) l) (Is xs (insertionSort AN xs.toArray 0 n)):=by
 unfold f162;refine AB (S:=fun r=>∃ys,r=Sum.inl ys∧Is xs (insertionSort AN xs.toArray 0 n) ys) ?_ ?_
 ·obtain⟨K,rfl⟩:∃k,F=k+1:=⟨F - 1,by omega⟩;obtain⟨st,V,ys,rfl,Y⟩:=N4 (F:=K+1) (a:=0) (b:=n) (l:=l) (wb:=true) (wp:=true) (xs:=xs) O (by omega) (by omega) (by omega) (by omega) U;have Z:Hk (K+1) l (0,(n:Int),true,true,xs)=some (.done (Sum.inl ys)):=V;unfold iter;rw [Z];exact⟨_,rfl,ys,rfl,Y⟩
 ·rintro r ⟨ys,rfl,h⟩;exact Ak h
theorem Wt{S A:Type}{body:S→Option (Bh S A)}{F:Nat}{s s':S}(h:body s=some (.more s')){Q:A→Prop}(k:A1 (iter body F s') Q):A1 (iter body (F+1) s) Q:=by
 unfold iter;rw [h];exact k
theorem WK{S A:Type}{body:S→Option (Bh S A)}{F:Nat}{s:S}{Q:A→Prop}(h:A1 (body s) (fun st=>∃a,st= .done a∧Q a)):A1 (iter body (F+1) s) Q:=by
 obtain⟨st,K,a,rfl,O⟩:=h;unfold iter;rw [K];exact⟨a,rfl,O⟩
set_option maxHeartbeats 1000000 in
theorem WU{F:Nat}{xs:List PT}(bV:3000<F)(bp:xs.length=13)(a7:KO xs):
  A1 (f162 F xs 0 ((13:Nat):Int) 4) (Is xs (pdq AN xs.toArray 0 13 4 true true)):=by
 have bq:xs.toArray.size=13:=by simpa using bp
 obtain⟨s1,B1,bW,s2,bY,a8,bZ,b0⟩:=rd_facts (lt:=AN) (d:=xs.toArray) (a:=0) (b:=13) (limit:=4) (wb:=true) (wp:=true) Mx partialInsertionSort_holds reverseRange_holds (by omega) (by rw [bq];omega) (.inl rfl);have a9:¬(13 - 0≤12):=by omega
 have bh:=Yn (F:=F) (a:=0) (b:=13) (xs:=xs) (by omega) (by omega) (by omega) (by omega) a7;have br:choosePivot AN xs.toArray 0 13=(rd AN xs.toArray 0 13 4 true true).c:=rfl;rw [br] at bh;generalize K:rd AN xs.toArray 0 13 4 true true=R at*;have bu:R.lim=4:=by rw [← K];rfl
 have bv:R.c.2= .decreasing→R.d2=reverseRange xs.toArray 0 13∧R.pivot=(13 - 1) - (R.c.1 - 0)∧R.hint= .increasing:=by
  intro h;rw [← K] at h ⊢;exact rd_dec h
 have bw:R.c.2≠ .decreasing→R.d2=xs.toArray∧R.pivot=R.c.1∧R.hint=R.c.2:=by
  intro h;rw [← K] at h ⊢;exact rd_not h
 have bx:R.hint= .increasing→R.pi=partialInsertionSort AN R.d2 0 13:=by
  intro h;rw [← K] at h ⊢;exact rd_pi_yes (by simp [h])
 have bz:R.hint≠ .increasing→R.pi=(R.d2,false):=by
  intro h;rw [← K] at h ⊢;exact rd_pi_no (by simp [h])
 have bA:A1 (if Iy R.c.2=2 then(f182 F xs 0 ((13:Nat):Int)).bind fun bB=>(As (((13:Nat):Int) - 1)).bind fun bC=>(As (((R.c.1:Nat):Int) - 0)).bind fun bD=>(As (bC - bD)).bind fun bE=>some (bE,(1:Int),bB) else some (((R.c.1:Nat):Int),Iy R.c.2,xs))
   (fun q=>q.1=((R.pivot:Nat):Int)∧q.2.1=Iy R.hint∧Is xs R.d2 q.2.2):=by
  by_cases a1:R.c.2= .decreasing
  ·obtain⟨am,ap,Y⟩:=bv a1;refine Bs (by rw [a1];rfl) (AB (Xq (F:=F) (a:=0) (b:=13) (xs:=xs) (by omega) (by omega) (by omega) (by omega) a7) ?_);rintro ys ⟨k1,U,V⟩;refine AT 12 (by omega) (by omega) (by omega) (AT ((R.c.1:Nat):Int) (by omega) (by omega) (by omega) ?_);refine AT ((12 - R.c.1:Nat):Int) (by omega) (by omega) (by omega) (Ak ⟨?_,?_,?_,U,V⟩)
   ·rw [ap];rfl
   ·rw [Y];rfl
   ·rw [am];exact k1
  ·obtain⟨am,ap,Y⟩:=bw a1;refine A7 (by intro h;cases ba:R.c.2 <;> rw [ba] at h a1 <;> first | (exact a1 rfl) | (cases h)) ?_
   refine Ak ⟨?_,?_,?_,a7,rfl⟩
   ·rw [ap]
   ·rw [Y]
   ·rw [am]
 unfold f162;refine AB (S:=fun r=>∃ys,r=Sum.inl ys∧Is xs (pdq AN xs.toArray 0 13 4 true true) ys) ?_ (by rintro r ⟨ys,rfl,h⟩;exact Ak h);have bF:∀(Z:List PT),Is xs R.pi.1 Z→R.pi.2=false→
   A1 ((f185 F Z 0 ((13:Nat):Int) ((R.pivot:Nat):Int)).bind fun O=>(As (O.1 - 0)).bind fun bi=>(As (((13:Nat):Int) - O.1)).bind fun bj=>(Hw (13:Int) (8)).bind fun bl=>
     Option.bind (
      if bi<bj then(
       (IA F O.2.2 0 O.1 4).bind fun bG=>
       (As (O.1+1)).bind fun bH=>
       some (bH,((13:Nat):Int),decide (bl≤bi),bG)
      ) else(
       (As (O.1+1)).bind fun bI=>
       (IA F O.2.2 bI ((13:Nat):Int) 4).bind fun bJ=>
       some ((0:Int),O.1,decide (bl≤bj),bJ)
      )
     ) fun a5=>
     some (a5.1,a5.2.1,a5.2.2.1,O.2.1,a5.2.2.2))
    (fun st=>A1 (Hk F 4 st) (fun q=>∃a,q= .done a∧∃ys,a=Sum.inl ys∧Is xs (pdq AN xs.toArray 0 13 4 true true) ys)):=by
  intro Z bK bm;obtain⟨z1,bL,b1⟩:=bK;have b2:Z.length=13:=by omega
  refine AB (Xg (F:=F) (a:=0) (b:=13) (pv:=R.pivot) (xs:=Z) (by omega) (by omega) a8.2 (by omega) (by omega) bL) ?_;rw [z1];have ag:=partition_holds AN Mx R.pi.1 0 13 R.pivot a8.1 a8.2 (by omega);have a2:=fun bb=>pdq_left (lt:=AN) (d:=xs.toArray) (a:=0) (b:=13) (limit:=4) (wb:=true) (wp:=true) a9 (by omega) (by rw [K];exact bm) (by simp) (by rw [K];exact⟨ag.1,ag.2.1⟩) bb;have a3:=fun bb=>pdq_right (lt:=AN) (d:=xs.toArray) (a:=0) (b:=13) (limit:=4) (wb:=true) (wp:=true) a9 (by omega) (by rw [K];exact bm) (by simp) (by rw [K];exact⟨ag.1,ag.2.1⟩) bb;rw [K] at a2 a3;rw [bu] at a2 a3;generalize partition AN R.pi.1 0 13 R.pivot=PA at ag a2 a3 ⊢;obtain⟨m,b3,d4⟩:=PA;rintro⟨b4,bM,al⟩ ⟨k1,U,V,bc,bN⟩;simp only at k1 U V bc bN ag a2 a3 ⊢;subst k1 U;have hm:m<13:=ag.2.1;have b5:al.length=13:=by omega
  refine AT (m:Int) (by omega) (by omega) (by omega) (AT ((13 - m:Nat):Int) (by omega) (by omega) (by omega) ?_);refine AM (b:=1) rfl ?_;by_cases bn:m - 0<13 - m
  ·refine AB (S:=fun q=>∃us,q=(((m+1:Nat):Int),((13:Nat):Int),decide ((1:Int)≤(m:Int)),us)∧Is al (insertionSort AN al.toArray 0 m) us) ?_ ?_
   ·refine Bs (by omega) (AB (P5 (F:=F) (a:=0) (b:=m) (l:=4) (xs:=al) (by omega) (by omega) (by omega) (by omega) (by omega) bc) ?_);intro us bd;exact AT ((m+1:Nat):Int) (by simp) (by omega) (by omega) (Ak ⟨us,rfl,bd⟩)
   ·rintro q ⟨us,rfl,u1,u2,bO⟩;refine Ak ?_;refine(N4 (F:=F) (a:=m+1) (b:=13) (l:=4) (xs:=us) (by omega) (by omega) (by omega) (by omega) (by omega) u2).Ah ?_;rintro st ⟨ys,rfl,v1,v2,bP⟩;refine⟨_,rfl,ys,rfl,?_,v2,by omega⟩;rw [v1,u1,V,a2 bn,pdq_small (by omega),pdq_small (by omega)]
  ·refine AB (S:=fun q=>∃us,q=((0:Int),(m:Int),decide ((1:Int)≤((13 - m:Nat):Int)),us)∧Is al (insertionSort AN al.toArray (m+1) 13) us) ?_ ?_
   ·refine A7 (by omega) (AT ((m+1:Nat):Int) (by simp) (by omega) (by omega) ?_);refine AB (P5 (F:=F) (a:=m+1) (b:=13) (l:=4) (xs:=al) (by omega) (by omega) (by omega) (by omega) (by omega) bc) ?_;intro us bd;exact Ak ⟨us,rfl,bd⟩
   ·rintro q ⟨us,rfl,u1,u2,bO⟩;refine Ak ?_;have:=N4 (F:=F) (a:=0) (b:=m) (l:=4) (wb:=decide ((1:Int)≤((13 - m:Nat):Int))) (wp:=bM) (xs:=us) (by omega) (by omega) (by omega) (by omega) (by omega) u2;refine A1.Ah this ?_;rintro st ⟨ys,rfl,v1,v2,bP⟩;refine⟨_,rfl,ys,rfl,?_,v2,by omega⟩;rw [v1,u1,V,a3 bn,pdq_small (by omega),pdq_small (by omega)]
 have bQ:A1 (Hk F 4 (0,((13:Nat):Int),true,true,xs)) (fun st=>(∃a,st= .done a∧∃ys,a=Sum.inl ys∧Is xs (pdq AN xs.toArray 0 13 4 true true) ys)∨
   ∃s',st= .more s'∧A1 (Hk F 4 s') (fun q=>∃a,q= .done a∧∃ys,a=Sum.inl ys∧Is xs (pdq AN xs.toArray 0 13 4 true true) ys)):=by
  unfold Hk;refine AB (S:=fun r=>(∃ys,r=Sum.inl ys∧Is xs (pdq AN xs.toArray 0 13 4 true true) ys)∨∃s',r=Sum.inr s'∧A1 (Hk F 4 s') (fun q=>∃a,q= .done a∧∃ys,a=Sum.inl ys∧Is xs (pdq AN xs.toArray 0 13 4 true true) ys)) ?_ ?_
  ·refine AT 13 (by dsimp only;omega) (by omega) (by omega) (A7 (by omega) ?_);refine A7 (by omega) (AB (S:=fun _=>True) (A7 (by simp) (Ak trivial)) fun _ _=>?_);refine AM bh (AB bA ?_);rintro⟨q1,q2,av⟩ ⟨am,ap,Y⟩;simp only at am ap Y ⊢;subst am ap;refine AM (b:=true) (by simp) (AM (b:=decide (Iy R.hint=1)) (by simp) ?_);have bR:A1 (if(decide (Iy R.hint=1))=true then(f183 F av 0 ((13:Nat):Int)).bind fun be=>if be.1=true then some (Sum.inl be.2) else some (Sum.inr be.2) else some (Sum.inr av))
     (fun r=>(R.pi.2=true∧∃ys,r=Sum.inl ys∧Is xs R.pi.1 ys)∨(R.pi.2=false∧∃ys,r=Sum.inr ys∧Is xs R.pi.1 ys)):=by
    by_cases hh:R.hint= .increasing
    ·refine Bs (by rw [hh];rfl) ?_;obtain⟨k1,U,V⟩:=Y;obtain⟨bf,g2⟩:=Xh (F:=F) (a:=0) (b:=13) (xs:=av) (by omega) (by omega) (by omega) (by omega) (by omega) U;rw [k1] at bf g2;rw [← bx hh] at bf g2;refine AM bf (Bq (fun h=>?_) (fun h=>?_))
     ·exact Ak (.inl ⟨h,av,rfl,by rw [g2];exact k1,U,V⟩)
     ·exact Ak (.inr ⟨by simpa using h,av,rfl,by rw [g2];exact k1,U,V⟩)
    ·refine A7 (by intro h;cases ba:R.hint <;> rw [ba] at h hh <;> first | (exact hh rfl) | (simp [Iy] at h)) ?_
     rw [bz hh];exact Ak (.inr ⟨rfl,av,rfl,Y⟩)
   refine AB bR ?_;rintro r (⟨p2,ys,rfl,bg⟩ | ⟨p2,Z,rfl,bS⟩)
   ·refine Ak (.inl ⟨ys,rfl,?_⟩);rw [pdq_done a9 (by omega) (by rw [K];exact p2),K];exact bg
   ·rw [Sum.elim_inr];refine AB (S:=fun c=>c=false) (A7 (by omega) (Ak rfl)) ?_;rintro c rfl;refine A7 (by simp) ?_;obtain⟨s',a0,a4⟩:=bF Z bS p2;have b6:∀{α β:Type} (o:Option α) (f:α→Option β) (g:β→(List PT)⊕(Int×Int×Bool×Bool×List PT)),True:=fun _ _ _=>trivial;refine A1.of_eq (a:=Sum.inr s') ?_ (.inr ⟨s',rfl,a4⟩);have key:∀(o:Option (Int×Int×Bool×Bool×List PT)),o=some s'→(o.bind fun x=>some (Sum.inr x:List PT⊕(Int×Int×Bool×Bool×List PT)))=some (Sum.inr s'):=fun o bT=>by rw [bT];rfl
    refine Eq.trans ?_ (key _ a0);simp only [Option.bind_assoc,Option.bind_some]
  ·rintro r (⟨ys,rfl,bg⟩ | ⟨s',rfl,bU⟩)
   ·exact Ak (.inl ⟨_,rfl,ys,rfl,bg⟩)
   ·exact Ak (.inr ⟨s',rfl,bU⟩)
 obtain⟨b7,bo⟩:∃k,F=k+2:=⟨F - 2,by omega⟩;obtain⟨st,a0,a4 | a4⟩:=bQ
 ·obtain⟨a,rfl,a6⟩:=a4;rw [bo] at a0 ⊢;unfold iter;rw [a0];exact⟨a,rfl,a6⟩
 ·obtain⟨s',rfl,a6⟩:=a4;rw [bo] at a0 a6 ⊢;exact Wt a0 (WK a6)
end Pal
namespace Pal
open Go Go.Conc Go.Proofs
open Go.Proofs.Tryz
variable {J:Judge Tryz.prog}{E:LH}
def QS(fuel:Nat)(p1:Int)(K:Int)(U:Unit):Option (Bh Unit Unit):= Option.bind (if p1<K then(none) else(some false)) fun O=> if O=true then((As (K - 1)).bind fun V=> (As (K - 1)).bind fun Y=> none) else(some (.done ()))
def Q1(fuel:Nat)(p1:Int)(p2:Int)(K:Int):Option (Bh Int Unit):= if K<p2 then(Option.bind (iter (QS fuel p1 K) fuel ()) fun U=> (As (K+1)).bind fun O=> some (.more O)) else(some (.done ()))
def Pl(fuel:Nat)(p1:Int)(p2:Int):Option Unit:= (As (p1+1)).bind fun K=> Option.bind (iter (Q1 fuel p1 p2) fuel K) fun O=> some ()
theorem XT{p1:Int}{p2:Int}{fuel:Nat}{r:Unit}(V:Pl fuel p1 p2=some r):AK J 178 [nS,iV p1,iV p2,(fV 134)] E [] (fun w E' B'=>w= .tuple #[]∧B'= []):=by
 refine A4 func178 fun Q bJ cs H a2 a3=>?_;unfold Pl at V;obtain⟨bK,a4,a5⟩:=bs V;refine zg 3 rfl (Bb a4 rfl rfl rfl ?_);obtain⟨bL,a6,a7⟩:=bs a5;refine zg 2 rfl (CM [] [] (fun bM a8 a9=>?_) (fun ba=>?_))
 ·obtain rfl:=oi a7;exact JL.fin (v:= .tuple #[]) rfl rfl (Ch.list func178 rfl (vs:= []) trivial) (a3 a8 rfl ⟨rfl,rfl⟩ a9)
 ·refine JL.block (Cu a6 (fun K=> []) (fun K=> [(0,.slice none 0 0),(1,iV p1),(2,iV p2),(3,(fV 134)),(8,iV K)]) Ar a2 ?_);rintro K bN Y Z bb ⟨bO,O⟩ bc;have ag:=O;unfold Q1 at ag;refine zg 7 rfl (AL ag (fun bd be=>?_) (fun bd bf=>?_))
  ·obtain⟨bP,bg,bh⟩:=bs be;refine zg 8 rfl (CM [] [(0,.slice none 0 0),(1,iV p1),(2,iV p2),(3,(fV 134)),(8,iV K)] (fun bQ bi bj=>?_) (fun bl=>?_))
   ·obtain⟨bm,bn,bo⟩:=bs bh;refine zg 3 rfl (Bb bn rfl rfl rfl ?_);refine zg 2 rfl ?_;obtain rfl:=oi bo;exact bc bm (Y.Ab bi) bj rfl O
   ·refine JL.block (Cu bg (fun al=> []) (fun al=> [(0,.slice none 0 0),(1,iV p1),(2,iV p2),(3,(fV 134)),(8,iV K),(9,iV K)]) Ar Z ?_);rintro al am bp bq br ⟨bR,ap⟩ bS;have av:=ap;unfold QS at av;refine zg 2 rfl (CW 17 fun ht=>?_);refine AW ht rfl [0,1,2,3] rfl ?_;obtain⟨bu,a0,bv⟩:=bs av;refine Ed 0 #[true,true,true,true,true,true,true,true,true,true,true,true,true,true,true,true,true] (fun L s=>∃(a1:LH),Jm am H a1 [] [(0,.slice none 0 0),(1,iV p1),(2,iV p2),(3,(fV 134)),(8,iV K),(9,iV K),(34,.bool bu)] L s) ?_ ?_
    ·rintro _ _ ⟨a1,rfl,rfl,bw,bx⟩;refine AU.fin (by decide+kernel) (BJ bv (fun bz bA=>?_) (fun bz bB=>?_))
     ·refine zg 3 rfl (CW 16 fun ht=>?_);refine AW ht rfl [0,1,2,3] rfl ?_;obtain⟨bT,bC,bD⟩:=bs bA;refine By 4 ht rfl rfl (fun ρ h s' hs=>C9 (h _ _ rfl) (h _ _ rfl) bC) (AW ht rfl [5,6] rfl ?_);obtain⟨bU,bE,bF⟩:=bs bD;refine By 7 ht rfl rfl (fun ρ h s' hs=>C9 (h _ _ rfl) (h _ _ rfl) bE) ?_;cases bF
     ·refine JL.exit rfl ?_;obtain rfl:=oi bB;obtain rfl:=br _ ap;exact bl (bp.Ab bw) bx rfl
    ·intro bG;refine Fa (q:=p1<K) (i:=21) rfl (fun U=>?_) (fun U=>?_)
     ·have bH:=ip a0 U;refine AW ht rfl [4,5,6] rfl ?_;cases bH
     ·have bI:=im a0 U;refine AW ht rfl [4,5,6,7,8,9,10,11,12,13,14,15,16] rfl ?_;obtain rfl:=oi bI;refine CE ?_ (bG _ _ ⟨am,rfl,rfl,Ar,bq⟩);exact⟨rfl,rfl,rfl,rfl,rfl,rfl,rfl,trivial⟩
  ·refine JL.exit rfl ?_;obtain rfl:=oi bf;obtain rfl:=bb _ O;exact ba Y Z rfl
def Rr(fuel:Nat)(p1:Int)(p2:Int)(p3:Int)(O:Unit):Option (Bh Unit ((Unit)⊕(Unit))):= (As (p2 - p1)).bind fun K=> if K≤12 then((Pl fuel p1 p2).bind fun U=> some (.done (Sum.inl ()))) else(if p3=0 then(none) else(none))
def Pg(fuel:Nat)(p1:Int)(p2:Int)(p3:Int):Option Unit:= Option.bind (iter (Rr fuel p1 p2 p3) fuel ()) fun K=> Sum.elim (fun r=>some r) (fun O=> none) K
theorem WN{p1:Int}{p2:Int}{p3:Int}{fuel:Nat}{r:Unit}(K:Pg fuel p1 p2 p3=some r):AK J 162 [nS,iV p1,iV p2,iV p3,(fV 134)] E [] (fun w E' B'=>w= .tuple #[]∧B'= []):=by
 refine A4 func162 fun Q be cs H Y Z=>?_;unfold Pg at K;obtain⟨bf,ag,al⟩:=bs K;refine zg 8 rfl (Bt (fun L s=>False) ?_ ?_)
 ·intro _ _ am;exact am.elim
 ·intro bg;refine JL.block (Cu ag (fun O=> []) (fun O=> [(0,.slice none 0 0),(1,iV p1),(2,iV p2),(3,iV p3),(4,(fV 134)),(10,.bool true),(11,.bool true)]) Ar Y ?_);rintro O bh ap av a0 ⟨bi,U⟩ bj;have V:=U;unfold Rr at V;obtain⟨bl,a1,a2⟩:=bs V;refine zg 5 rfl (Cg a1 rfl rfl rfl ?_);refine zg 8 rfl (AL a2 (fun a3 a4=>?_) (fun a3 a5=>?_))
  ·obtain⟨bm,a6,a7⟩:=bs a4;refine zg 6 rfl (BF (XT a6) rfl rfl NW av fun bn a8 a9=>?_);refine JL.done ?_;obtain rfl:=oi a7;obtain rfl:=a0 _ U;have ba:=elim_inl al;obtain rfl:=oi ba;exact AD func162 rfl rfl (Z (ap.Ab a8) rfl ⟨rfl,rfl⟩ a9)
  ·refine zg 7 rfl (AL a5 (fun bb bc=>?_) (fun bb bd=>?_))
   ·refine zg 6 rfl ?_;cases bc
   ·refine zg 5 rfl (AF (v:= .bool false) rfl (fun ρ h=>Yl.not (c:=true) (h _ _ rfl)) ?_);refine zg 9 rfl ?_;cases bd
def Tk(fuel:Nat):Option Unit:= (f163 fuel (Di ((0:Nat):Int))).bind fun K=> (Pg fuel 0 ((0:Nat):Int) K).bind fun O=> some ()
theorem Xf{fuel:Nat}{r:Unit}(K:Tk fuel=some r):AK J 133 [nS,(fV 134)] E [] (fun w E' B'=>w= .tuple #[]∧B'= []):=by
 refine A4 func133 fun Q a0 cs H O U=>?_;unfold Tk at K;refine zg 3 rfl (Bj underlying130 rfl rfl rfl ?_);refine zg 6 rfl (AF (v:= .int .u64 ((Di ((0:Nat):Int):Nat):Int)) rfl (fun ρ h=>Yl.Di underlying3 underlying156 (h _ _ rfl)) ?_);obtain⟨a1,V,Y⟩:=bs K;refine BF (SQ V) rfl rfl (AS func163 rfl) O fun a2 Z ag=>?_;obtain⟨a3,al,am⟩:=bs Y;refine zg 1 rfl (BF (WN al) rfl rfl LU ag fun a4 ap av=>?_);refine JL.done ?_;obtain rfl:=oi am;exact JL.fin (v:= .tuple #[]) rfl rfl (Ch.list func133 rfl (vs:= []) trivial) (U (Z.Ab ap) rfl ⟨rfl,rfl⟩ av)
end Pal
namespace Pal
open Go Go.Conc Go.Proofs Go.Sort
theorem UO:∀(ys K:List PT),K.Perm ys→ys.Pairwise (fun p q=>p.1<q.1)→K.Pairwise (fun p q=>p.1≤q.1)→K=ys:=by
 intro ys
 induction ys with
 | nil=>intro K h _ _;exact h.eq_nil
 | cons y ys Z=>
  intro K h O U;cases K with
  | nil=>exact absurd h.symm.eq_nil (by simp)
  | cons z K=>
   rw [List.pairwise_cons] at O U;have V:z∈y::ys:=h.mem_iff.1 (by simp);have Y:y∈z::K:=h.mem_iff.2 (by simp);have e:z=y:=by
    rcases List.mem_cons.1 V with e | V
    ·exact e
    ·rcases List.mem_cons.1 Y with e | Y
     ·exact e.symm
     ·have:=O.1 z V;have:=U.1 y Y;omega
   subst e;rw [Z K ((List.perm_cons z).1 h) O.2 U.2]
theorem XM{F:Nat}{xs ys:List PT}(av:3000<F)(a7:xs.length≤13)(Y:KO xs)(a0:ys.Perm xs)(hs:ys.Pairwise (fun p q=>p.1<q.1)):f133 F xs=some ys:=by
 have fin:∀(d:Array PT) (K:List PT),PermIn 0 xs.toArray.size xs.toArray d→SortedIn AN 0 xs.toArray.size d→K.toArray=d→K=ys:=by
  rintro d K Z a1 rfl;have ag:K.Perm xs:=by
   have al:=Z.2.2;have O:=Z.1;simp only [List.size_toArray] at O al;have a2:(K.toArray.extract 0 xs.length).toList=K:=by simp [← O]
   have a3:(xs.toArray.extract 0 xs.length).toList=xs:=by simp
   rwa [a2,a3] at al
  refine UO ys K (ag.trans a0.symm) hs ?_;rw [List.pairwise_iff_getElem];intro i j hi am a4;have h:=a1 i j (Nat.zero_le _) a4 (by simpa using (ag.length_eq▸am));rw [Gw hi,Gw am] at h;simpa [AN] using h
 have h:A1 (f133 F xs) (fun K=>K=ys):=by
  unfold f133;rcases Nat.lt_or_ge xs.length 13 with ap | ap
  ·obtain⟨l,O⟩:=Ys F xs.length ap;refine AM O (AB (UG (F:=F) (n:=xs.length) (l:=l) (by omega) rfl (by omega) Y) ?_);rintro K ⟨k1,a5,a6⟩;obtain⟨V,g2⟩:=insertionSort_holds Mx xs.toArray 0 xs.length (Nat.zero_le _) (by simp);exact Ak (fin _ K (by simpa using V) (by simpa using g2) k1)
  ·have U:xs.length=13:=by omega
   refine AM (b:=4) (by rw [U];exact VP F) ?_;rw [U];refine AB (WU (F:=F) (xs:=xs) av U Y) ?_;rintro K ⟨k1,a5,a6⟩;obtain⟨V,g2⟩:=pdq_sorts AN Mx xs.toArray 0 13 4 true true (Nat.zero_le _) (by simp [U]) (.inl rfl);have e:xs.toArray.size=13:=by simpa using U
   exact Ak (fin _ K (by rw [e];exact V) (by rw [e];exact g2) k1)
 obtain⟨K,O,rfl⟩:=h;exact O
theorem YR{J:Judge Tryz.prog}{E:LH}{a:Option Addr}{c:Nat}{g:Seg}{xs ys:List PT}(U:xs.length≤13)(V:KO xs)(O:ys.Perm xs)(hs:ys.Pairwise (fun p q=>p.1<q.1))(Y:OL 133 (rP rI (rP rI (rL (rP rI (rP (rL rI) (rN .u16)))))) E a c g xs):
  AK J 133 [.slice a xs.length c,.func (.func 134) #[] #[]] E g (fun w E' B'=>w= .tuple #[]∧OL 133 (rP rI (rP rI (rL (rP rI (rP (rL rI) (rN .u16)))))) E' a c B' ys):=by
 rcases Y.cases with⟨rfl,rfl,rfl,rfl⟩ | ⟨bk,f,rfl,rfl,hW⟩
 ·obtain rfl:ys= []:=O.eq_nil;refine(Xf (fuel:=10) (r:=()) rfl).Ah ?_;rintro w E' B' hle ⟨K,rfl⟩;exact⟨K,OL.nil⟩
 ·refine(ZN hW (fuel:=4000) (XM (by omega) U V O hs)).Ah ?_;rintro w E' B' hle ⟨ag,K,rfl,Z⟩;exact⟨K,Z.1⟩
end Pal
namespace Pal
open Go Go.Conc Go.Proofs
open Go.Proofs.Tryz
open Go.Conc.Lib Go.ConcR.Gen
def D2(qs:Nat→Int×List (Ci)):List (Bu):=((List.range 13).filter (fun j=>decide (0<(qs j).2.length))).map (partOf qs)
theorem X9
  {E:LH} {k1 o2:Nat} {a4 a5 a6:Ao} {a7 a8 a9:Nat} {ba:List Value} {U:BX} {lk:AI} (al:At E k1 o2 (([sV a4 U.1 a7,sV a5 U.2.1 a8]:List Value)++ba)) (bf:Al (rL rI) E a4 a7 U.1) (bg:Al (rL rI) E a5 a8 U.2.1) (bh:(rA 13 (rN .u16)).r E ba U.2.2) (bi:Al A9 E a6 a9 lk) {fuel:Nat} {qs:Nat→Int×List (Ci)} (bj:∀j,j<13→GC fuel U lk ((j:Nat):Int)=some (qs j)):
  AK (D1 Tryz.prog) 102 [pV k1 o2,.slice a6 lk.length a9] E [] (fun w E' B'=>∃a c,w= .slice a (D2 qs).length c∧B'= []∧Al Cv E' a c (D2 qs)):=by
 refine JY func102 rfl rfl fun Q bY cs H bl bm=>zg 2 rfl (Cb bl fun bn bZ bo am bp=>?_);refine Cb bp fun bq b0 bb br bu=>?_;refine DM (S':= []) (by simp) bu fun bv=>zg 4 rfl (JS.makeChan rfl rfl rfl underlying162 (Cx type133) bv fun ch bw=>?_);refine CO bw (Dy type162) fun rc bx=>?_;refine JS.store (v:= .chan (some ch)) (off:=0) 1 rfl rfl rfl bx rfl rfl (Bw type162) (by simp [Value.cells,CP]) rfl (Nat.le_of_ble_eq_true rfl) fun bz=>C6 1 bz rfl fun V ap av bA=>zg 3 rfl (CO bA (Dy type171) fun wg bB=>?_);refine DM (S':= [[(ch,.chan 0 #[] false 0 0 false)],[(wg,.cells #[.int .u64 0,.int .u32 0] 171 (0,0))]]) (by simp [Value.cells]) bB fun ag=>zg 7 rfl (IS ?_);refine Ix [(2,pV bn 0),(3,pV bq 0),(5,pV rc 0),(6,pV wg 0),(11,iV ((0:Nat):Int))] rfl ?_;have bC:=bo.Ab bb;have Y:=bC.Ab ap;have a0:=Nd.iff.1 ag;intro T bD;let F:Fam:=⟨wg,ch,171,13,fun j=>decide (0<(qs j).2.length),fun kk v E=>kk<13∧∃a c,v= .agg #[iV ((kk:Nat):Int),iV (qs kk).1,.slice a (qs kk).2.length c]∧Al Du E a c (qs kk).2,fun g s=>(D1 Tryz.prog).ok Q g s⟩;refine W0 F (Nat.le_of_ble_eq_true rfl) (show 13<2147483647 by omega) ?_ ?_ (NJ (j:=1) ag rfl) (NJ (j:=0) ag rfl) ?_ (fun g s h=>h)
 ·rintro kk v b1 b2 a1 ⟨Z,a,c,bE,al⟩;exact⟨Z,a,c,bE,al.Ah a1⟩
 ·intro e;have:=a0.1;simp at this;exact this e.symm
 have bF:=UC ag;show Way Tryz.prog true (Stop Tryz.prog F (.Fx 0)) _ (⟨(An V H [[(ch,.chan 0 #[] false 0 0 false)],[(wg,.cells #[.int .u64 0,.int .u32 0] 171 (0,0))]]).E,Iq (An V H [[(ch,.chan 0 #[] false 0 0 false)],[(wg,.cells #[.int .u64 0,.int .u32 0] 171 (0,0))]]).H wg ch,false⟩:St);rw [show(An V H [[(ch,.chan 0 #[] false 0 0 false)],[(wg,.cells #[.int .u64 0,.int .u32 0] 171 (0,0))]]).E=V from rfl,bF];have bG:Av V H []:=trivial;refine Vp (F:=F) rfl (al.Ah Y) (bf.Ah Y) (bg.Ah Y) (Rp.Ah _ Y bh) (bi.Ah Y) (am.Ah (bb.Ab ap)) (br.Ah ap) av bj (fun j _=>rfl) (fun j bH E' a c bI=>⟨bH,a,c,rfl,bI⟩) (fun bc a2 b3=>?_) 13 0 rfl (by decide) V Ar bG T bD;refine zg 9 rfl ?_;refine AF (v:= .func (.func 131) #[] ([.pointer (some F.sA),pV rc 0]:List Value).toArray) rfl (fun ρ h=>IN (by simp) (by simp [h (.tmp 6) _ rfl,h (.tmp 5) _ rfl])) ?_;have bd:=Wi (F:=F) (show 13<2147483648 by omega) (av.Ah a2);refine JL.GL (fi:= #[]) rfl rfl rfl rfl rfl rfl rfl (by first | exact bd | (simp only [List.append_toArray,List.nil_append,Array.append_empty,Array.empty_append];exact bd)) ?_
 refine zg 8 rfl (AF (v:= .chan (some ch)) rfl (fun ρ h=>Yl.load LO (h _ _ rfl) (At.J3 (j:=0) (av.Ah a2) rfl)) ?_);refine zg 2 rfl (IS ?_);refine Ix [(8,.slice none 0 0),(18,.chan (some ch))] rfl ?_;have bJ:Av bc H [[]]:=trivial;refine UR (F:=F) (Q:=Q) rfl (fun g s h=>h) (qs:=qs) (fun kk v E' h=>h.2) (fun K b4 a c g bK a0 be bL bM bN=>?_) 13 [] [] bc none 0 [] rfl List.nodup_nil (by simp) (by decide) Ar OL.nil bJ;have a3:(D2 qs).Perm (K.map (partOf qs)):=by
  unfold D2;refine List.Perm.map _ ?_;refine(List.perm_ext_iff_of_nodup (List.nodup_range.filter _) a0).2 fun x=>?_;constructor
  ·intro O;simp at O;exact bL x O.1 (by simpa [F] using O.2)
  ·intro O;have Z:=be x O;simp;exact⟨Z.1,by simpa [F] using Z.2⟩
 have bO:(D2 qs).Pairwise (fun p q=>p.1<q.1):=by
  unfold D2;rw [List.pairwise_map];refine List.Pairwise.filter _ (List.Pairwise.imp ?_ List.pairwise_lt_range);intro a b a1;exact Int.ofNat_lt.2 a1
 have hlen:(K.map (partOf qs)).length≤13:=by
  rw [← a3.length_eq];unfold D2;rw [List.length_map];exact Nat.le_trans (List.length_filter_le _ _) (by simp)
 have bP:KO (K.map (partOf qs)):=by
  intro x O;obtain⟨j,am,rfl⟩:=List.mem_map.1 O;have Z:=(be j am).1;simp only [partOf];omega
 have bQ:(K.map (partOf qs)).length=(D2 qs).length:=a3.length_eq.symm;refine zg 3 rfl ?_;refine Ot (vs:= [.slice a (K.map (partOf qs)).length c,.func (.func 134) #[] #[]]) 0 (YR hlen bP a3 bO bM) rfl rfl rfl (AS func133 rfl) rfl bN rfl ?_;rintro _ b5 g' bR ⟨rfl,bS⟩ bT;refine zg 6 rfl ?_;refine BT 0 bS bT rfl fun b6 bU bV bW=>?_;refine JL.ret (v:= .slice a (K.map (partOf qs)).length c) rfl rfl (Ch.list func102 rfl (vs:= [.slice a (K.map (partOf qs)).length c]) ⟨rfl,trivial⟩) ?_;exact bm _ _ _ [] ((((Y.Ab a2).Ab bK).Ab bR).Ab bU) (by simp) ⟨a,c,by rw [bQ],rfl,bV⟩ bW
end Pal
namespace Pal
open Go Go.Conc Go.Proofs
open Go.Proofs.Tryz
open Go.Conc.Lib Go.ConcR.Gen
def JV(fuel:Nat)(K:BX)(lk:AI):Option (List (Bu)):=
 if(List.range 13).all (fun j=>(GC fuel K lk ((j:Nat):Int)).isSome)=true then some (D2 fun j=>(GC fuel K lk ((j:Nat):Int)).getD (0,[])) else none
theorem QV
  {E:LH} {k1 o2:Nat} {U V Y:Ao} {Z ag al:Nat} {am:List Value} {K:BX} {lk:AI} (a1:At E k1 o2 (([sV U K.1 Z,sV V K.2.1 ag]:List Value)++am)) (a2:Al (rL rI) E U Z K.1) (a3:Al (rL rI) E V ag K.2.1) (a4:(rA 13 (rN .u16)).r E am K.2.2) (a5:Al A9 E Y al lk) {fuel:Nat} {r:List (Bu)} (O:JV fuel K lk=some r):
  AK (D1 Tryz.prog) 102 [pV k1 o2,.slice Y lk.length al] E [] (fun w E' B'=>∃(ap:Ao) (av:Nat),w= .slice ap r.length av∧B'= []∧Al Cv E' ap av r):=by
 unfold JV at O;split at O
 ·rename_i a0;cases O;refine(X9 a1 a2 a3 a4 a5 (fuel:=fuel) (qs:=fun j=>(GC fuel K lk ((j:Nat):Int)).getD (0,[])) fun j a6=>?_).Ah ?_
  ·rw [List.all_eq_true] at a0;obtain⟨q,a7⟩:=Option.isSome_iff_exists.1 (a0 j (List.mem_range.2 a6));rw [a7];rfl
  ·rintro w E' B' _ ⟨a,c,a8,a9,ba⟩;exact⟨a,c,a8,a9,ba⟩
 ·cases O
end Pal
namespace Pal
open Go Go.Conc Go.Proofs
open Go.Proofs.Tryz
def K1(fuel:Nat)(O:Bu)(K:Int×(List Ci)×Int):Option (Bh (Int×(List Ci)×Int) (Int×(List Ci))):= if K.2.2<(O.2.2.length:Int) then((ix O.2.2 K.2.2).bind fun V=> (IE fuel K.1 K.2.1 V O.2.1).bind fun U=> (As (K.2.2+1)).bind fun Y=> some (.more (U.1,U.2,Y))) else(some (.done (K.1,K.2.1)))
def MU(fuel:Nat)(O:(List Bu))(K:Int×(List Ci)×Int):Option (Bh (Int×(List Ci)×Int) (Int×(List Ci))):= if K.2.2<(O.length:Int) then((ix O K.2.2).bind fun V=> Option.bind (iter (K1 fuel V) fuel (K.1,K.2.1,0)) fun U=> (As (K.2.2+1)).bind fun Y=> some (.more (U.1,U.2,Y))) else(some (.done (K.1,K.2.1)))
def f93(fuel:Nat)(p0:BX)(p1:AI):Option ((Int×(List Ci))):= (JV fuel p0 p1).bind fun K=> Option.bind (iter (MU fuel K) fuel (0,[],0)) fun O=> some O
theorem NI{E:LH}{k1:Nat}{o2:Nat}{bn:Ao}{bo:Nat}{bp:Ao}{bq:Nat}{br:List Value}{bu:Ao}{bv:Nat}{p0:BX}{p1:AI}(bL:At E k1 o2 (([sV bn p0.1 bo,sV bp p0.2.1 bq]:List Value)++br))(bM:Al (rL rI) E bn bo p0.1)(bN:Al (rL rI) E bp bq p0.2.1)(bO:(rA 13 (rN .u16)).r E br p0.2.2)(bP:Al A9 E bu bv p1){fuel:Nat}{r:(Int×(List Ci))}(bw:f93 fuel p0 p1=some r):AK (D1 Tryz.prog) 93 [pV k1 o2,sV bu p1 bv] E [] (fun w E' B'=>∃(bx:Ao) (bz:Nat),w= .agg #[iV r.1,sV bx r.2 bz]∧B'= []∧Al Du E' bx bz r.2):=by
 refine A4 func93 fun Q c8 cs H bQ bR=>?_;unfold f93 at bw;refine zg 2 rfl (CO bQ F9 fun O bS=>?_);refine zg 3 rfl (CO bS F9 fun U bT=>?_);obtain⟨ag,bU,bV⟩:=bs bw;refine zg 6 rfl (BV (QV bL bM bN bO bP bU) rfl rfl (AS func102 rfl) bT ?_);rintro _ bc _ bW ⟨bd,be,rfl,rfl,bY⟩ bZ;refine Bj underlying130 rfl rfl rfl ?_;obtain⟨K,b0,b1⟩:=bs bV;refine zg 2 rfl (Bt (fun L s=>∃(bf:LH) (V:Ao) (Y:Nat) (bg:Seg),Jn bc H bf [bX O #[iV 0,nS] 97,bX U #[iV K.1,sV V K.2 Y] 97,bg] [(4,pV O 0),(5,pV U 0)] L s (OL 104 Du bf V Y bg K.2)) ?_ ?_)
 ·rintro _ _ ⟨bf,V,Y,bg,rfl,rfl,b2,bA,b3⟩;refine zg 2 rfl (AF rfl (fun ρ h=>FY (vs:= [iV K.1,sV V K.2 Y]) H8 Dv (h _ _ rfl) (FW (off:=0) 1 bA rfl rfl)) ?_);refine BU 0 bA Dv fun b4=>?_;refine JL.done (BT 2 b3 b4 rfl fun c9 b5 b6 b7=>?_);refine JS.drop 1 b7 rfl fun bB=>?_;obtain rfl:=oi b1;refine JL.ret (v:= .agg #[iV K.1,sV V K.2 Y]) rfl rfl (Ch.list func93 rfl (vs:= [.agg #[iV K.1,sV V K.2 Y]]) ⟨⟨_,rfl,Ld.many (vs:= [iV K.1,sV V K.2 Y]) H8 Dv (FW (off:=0) 0 bB rfl rfl)⟩,trivial⟩) (Ir 0 bB rfl fun b8=>?_);exact bR ((bW.Ab b2).Ab b5) rfl ⟨V,Y,rfl,rfl,b6⟩ b8
 ·intro b9;refine JL.block (CN b0 (fun L s Z=>∃(a1:LH) (al:Ao) (am:Nat) (ap:Seg),Jn bc H a1 [bX O #[iV 0,nS] 97,bX U #[iV Z.1,sV al Z.2.1 am] 97,ap] [(4,pV O 0),(5,pV U 0),(12,sV bd ag be),(13,iV (ag.length:Int)),(14,iV Z.2.2)] L s (OL 104 Du a1 al am ap Z.2.1)) ⟨bc,none,0,[],rfl,rfl,Ar,bZ,OL.nil⟩ ?_);rintro _ _ Z ⟨a1,al,am,ap,rfl,rfl,bh,bC,bD⟩ ca ⟨da,bi⟩ cb;have bE:=bi;unfold MU at bE;refine zg 5 rfl (AL bE (fun cc cd=>?_) (fun cc ce=>?_))
  ·obtain⟨bF,cf,cg⟩:=bs cd;refine zg 5 rfl (Cf (bY.Ah bh) cf underlying130 AQ ?_);rintro db dc _ ⟨_,_,rfl,rfl,⟨_,_,rfl,rfl,⟨ci,ck,rfl,cm⟩⟩⟩ cn;refine BW cn Cq AQ rfl rfl (CO bC H9 fun co cp=>?_);refine BU 3 cp AQ fun cq=>?_;refine C6 3 cq rfl fun bj bl bG cr=>zg 3 rfl (BM underlying133 Dv rfl rfl rfl ?_);refine JL.fl 2 bG underlying97 Dx EO ?_;refine Bj underlying95 rfl rfl rfl ?_;obtain⟨av,ct,cu⟩:=bs cg;refine zg 2 rfl (Bt (fun L s=>∃(a2:LH) (a3:Ao) (a4:Nat) (a5:Seg),Jn bj H a2 [bX O #[iV 0,nS] 97,bX U #[iV av.1,sV a3 av.2 a4] 97,a5] [(4,pV O 0),(5,pV U 0),(12,sV bd ag be),(13,iV (ag.length:Int)),(14,iV Z.2.2)] L s (OL 104 Du a2 a3 a4 a5 av.2)) ?_ ?_)
   ·rintro _ _ ⟨a2,a3,a4,a5,rfl,rfl,cv,cw,cy⟩;obtain⟨cz,cA,cB⟩:=bs cu;refine zg 2 rfl (Bb cA rfl rfl rfl ?_);refine zg 2 rfl ?_;obtain rfl:=oi cB;exact Az (cb _ _ (av.1,av.2,cz) ⟨a2,a3,a4,a5,rfl,rfl,((bh.Ab bl).Ab cv),cw,cy⟩ bi) rfl
   ·intro cC;refine JL.block (CN ct (fun L s a0=>∃(a6:LH) (a7:Ao) (a8:Nat) (a9:Seg),Jn bj H a6 [bX O #[iV 0,nS] 97,bX U #[iV a0.1,sV a7 a0.2.1 a8] 97,a9] [(4,pV O 0),(5,pV U 0),(7,pV co 0),(12,sV bd ag be),(13,iV (ag.length:Int)),(14,iV Z.2.2),(20,sV ci bF.2.2 ck),(21,iV (bF.2.2.length:Int)),(22,iV a0.2.2)] L s (OL 104 Du a6 a7 a8 a9 a0.2.1)) ⟨bj,al,am,ap,rfl,rfl,Ar,cr,(bD.Ah bl)⟩ ?_);rintro _ _ a0 ⟨a6,a7,a8,a9,rfl,rfl,ba,bH,bI⟩ cD ⟨dd,bm⟩ cE;have bJ:=bm;unfold K1 at bJ;refine zg 5 rfl (AL bJ (fun cF cG=>?_) (fun cF cH=>?_))
    ·obtain⟨cI,cJ,cK⟩:=bs cG;refine zg 5 rfl (Cf (cm.Ah (bl.Ab ba)) cJ underlying95 Ct ?_);rintro de df _ ⟨_,_,rfl,rfl,⟨_,_,rfl,⟨dg,dh,rfl,cM⟩,rfl⟩⟩ cN;refine BW cN FV Ct rfl rfl (CO bH GU fun di cO=>?_);refine BU 3 cO Ct fun cP=>?_;refine C6 3 cP rfl fun dj bb cQ cR=>zg 2 rfl (BW cQ FV Ct rfl rfl ?_);refine BM underlying133 Dv rfl rfl rfl (JL.fl 1 (bG.Ah (ba.Ab bb)) underlying97 AX Bx ?_);obtain⟨bK,cT,cV⟩:=bs cK;refine KF 1 2 rfl rfl cR fun cW=>B6 1 (Zm (age:=0) (bI.Ah bb) (tr:=cI) (cM.Ah bb) cT) rfl rfl (AS func122 rfl) cW rfl ?_;rintro _ cX _ cY ⟨cZ,c0,c1,rfl,rfl,c2⟩ c3;refine Eo 1 rfl c3 fun c4=>?_;obtain⟨c5,c6,c7⟩:=bs cV;refine zg 3 rfl (Bb c6 rfl rfl rfl ?_);refine zg 2 rfl ?_;obtain rfl:=oi c7;exact Az (cE _ _ (bK.1,bK.2,c5) ⟨cX,cZ,c0,c1,rfl,rfl,((ba.Ab bb).Ab cY),c4,c2⟩ bm) rfl
    ·refine JL.exit rfl ?_;obtain rfl:=oi cH;obtain rfl:=cD _ bm;exact Az (cC _ _ ⟨a6,a7,a8,a9,rfl,rfl,ba,bH,bI⟩) rfl
  ·refine JL.exit rfl ?_;obtain rfl:=oi ce;obtain rfl:=ca _ bi;exact Az (b9 _ _ ⟨a1,al,am,ap,rfl,rfl,bh,bC,bD⟩) rfl
end Pal
namespace Pal
open Go Go.Conc Go.Proofs
open Go.Proofs.Tryz
variable {J:Judge Tryz.prog}{E:LH}
def Lp(fuel:Nat)(p0:AI):Option ((AI)):= (CF ([]:AI) p0).bind fun K=> some K
theorem Xu{ad:Addr}{c2:Nat}{p0:AI}(V:Al A9 E (some ad) c2 p0){fuel:Nat}{r:(AI)}(K:Lp fuel p0=some r):AK J 123 [.slice (some ad) p0.length c2] E [] (fun w E' B'=>∃(O:Ao) (U:Nat) (g0:Seg),w= sV O r U∧B'=g0∧OL 27 A9 E' O U g0 r):=by
 refine A4 func123 fun Q a4 cs H Y Z=>?_;unfold Lp at K;refine zg 8 rfl (AF (v:= .bool false) rfl (fun ρ h=>Mj (a:=(some ad)) underlying25 (h _ _ rfl) (h _ _ rfl)) ?_);refine zg 5 rfl (KX (pp:=A9) rfl rfl rfl underlying25 BD Y fun a5 g2 ag al=>?_);obtain⟨a6,am,ap⟩:=bs K;refine zg 1 rfl (G0 (pp:=A9) 1 am rfl rfl rfl rfl rfl rfl rfl underlying25 underlying25 BD (Cx type27) C8 rfl (by decide) (by decide) ag V al rfl fun av a0 a1 a2 a3=>?_);refine zg 2 rfl ?_;obtain rfl:=oi ap;exact AD func123 rfl rfl (Z Ar rfl ⟨av,a0,a1,rfl,(by first | rfl | simp | (simp [Value.cells])),a2⟩ a3)
def S7(fuel:Nat)(p0:AI):Option ((AI)):= some ([])
theorem W6{c2:Nat}{p0:AI}(Z:Al A9 E none c2 p0){fuel:Nat}{r:(AI)}(K:S7 fuel p0=some r):AK J 123 [sV none p0 c2] E [] (fun w E' B'=>∃(O:Ao) (U:Nat) (g0:Seg),w= sV O r U∧B'=g0∧OL 27 A9 E' O U g0 r):=by
 refine A4 func123 fun Q ag cs H V Y=>?_;unfold S7 at K;refine zg 8 rfl (AF (v:= .bool true) rfl (fun ρ h=>Mj (a:=none) underlying25 (h _ _ rfl) (h _ _ rfl)) ?_);refine zg 6 rfl ?_;obtain rfl:=oi K;exact AD func123 rfl rfl (Y Ar rfl ⟨none,0,[],rfl,rfl,OL.nil⟩ V)
def f123(fuel:Nat)(p0:AI):Option AI:=Lp fuel p0
theorem YC{O:Ao}{c2:Nat}{p0:AI}(U:Al A9 E O c2 p0){fuel:Nat}{r:AI}(K:f123 fuel p0=some r):AK J 123 [.slice O p0.length c2] E [] (fun w E' B'=>∃(V:Ao) (Y:Nat) (g0:Seg),w= .slice V r.length Y∧B'=g0∧OL 27 A9 E' V Y g0 r):=by
 cases O with
 | some ad=>exact Xu U K
 | none=>
  have Z:p0= []:=by
   rcases U.2 with h | ⟨_,_,h,_⟩
   ·exact h.1
   ·cases h
  subst Z;have ag:r= []:=by
   have al:Lp fuel []=some []:=rfl;unfold f123 at K;rw [al] at K;exact(Option.some.inj K).symm
  subst ag;exact W6 (fuel:=fuel) U rfl
end Pal
namespace Pal
open Go Go.Conc Go.Proofs
open Go.Proofs.Tryz
variable {J:Judge Tryz.prog}{E:LH}
def f125(fuel:Nat)(p0:Int×Int)(p1:Int×Int):Option Int:= (As (p0.1 - p1.1)).bind fun K=> some K
theorem Zt{p0:Int×Int}{p1:Int×Int}{fuel:Nat}{r:Int}(K:f125 fuel p0 p1=some r):AK J 125 [.agg #[iV p0.1,iV p0.2],.agg #[iV p1.1,iV p1.2]] E [] (fun w E' B'=>w=iV r∧B'= []):=by
 refine A4 func125 fun Q a0 cs H U V=>?_;unfold f125 at K;refine zg 2 rfl (Cb U fun a1 a2 Y Z ag=>?_);refine Cb ag fun a3 a4 O al am=>?_;refine zg 4 rfl (JL.fl 0 (Z.Ah O) underlying27 AX Bx ?_);refine JL.fl 0 al underlying27 AX Bx ?_;obtain⟨a5,ap,av⟩:=bs K;refine Cg ap rfl rfl rfl (zg 2 rfl ?_);obtain rfl:=oi av;exact AD func125 rfl rfl (V (Y.Ab O) rfl ⟨rfl,rfl⟩ am)
def JJ(fuel:Nat)(p1:Int)(K:Int×(AI)):Option (Bh (Int×(AI)) ((AI))):= Option.bind (if p1<K.1 then((ix K.2 K.1).bind fun V=> (As (K.1 - 1)).bind fun Y=> (ix K.2 Y).bind fun Z=> (f125 fuel V Z).bind fun ag=> some (decide (ag<0))) else(some false)) fun al=> if al=true then((As (K.1 - 1)).bind fun O=> (As (K.1 - 1)).bind fun am=> (ix K.2 am).bind fun U=> (ix K.2 K.1).bind fun ap=> (ix (K.2.set (Int.toNat K.1) U) O).bind fun a0=> (As (K.1 - 1)).bind fun av=> some (.more (av,((K.2.set (Int.toNat K.1) U).set (Int.toNat O) ap)))) else(some (.done K.2))
def OQ(fuel:Nat)(p1:Int)(p2:Int)(K:Int×(AI)):Option (Bh (Int×(AI)) ((AI))):= if K.1<p2 then(Option.bind (iter (JJ fuel p1) fuel K) fun O=> (As (K.1+1)).bind fun U=> some (.more (U,O))) else(some (.done K.2))
def f168(fuel:Nat)(p0:AI)(p1:Int)(p2:Int):Option ((AI)):= (As (p1+1)).bind fun K=> Option.bind (iter (OQ fuel p1 p2) fuel (K,p0)) fun O=> some O
theorem Sx{K:Nat}{U:Nat}{V:Nat}{a8:Array Value}{p0:AI}{p1:Int}{p2:Int}(hW:WL 27 A9 E K U V a8 p0){fuel:Nat}{r:(AI)}(be:f168 fuel p0 p1 p2=some r):AK J 168 [.slice (AZ K) V U,iV p1,iV p2,(fV 125)] E [(K,.cells a8 27 (0,0))] (fun w E' B'=>∃(bf:Array Value),w= .tuple #[]∧B'= [(K,.cells bf 27 (0,0))]∧WL 27 A9 E' K U V bf r):=by
 refine A4 func168 fun Q cB cs H bx bz=>?_;unfold f168 at be;obtain⟨cC,bA,bB⟩:=bs be;refine zg 3 rfl (Bb bA rfl rfl rfl ?_);obtain⟨bC,bD,bE⟩:=bs bB;refine zg 2 rfl (Bt (fun L s=>∃(a9:LH) (f17:Array Value),Jn E H a9 [bX K f17 27] [] L s (WL 27 A9 a9 K U V f17 bC)) ?_ ?_)
 ·rintro _ _ ⟨a9,f17,rfl,rfl,bF,bG,bH⟩;obtain rfl:=oi bE;exact JL.fin (v:= .tuple #[]) rfl rfl (Ch.list func168 rfl (vs:= []) trivial) (bz bF rfl ⟨f17,rfl,(by first | rfl | simp | (simp [Value.cells])),bH⟩ bG)
 ·intro bI;refine JL.block (CN bD (fun L s am=>∃(al:LH) (f25:Array Value),Jn E H al [bX K f25 27] [(0,.slice (AZ K) V U),(1,iV p1),(2,iV p2),(3,(fV 125)),(8,iV am.1)] L s (WL 27 A9 al K U V f25 am.2)) ⟨E,a8,rfl,rfl,Ar,bx,hW⟩ ?_);rintro _ _ am ⟨al,f25,rfl,rfl,bg,bh,bi⟩ bJ ⟨cD,ba⟩ bK;have bj:=ba;unfold OQ at bj;refine zg 7 rfl (AL bj (fun bL bM=>?_) (fun bL bN=>?_))
  ·obtain⟨bl,bO,bP⟩:=bs bM;refine zg 8 rfl (Bt (fun L s=>∃(a2:LH) (f48:Array Value),Jn al H a2 [bX K f48 27] [(0,.slice (AZ K) V U),(1,iV p1),(2,iV p2),(3,(fV 125)),(8,iV am.1)] L s (WL 27 A9 a2 K U V f48 bl)) ?_ ?_)
   ·rintro _ _ ⟨a2,f48,rfl,rfl,bQ,bR,bS⟩;obtain⟨bT,bU,bV⟩:=bs bP;refine zg 3 rfl (Bb bU rfl rfl rfl ?_);refine zg 2 rfl ?_;obtain rfl:=oi bV;exact Az (bK _ _ (bT,bl) ⟨a2,f48,rfl,rfl,(bg.Ab bQ),bR,bS⟩ ba) rfl
   ·intro bW;refine JL.block (CN bO (fun L s Y=>∃(av:LH) (f58:Array Value),Jn al H av [bX K f58 27] [(0,.slice (AZ K) V U),(1,iV p1),(2,iV p2),(3,(fV 125)),(8,iV am.1),(9,iV Y.1)] L s (WL 27 A9 av K U V f58 Y.2)) ⟨al,f25,rfl,rfl,Ar,bh,bi⟩ ?_);rintro _ _ Y ⟨av,f58,rfl,rfl,bm,a0,O⟩ bY ⟨cE,bb⟩ bZ;have bn:=bb;unfold JJ at bn;refine zg 2 rfl (Dl 17 [K] ⟨⟨0,_,rfl⟩,trivial⟩ a0 fun ht=>?_);refine AW ht rfl [0,1,2,3] rfl ?_;obtain⟨b0,bo,b1⟩:=bs bn;refine Ed 0 #[true,true,true,true,true,true,true,true,true,true,true,true,true,true,true,true,true] (fun L s=>∃(a3:LH),Jm av H a3 [bX K f58 27] [(0,.slice (AZ K) V U),(1,iV p1),(2,iV p2),(3,(fV 125)),(8,iV am.1),(9,iV Y.1),(34,.bool b0)] L s) ?_ ?_
    ·rintro _ _ ⟨a3,rfl,rfl,ap,a4⟩;refine AU.fin (by decide+kernel) (BJ b1 (fun b2 b3=>?_) (fun b2 b4=>?_))
     ·refine zg 3 rfl (GZ [15,17] [K] mixed rfl ?_);refine Br 0 rfl rfl (Br 1 rfl rfl ?_);refine Br 2 rfl rfl (Br 3 rfl rfl ?_);obtain⟨bp,b5,b6⟩:=bs b3;refine GG 4 true rfl rfl (fun ρ h s' hs=>C9 (h _ _ rfl) (h _ _ rfl) b5) (Br 5 rfl rfl ?_);refine Br 6 rfl rfl ?_;obtain⟨cF,b7,b8⟩:=bs b6;refine GG 7 true rfl rfl (fun ρ h s' hs=>C9 (h _ _ rfl) (h _ _ rfl) b7) ?_;obtain⟨Z,bq,b9⟩:=bs b8;obtain⟨_,⟨_,_,rfl,rfl,rfl⟩,ca⟩:=WL.at (O.Ah ap) bq;refine Cz 8 O.2 bq underlying25 BD ?_;refine Eg 9 [iV Z.1,iV Z.2] 0 a4 ca FI BD ?_;refine Br 10 rfl rfl (Br 11 rfl rfl ?_);obtain⟨ag,a5,cb⟩:=bs b9;obtain⟨_,⟨_,_,rfl,rfl,rfl⟩,cc⟩:=WL.at (O.Ah ap) a5;refine Cz 12 O.2 a5 underlying25 BD ?_;refine Eg 13 [iV ag.1,iV ag.2] 0 a4 cc FI BD ?_;refine Cz 14 O.2 a5 underlying25 BD ?_;have a1:=WL.put (x':=Z) (ws':= [iV Z.1,iV Z.2]) (O.Ah ap) O.2 a5 ⟨_,_,rfl,rfl,rfl⟩;refine Eh 15 0 a4 BD a1.2 fun cd=>?_;obtain⟨cG,bc,ce⟩:=bs cb;obtain⟨_,⟨_,_,rfl,rfl,rfl⟩,cH⟩:=WL.at a1.1 bc;refine Cz 16 (a1.1).2 bc underlying25 BD ?_;have br:=WL.put (x':=ag) (ws':= [iV ag.1,iV ag.2]) a1.1 (a1.1).2 bc ⟨_,_,rfl,rfl,rfl⟩;refine Eh 17 0 cd BD br.2 fun cf=>?_;refine JB.fin (by decide+kernel) ?_;obtain⟨cg,ci,ck⟩:=bs ce;refine zg 3 rfl (Cg ci rfl rfl rfl ?_);refine zg 2 rfl ?_;obtain rfl:=oi ck;exact Az (bZ _ _ (cg,((Y.2.set (Int.toNat Y.1) Z).set (Int.toNat bp) ag)) ⟨a3,(A0 (A0 f58 (Int.toNat (Y.1)*2) [iV Z.1,iV Z.2]) (Int.toNat (bp)*2) [iV ag.1,iV ag.2]),rfl,rfl,(bm.Ab ap),cf,br.1⟩ bb) rfl
     ·refine JL.exit rfl ?_;obtain rfl:=oi b4;obtain rfl:=bY _ bb;exact Az (bW _ _ ⟨a3,f58,rfl,rfl,(bm.Ab ap),a4,(O.Ah ap)⟩) rfl
    ·intro bu;refine Fa (q:=p1<Y.1) (i:=21) rfl (fun bd=>?_) (fun bd=>?_)
     ·have cm:=ip bo bd;refine AW ht rfl [4,5,6] rfl ?_;obtain⟨a6,bv,cn⟩:=bs cm;obtain⟨_,⟨_,_,rfl,rfl,rfl⟩,co⟩:=WL.at O bv;refine F2 7 ht (O).2 bv underlying25 BD ?_;refine D4 8 ht [iV a6.1,iV a6.2] 0 a0 co FI BD ?_;refine AW ht rfl [9,10] rfl ?_;obtain⟨cI,cp,cq⟩:=bs cn;refine By 11 ht rfl rfl (fun ρ h s' hs=>C9 (h _ _ rfl) (h _ _ rfl) cp) ?_;obtain⟨a7,bw,cr⟩:=bs cq;obtain⟨_,⟨_,_,rfl,rfl,rfl⟩,ct⟩:=WL.at O bw;refine F2 12 ht (O).2 bw underlying25 BD ?_;refine D4 13 ht [iV a7.1,iV a7.2] 0 a0 ct FI BD ?_;obtain⟨cJ,cu,cv⟩:=bs cr;refine HG (i:=14) ⟨⟨0,_,rfl⟩,trivial⟩ (vs:= [.agg #[iV a6.1,iV a6.2],.agg #[iV a7.1,iV a7.2]]) (Zt cu) (by decide+kernel) rfl rfl rfl rfl (AS func125 rfl) rfl a0 ?_;rintro _ cw _ cy ⟨rfl,rfl⟩ cz;refine AW ht rfl [15,16] rfl ?_;obtain rfl:=oi cv;refine CE ?_ (bu _ _ ⟨cw,rfl,rfl,cy,cz⟩);exact⟨rfl,rfl,rfl,rfl,rfl,rfl,rfl,trivial⟩
     ·have cA:=im bo bd;refine AW ht rfl [4,5,6,7,8,9,10,11,12,13,14,15,16] rfl ?_;obtain rfl:=oi cA;refine CE ?_ (bu _ _ ⟨av,rfl,rfl,Ar,a0⟩);exact⟨rfl,rfl,rfl,rfl,rfl,rfl,rfl,trivial⟩
  ·refine JL.exit rfl ?_;obtain rfl:=oi bN;obtain rfl:=bJ _ ba;exact Az (bI _ _ ⟨al,f25,rfl,rfl,bg,bh,bi⟩) rfl
def OR(fuel:Nat)(p1:Int)(K:Int×Int×(AI)):Option (Bh (Int×Int×(AI)) (Int×(AI))):= if K.2.1≤p1 then((f168 fuel K.2.2 K.1 K.2.1).bind fun O=> (As (K.2.1+20)).bind fun U=> some (.more (K.2.1,U,O))) else(some (.done (K.1,K.2.2)))
def R9(fuel:Nat)(p1:Int)(K:Int)(O:Int)(U:Unit):Option (Bh Unit Unit):= if O≤p1 then((As (0+K)).bind fun V=> none) else(some (.done ()))
def OH(fuel:Nat)(p1:Int)(K:Int):Option (Bh Int Unit):= if K<p1 then((As (2*K)).bind fun O=> Option.bind (iter (R9 fuel p1 K O) fuel ()) fun Y=> (As (0+K)).bind fun U=> Option.bind (if U<p1 then(none) else(some ())) fun Z=> (As (K*2)).bind fun V=> some (.more V)) else(some (.done ()))
def f138(fuel:Nat)(p0:AI)(p1:Int):Option ((AI)):= Option.bind (iter (OR fuel p1) fuel (0,20,p0)) fun K=> (f168 fuel K.2 K.1 p1).bind fun O=> Option.bind (iter (OH fuel p1) fuel 20) fun U=> some O
theorem YY{K:Nat}{O:Nat}{U:Nat}{ag:Array Value}{p0:AI}{p1:Int}(hW:WL 27 A9 E K O U ag p0){fuel:Nat}{r:(AI)}(av:f138 fuel p0 p1=some r):AK J 138 [.slice (AZ K) U O,iV p1,(fV 125)] E [(K,.cells ag 27 (0,0))] (fun w E' B'=>∃(a0:Array Value),w= .tuple #[]∧B'= [(K,.cells a0 27 (0,0))]∧WL 27 A9 E' K O U a0 r):=by
 refine A4 func138 fun Q cp cs H bd be=>?_;unfold f138 at av;obtain⟨a1,bf,bg⟩:=bs av;refine zg 11 rfl (Bt (fun L s=>∃(al:LH) (f15:Array Value),Jn E H al [bX K f15 27] [(0,.slice (AZ K) U O),(1,iV p1),(2,(fV 125)),(6,iV 20),(7,iV a1.1)] L s (WL 27 A9 al K O U f15 a1.2)) ?_ ?_)
 ·rintro _ _ ⟨al,f15,rfl,rfl,bh,bi,bj⟩;obtain⟨cq,bl,bm⟩:=bs bg;refine zg 6 rfl (B6 0 (Sx bj bl) rfl rfl LV bi rfl ?_);rintro _ cr _ bn ⟨f23,rfl,rfl,bo⟩ bp;obtain⟨ct,bq,br⟩:=bs bm;refine JL.done (CM [bX K f23 27] [] (fun cu a2 bu=>?_) (fun bv=>?_))
  ·obtain rfl:=oi br;exact JL.fin (v:= .tuple #[]) rfl rfl (Ch.list func138 rfl (vs:= []) trivial) (be ((bh.Ab bn).Ab a2) rfl ⟨f23,rfl,(by first | rfl | simp | (simp [Value.cells])),(bo.Ah a2)⟩ bu)
  ·refine JL.block (Cu bq (fun V=> [bX K f23 27]) (fun V=> [(0,.slice (AZ K) U O),(1,iV p1),(2,(fV 125)),(6,iV V)]) Ar bp ?_);rintro V cv a3 a4 bw ⟨cw,am⟩ bx;have a5:=am;unfold OH at a5;refine zg 7 rfl (AL a5 (fun bz bA=>?_) (fun bz bB=>?_))
   ·obtain⟨bC,bD,bE⟩:=bs bA;refine zg 5 rfl (AF rfl (fun ρ h=>IX (h _ _ rfl) (h _ _ rfl) bD) ?_);obtain⟨cy,bF,bG⟩:=bs bE;refine zg 4 rfl (CM [bX K f23 27] [(0,.slice (AZ K) U O),(1,iV p1),(2,(fV 125)),(6,iV V),(7,iV 0)] (fun cz bH bI=>?_) (fun bJ=>?_))
    ·obtain⟨cA,bK,bL⟩:=bs bG;refine zg 5 rfl (Bb bK rfl rfl rfl ?_);obtain⟨cB,bM,bN⟩:=bs bL;refine zg 8 rfl (CM [bX K f23 27] [(0,.slice (AZ K) U O),(1,iV p1),(2,(fV 125)),(6,iV V)] (fun cC bO bP=>?_) (fun bQ=>?_))
     ·obtain⟨bR,bS,bT⟩:=bs bN;refine zg 2 rfl (AF rfl (fun ρ h=>IX (h _ _ rfl) (h _ _ rfl) bS) ?_);refine zg 3 rfl ?_;obtain rfl:=oi bT;exact bx bR ((a3.Ab bH).Ab bO) bP rfl am
     ·refine AL bM (fun bU bV=>?_) (fun bU bW=>?_)
      ·refine zg 6 rfl ?_;cases bV
      ·refine JL.skip ?_;obtain rfl:=oi bW;exact bQ Ar bI rfl
    ·refine JL.block (Cu bF (fun a6=> [bX K f23 27]) (fun a6=> [(0,.slice (AZ K) U O),(1,iV p1),(2,(fV 125)),(6,iV V),(7,iV 0),(8,iV bC)]) Ar a4 ?_);rintro a6 cD bY bZ b0 ⟨cE,a7⟩ cF;have a8:=a7;unfold R9 at a8;refine zg 7 rfl (AL a8 (fun b1 b2=>?_) (fun b1 b3=>?_))
     ·obtain⟨cG,b4,b5⟩:=bs b2;refine zg 8 rfl (Bb b4 rfl rfl rfl ?_);refine zg 2 rfl ?_;cases b5
     ·refine JL.exit rfl ?_;obtain rfl:=oi b3;obtain rfl:=b0 _ a7;exact bJ bY bZ rfl
   ·refine JL.exit rfl ?_;obtain rfl:=oi bB;obtain rfl:=bw _ am;exact bv a3 a4 rfl
 ·intro b6;refine JL.block (CN bf (fun L s Y=>∃(Z:LH) (f104:Array Value),Jn E H Z [bX K f104 27] [(0,.slice (AZ K) U O),(1,iV p1),(2,(fV 125)),(6,iV 20),(7,iV Y.1),(8,iV Y.2.1)] L s (WL 27 A9 Z K O U f104 Y.2.2)) ⟨E,ag,rfl,rfl,Ar,bd,hW⟩ ?_);rintro _ _ Y ⟨Z,f104,rfl,rfl,a9,ba,bb⟩ b7 ⟨cH,ap⟩ b8;have bc:=ap;unfold OR at bc;refine zg 7 rfl (AL bc (fun b9 ca=>?_) (fun b9 cb=>?_))
  ·obtain⟨cc,cd,ce⟩:=bs ca;refine zg 8 rfl (B6 0 (Sx bb cd) rfl rfl LV ba rfl ?_);rintro _ cf _ cg ⟨f119,rfl,rfl,ci⟩ ck;obtain⟨cm,cn,co⟩:=bs ce;refine zg 9 rfl (Bb cn rfl rfl rfl ?_);refine zg 3 rfl ?_;obtain rfl:=oi co;exact Az (b8 _ _ (Y.2.1,cm,cc) ⟨cf,f119,rfl,rfl,(a9.Ab cg),ck,ci⟩ ap) rfl
  ·refine JL.exit rfl ?_;obtain rfl:=oi cb;obtain rfl:=b7 _ ap;exact Az (b6 _ _ ⟨Z,f104,rfl,rfl,a9,ba,bb⟩) rfl
def f124(fuel:Nat)(p0:AI):Option ((AI)):= (f138 fuel p0 (p0.length:Int)).bind fun K=> some K
theorem YJ{K:Nat}{O:Nat}{U:Nat}{V:Array Value}{p0:AI}(hW:WL 27 A9 E K O U V p0){fuel:Nat}{r:(AI)}(Y:f124 fuel p0=some r):AK J 124 [.slice (AZ K) U O,(fV 125)] E [(K,.cells V 27 (0,0))] (fun w E' B'=>∃(Z:Array Value),w= .tuple #[]∧B'= [(K,.cells Z 27 (0,0))]∧WL 27 A9 E' K O U Z r):=by
 refine A4 func124 fun Q a2 cs H ag al=>?_;unfold f124 at Y;refine zg 3 rfl (AF (v:=iV (p0.length:Int)) rfl (fun ρ h=>R1 (hW).2 rfl underlying25 (h _ _ rfl)) ?_);obtain⟨a3,am,ap⟩:=bs Y;refine zg 1 rfl (B6 0 (YY hW am) rfl rfl (AS func138 rfl) ag rfl ?_);rintro _ a4 _ av ⟨f7,rfl,rfl,a0⟩ a1;refine JL.done ?_;obtain rfl:=oi ap;exact JL.fin (v:= .tuple #[]) rfl rfl (Ch.list func124 rfl (vs:= []) trivial) (al av rfl ⟨f7,rfl,(by first | rfl | simp | (simp [Value.cells])),a0⟩ a1)
def QT(fuel:Nat)(p1:Int)(K:Int)(U:Unit):Option (Bh Unit Unit):= Option.bind (if p1<K then(none) else(some false)) fun O=> if O=true then((As (K - 1)).bind fun V=> (As (K - 1)).bind fun Y=> none) else(some (.done ()))
def Q6(fuel:Nat)(p1:Int)(p2:Int)(K:Int):Option (Bh Int Unit):= if K<p2 then(Option.bind (iter (QT fuel p1 K) fuel ()) fun U=> (As (K+1)).bind fun O=> some (.more O)) else(some (.done ()))
def NG(fuel:Nat)(p1:Int)(p2:Int):Option Unit:= (As (p1+1)).bind fun K=> Option.bind (iter (Q6 fuel p1 p2) fuel K) fun O=> some ()
theorem Sa{p1:Int}{p2:Int}{fuel:Nat}{r:Unit}(V:NG fuel p1 p2=some r):AK J 168 [nS,iV p1,iV p2,(fV 125)] E [] (fun w E' B'=>w= .tuple #[]∧B'= []):=by
 refine A4 func168 fun Q bJ cs H a2 a3=>?_;unfold NG at V;obtain⟨bK,a4,a5⟩:=bs V;refine zg 3 rfl (Bb a4 rfl rfl rfl ?_);obtain⟨bL,a6,a7⟩:=bs a5;refine zg 2 rfl (CM [] [] (fun bM a8 a9=>?_) (fun ba=>?_))
 ·obtain rfl:=oi a7;exact JL.fin (v:= .tuple #[]) rfl rfl (Ch.list func168 rfl (vs:= []) trivial) (a3 a8 rfl ⟨rfl,rfl⟩ a9)
 ·refine JL.block (Cu a6 (fun K=> []) (fun K=> [(0,.slice none 0 0),(1,iV p1),(2,iV p2),(3,(fV 125)),(8,iV K)]) Ar a2 ?_);rintro K bN Y Z bb ⟨bO,O⟩ bc;have ag:=O;unfold Q6 at ag;refine zg 7 rfl (AL ag (fun bd be=>?_) (fun bd bf=>?_))
  ·obtain⟨bP,bg,bh⟩:=bs be;refine zg 8 rfl (CM [] [(0,.slice none 0 0),(1,iV p1),(2,iV p2),(3,(fV 125)),(8,iV K)] (fun bQ bi bj=>?_) (fun bl=>?_))
   ·obtain⟨bm,bn,bo⟩:=bs bh;refine zg 3 rfl (Bb bn rfl rfl rfl ?_);refine zg 2 rfl ?_;obtain rfl:=oi bo;exact bc bm (Y.Ab bi) bj rfl O
   ·refine JL.block (Cu bg (fun al=> []) (fun al=> [(0,.slice none 0 0),(1,iV p1),(2,iV p2),(3,(fV 125)),(8,iV K),(9,iV K)]) Ar Z ?_);rintro al am bp bq br ⟨bR,ap⟩ bS;have av:=ap;unfold QT at av;refine zg 2 rfl (CW 17 fun ht=>?_);refine AW ht rfl [0,1,2,3] rfl ?_;obtain⟨bu,a0,bv⟩:=bs av;refine Ed 0 #[true,true,true,true,true,true,true,true,true,true,true,true,true,true,true,true,true] (fun L s=>∃(a1:LH),Jm am H a1 [] [(0,.slice none 0 0),(1,iV p1),(2,iV p2),(3,(fV 125)),(8,iV K),(9,iV K),(34,.bool bu)] L s) ?_ ?_
    ·rintro _ _ ⟨a1,rfl,rfl,bw,bx⟩;refine AU.fin (by decide+kernel) (BJ bv (fun bz bA=>?_) (fun bz bB=>?_))
     ·refine zg 3 rfl (CW 16 fun ht=>?_);refine AW ht rfl [0,1,2,3] rfl ?_;obtain⟨bT,bC,bD⟩:=bs bA;refine By 4 ht rfl rfl (fun ρ h s' hs=>C9 (h _ _ rfl) (h _ _ rfl) bC) (AW ht rfl [5,6] rfl ?_);obtain⟨bU,bE,bF⟩:=bs bD;refine By 7 ht rfl rfl (fun ρ h s' hs=>C9 (h _ _ rfl) (h _ _ rfl) bE) ?_;cases bF
     ·refine JL.exit rfl ?_;obtain rfl:=oi bB;obtain rfl:=br _ ap;exact bl (bp.Ab bw) bx rfl
    ·intro bG;refine Fa (q:=p1<K) (i:=21) rfl (fun U=>?_) (fun U=>?_)
     ·have bH:=ip a0 U;refine AW ht rfl [4,5,6] rfl ?_;cases bH
     ·have bI:=im a0 U;refine AW ht rfl [4,5,6,7,8,9,10,11,12,13,14,15,16] rfl ?_;obtain rfl:=oi bI;refine CE ?_ (bG _ _ ⟨am,rfl,rfl,Ar,bq⟩);exact⟨rfl,rfl,rfl,rfl,rfl,rfl,rfl,trivial⟩
  ·refine JL.exit rfl ?_;obtain rfl:=oi bf;obtain rfl:=bb _ O;exact ba Y Z rfl
def QX(fuel:Nat)(p1:Int)(K:Int×Int):Option (Bh (Int×Int) Int):= if K.2≤p1 then((NG fuel K.1 K.2).bind fun U=> (As (K.2+20)).bind fun O=> some (.more (K.2,O))) else(some (.done K.1))
def QW(fuel:Nat)(p1:Int)(K:Int)(O:Int)(U:Unit):Option (Bh Unit Unit):= if O≤p1 then((As (0+K)).bind fun V=> none) else(some (.done ()))
def Rw(fuel:Nat)(p1:Int)(K:Int):Option (Bh Int Unit):= if K<p1 then((As (2*K)).bind fun O=> Option.bind (iter (QW fuel p1 K O) fuel ()) fun Y=> (As (0+K)).bind fun U=> Option.bind (if U<p1 then(none) else(some ())) fun Z=> (As (K*2)).bind fun V=> some (.more V)) else(some (.done ()))
def Pf(fuel:Nat)(p1:Int):Option Unit:= Option.bind (iter (QX fuel p1) fuel (0,20)) fun K=> (NG fuel K p1).bind fun O=> Option.bind (iter (Rw fuel p1) fuel 20) fun U=> some ()
theorem XA{p1:Int}{fuel:Nat}{r:Unit}(Y:Pf fuel p1=some r):AK J 138 [nS,iV p1,(fV 125)] E [] (fun w E' B'=>w= .tuple #[]∧B'= []):=by
 refine A4 func138 fun Q b9 cs H a3 a4=>?_;unfold Pf at Y;obtain⟨a5,a6,a7⟩:=bs Y;refine zg 11 rfl (CM [] [(0,.slice none 0 0),(1,iV p1),(2,(fV 125)),(6,iV 20),(7,iV a5)] (fun ca a8 a9=>?_) (fun ba=>?_))
 ·obtain⟨cb,bb,bc⟩:=bs a7;refine zg 6 rfl (BF (Sa bb) rfl rfl LV a9 fun cc bd be=>?_);obtain⟨cd,bf,bg⟩:=bs bc;refine JL.done (CM [] [] (fun ce bh bi=>?_) (fun bj=>?_))
  ·obtain rfl:=oi bg;exact JL.fin (v:= .tuple #[]) rfl rfl (Ch.list func138 rfl (vs:= []) trivial) (a4 ((a8.Ab bd).Ab bh) rfl ⟨rfl,rfl⟩ bi)
  ·refine JL.block (Cu bf (fun K=> []) (fun K=> [(0,.slice none 0 0),(1,iV p1),(2,(fV 125)),(6,iV K)]) Ar be ?_);rintro K cf Z ag bl ⟨cg,U⟩ bm;have al:=U;unfold Rw at al;refine zg 7 rfl (AL al (fun bn bo=>?_) (fun bn bp=>?_))
   ·obtain⟨bq,br,bu⟩:=bs bo;refine zg 5 rfl (AF rfl (fun ρ h=>IX (h _ _ rfl) (h _ _ rfl) br) ?_);obtain⟨ci,bv,bw⟩:=bs bu;refine zg 4 rfl (CM [] [(0,.slice none 0 0),(1,iV p1),(2,(fV 125)),(6,iV K),(7,iV 0)] (fun ck bx bz=>?_) (fun bA=>?_))
    ·obtain⟨cm,bB,bC⟩:=bs bw;refine zg 5 rfl (Bb bB rfl rfl rfl ?_);obtain⟨cn,bD,bE⟩:=bs bC;refine zg 8 rfl (CM [] [(0,.slice none 0 0),(1,iV p1),(2,(fV 125)),(6,iV K)] (fun co bF bG=>?_) (fun bH=>?_))
     ·obtain⟨bI,bJ,bK⟩:=bs bE;refine zg 2 rfl (AF rfl (fun ρ h=>IX (h _ _ rfl) (h _ _ rfl) bJ) ?_);refine zg 3 rfl ?_;obtain rfl:=oi bK;exact bm bI ((Z.Ab bx).Ab bF) bG rfl U
     ·refine AL bD (fun bL bM=>?_) (fun bL bN=>?_)
      ·refine zg 6 rfl ?_;cases bM
      ·refine JL.skip ?_;obtain rfl:=oi bN;exact bH Ar bz rfl
    ·refine JL.block (Cu bv (fun am=> []) (fun am=> [(0,.slice none 0 0),(1,iV p1),(2,(fV 125)),(6,iV K),(7,iV 0),(8,iV bq)]) Ar ag ?_);rintro am cp bO bP bQ ⟨cq,ap⟩ cr;have av:=ap;unfold QW at av;refine zg 7 rfl (AL av (fun bR bS=>?_) (fun bR bT=>?_))
     ·obtain⟨ct,bU,bV⟩:=bs bS;refine zg 8 rfl (Bb bU rfl rfl rfl ?_);refine zg 2 rfl ?_;cases bV
     ·refine JL.exit rfl ?_;obtain rfl:=oi bT;obtain rfl:=bQ _ ap;exact bA bO bP rfl
   ·refine JL.exit rfl ?_;obtain rfl:=oi bp;obtain rfl:=bl _ U;exact bj Z ag rfl
 ·refine JL.block (Cu a6 (fun O=> []) (fun O=> [(0,.slice none 0 0),(1,iV p1),(2,(fV 125)),(6,iV 20),(7,iV O.1),(8,iV O.2)]) Ar a3 ?_);rintro O cu a0 a1 bW ⟨cv,V⟩ bY;have a2:=V;unfold QX at a2;refine zg 7 rfl (AL a2 (fun bZ b0=>?_) (fun bZ b1=>?_))
  ·obtain⟨cw,b2,b3⟩:=bs b0;refine zg 8 rfl (BF (Sa b2) rfl rfl LV a1 fun cy b4 b5=>?_);obtain⟨b6,b7,b8⟩:=bs b3;refine zg 9 rfl (Bb b7 rfl rfl rfl ?_);refine zg 3 rfl ?_;obtain rfl:=oi b8;exact bY (O.2,b6) (a0.Ab b4) b5 rfl V
  ·refine JL.exit rfl ?_;obtain rfl:=oi b1;obtain rfl:=bW _ V;exact ba a0 a1 rfl
def To(fuel:Nat):Option Unit:= (Pf fuel ((0:Nat):Int)).bind fun K=> some ()
theorem XN{fuel:Nat}{r:Unit}(K:To fuel=some r):AK J 124 [nS,(fV 125)] E [] (fun w E' B'=>w= .tuple #[]∧B'= []):=by
 refine A4 func124 fun Q al cs H O U=>?_;unfold To at K;refine zg 3 rfl (Bj underlying25 rfl rfl rfl ?_);obtain⟨am,V,Y⟩:=bs K;refine zg 1 rfl (BF (XA V) rfl rfl (AS func138 rfl) O fun ap Z ag=>?_);refine JL.done ?_;obtain rfl:=oi Y;exact JL.fin (v:= .tuple #[]) rfl rfl (Ch.list func124 rfl (vs:= []) trivial) (U Z rfl ⟨rfl,rfl⟩ ag)
theorem Yj{J:Judge Tryz.prog}{E:LH}{a:Ao}{c:Nat}{g:Seg}{p0:AI}(V:OL 27 A9 E a c g p0){fuel:Nat}{r:AI}(K:f124 fuel p0=some r):
  AK J 124 [.slice a p0.length c,.func (.func 125) #[] #[]] E g (fun w E' B'=>w= .tuple #[]∧OL 27 A9 E' a c B' r∧r.length=p0.length):=by
 rcases V.cases with⟨rfl,rfl,rfl,rfl⟩ | ⟨bk,f,rfl,rfl,hW⟩
 ·have Y:r= []:=by
   cases fuel with
   | zero=>exact absurd K (by simp [f124,f138,iter])
   | succ fuel=>
    cases fuel with
    | zero=>exact(Option.some.inj (K.symm.trans (by rfl:f124 1 []=some []))).trans rfl
    | succ fuel=>exact(Option.some.inj (K.symm.trans (by rfl:f124 (fuel+2) []=some []))).trans rfl
  subst Y;refine(XN (fuel:=10) (r:=()) rfl).Ah ?_;rintro w E' B' hle ⟨O,rfl⟩;exact⟨O,OL.nil,rfl⟩
 ·refine(YJ hW K).Ah ?_;rintro w E' B' hle ⟨Z,O,rfl,U⟩;exact⟨O,U.1,U.2⟩
end Pal
namespace Pal
open Go Go.Conc Go.Proofs
open Go.Proofs.Tryz
def f94(fuel:Nat)(p0:AI)(p1:AI):Option ((AI)):= (CF p0 p1).bind fun K=> (f123 fuel K).bind fun O=> (f124 fuel O).bind fun U=> some U
theorem aA{E:LH}{K:Ao}{c2:Nat}{O:Ao}{U:Nat}{p0:AI}{p1:AI}(Z:Al A9 E K c2 p0)(a3:Al A9 E O U p1){fuel:Nat}{r:(AI)}(am:f94 fuel p0 p1=some r):AK (D1 Tryz.prog) 94 [sV K p0 c2,sV O p1 U] E [] (fun w E' B'=>∃(ap:Ao) (av:Nat),w= sV ap r av∧B'= []∧Al A9 E' ap av r):=by
 refine A4 func94 fun Q bp cs H a4 a5=>?_;unfold f94 at am;refine zg 8 rfl (Bj underlying25 rfl rfl rfl ?_);refine zg 1 rfl (Bj underlying25 rfl rfl rfl ?_);refine AF (v:= .slice K p0.length p0.length) rfl (fun ρ h=>Ui (Al.spot Z) (And.left Z) underlying25 BD (h _ _ rfl) (h _ _ rfl) (h _ _ rfl)) ?_;obtain⟨a0,a6,a7⟩:=bs am;refine zg 1 rfl (UA (pp:=A9) a6 rfl rfl rfl rfl rfl rfl rfl underlying25 underlying25 BD (Cx type27) C8 rfl (by decide) (by decide) Z a3 a4 fun bq a1 a2 a8 a9 ba=>?_);obtain⟨br,bb,bc⟩:=bs a7;refine zg 5 rfl (BV (YC a9 bb) rfl rfl (AS func123 rfl) ba ?_);rintro _ bu _ bd ⟨V,Y,bv,rfl,rfl,be⟩ bf;obtain⟨ag,bg,bh⟩:=bs bc;refine zg 5 rfl (B6 2 (Yj be bg) rfl rfl (AS func124 rfl) bf rfl ?_);rintro _ bw bx bi ⟨rfl,bj,al⟩ bl;refine Gf (L':= [(17,.tuple #[]),(0,.slice K p0.length c2),(1,.slice O p1.length U),(4,.slice none 0 0),(6,.slice K p0.length c2),(7,.slice K p0.length c2),(8,iV (p0.length:Int)),(9,.slice K p0.length c2),(10,iV (p0.length:Int)),(11,.slice K p0.length p0.length),(12,.slice O p1.length U),(13,.slice a1 a0.length a2),(5,.slice V ag.length Y),(14,.slice a1 a0.length a2),(15,.slice V ag.length Y),(16,.slice V ag.length Y)]) ⟨rfl,rfl,rfl,rfl,rfl,rfl,rfl,rfl,rfl,rfl,rfl,rfl,by rw [al];rfl,rfl,by rw [al];rfl,by rw [al];rfl,trivial⟩ ?_;refine zg 6 rfl (BT 2 bj bl rfl fun bz bm bn bo=>?_);obtain rfl:=oi bh;exact AD func94 rfl rfl (a5 (((a8.Ab bd).Ab bi).Ab bm) rfl ⟨V,Y,rfl,rfl,bn⟩ bo)
def f37(fuel:Nat)(p0:Bc)(p1:AI)(p2:AI):Option (Bool×Int):= (f69 fuel p0 p1).bind fun O=> if O≠0 then(some (false,O)) else((f69 fuel p0 p2).bind fun U=> if U≠0 then(some (false,U)) else((f92 fuel p0).bind fun ag=> (ag).bind fun K=> (f93 fuel K p1).bind fun V=> (f93 fuel K p2).bind fun Y=> Option.bind (if(V.2.length:Int)=0 then(some true) else(some (decide ((Y.2.length:Int)=0)))) fun al=> if al=true then(some (false,0)) else((f94 fuel p1 p2).bind fun am=> (f93 fuel K am).bind fun Z=> Option.bind (if 0<(Z.2.length:Int) then((As (V.1+Y.1)).bind fun ap=> some (decide (Z.1≤ap))) else(some false)) fun av=> some (av,0))))
end Pal
namespace Pal
open Go Go.Conc Go.Proofs
open Go.Proofs.Tryz
def Ns:List Nat:= [0,1,1,2,1,2,2,3,1,2,2,3,2,3,3,4,1,2,2,3,2,3,3,4,2,3,3,4,3,4,4,5,1,2,2,3,2,3,3,4,2,3,3,4,3,4,4,5,2,3,3,4,3,4,4,5,3,4,4,5,4,5,5,6,1,2,2,3,2,3,3,4,2,3,3,4,3,4,4,5,2,3,3,4,3,4,4,5,3,4,4,5,4,5,5,6,2,3,3,4,3,4,4,5,3,4,4,5,4,5,5,6,3,4,4,5,4,5,5,6,4,5,5,6,5,6,6,7,1,2,2,3,2,3,3,4,2,3,3,4,3,4,4,5,2,3,3,4,3,4,4,5,3,4,4,5,4,5,5,6,2,3,3,4,3,4,4,5,3,4,4,5,4,5,5,6,3,4,4,5,4,5,5,6,4,5,5,6,5,6,6,7,2,3,3,4,3,4,4,5,3,4,4,5,4,5,5,6,3,4,4,5,4,5,5,6,4,5,5,6,5,6,6,7,3,4,4,5,4,5,5,6,4,5,5,6,5,6,6,7,4,5,5,6,5,6,6,7,5,6,6,7,6,7,7,8]
def f86(fuel:Nat)(p0:Nat):Option Int:= (Lw Ns ((((p0>>>8):Nat):Int))).bind fun K=> (J8 p0 (255)).bind fun O=> (Lw Ns ((((O):Nat):Int))).bind fun U=> (As ((((K+U) % 256):Nat):Int)).bind fun V=> some V
theorem aJ{E:LH}{p0:Nat}{fuel:Nat}{r:Int}(K:f86 fuel p0=some r):AK (D1 Tryz.prog) 86 [uV p0] E [] (fun w E' B'=>w=iV r∧B'= []):=by
 refine A4 func86 fun Q a4 cs H V Y=>?_;unfold f86 at K;refine zg 5 rfl (CW 6 fun ht=>?_);refine B4 0 ht rfl rfl (By (v:= .int .u16 ((p0>>>8:Nat):Int)) 1 ht rfl rfl (fun ρ h s' hs=>V5 8 (h _ _ rfl) (h _ _ rfl) (by decide)) ?_);obtain⟨O,Z,ag⟩:=bs K;refine By (v:= .int .u8 ((O:Nat):Int)) 2 ht rfl rfl (fun ρ h s' hs=>Om (l:=Ns) (by decide+kernel) underlying9 (h _ _ rfl) (h _ _ rfl) Z) (B4 3 ht rfl rfl ?_);obtain⟨al,am,ap⟩:=bs ag;refine By (v:= uV al) 4 ht rfl rfl (fun ρ h s' hs=>Oj (h _ _ rfl) (h _ _ rfl) am) ?_;obtain⟨U,av,a0⟩:=bs ap;refine By (v:= .int .u8 ((U:Nat):Int)) 5 ht rfl rfl (fun ρ h s' hs=>Om (l:=Ns) (by decide+kernel) underlying9 (h _ _ rfl) (h _ _ rfl) av) (Cc [6,7,8] ?_);refine AF (v:= .int .u8 (((O+U) % 256:Nat):Int)) rfl (fun ρ h=>Ws (h _ _ rfl) (h _ _ rfl)) ?_;obtain⟨a1,a2,a3⟩:=bs a0;refine AF (v:=iV a1) rfl (fun ρ h=>R4 underlying5 underlying3 (h _ _ rfl) a2) (zg 2 rfl ?_);obtain rfl:=oi a3;exact AD func86 rfl rfl (Y Ar rfl ⟨rfl,rfl⟩ V)
end Pal
namespace Pal
open Go Go.Conc Go.Proofs
open Go.Proofs.Tryz
def f85(fuel:Nat)(p0:Nat):Option Int:= (f86 fuel p0).bind fun K=> some K
theorem Th{E:LH}{p0:Nat}{fuel:Nat}{r:Int}(K:f85 fuel p0=some r):AK (D1 Tryz.prog) 85 [uV p0] E [] (fun w E' B'=>w=iV r∧B'= []):=by
 refine A4 func85 fun Q al cs H O U=>?_;unfold f85 at K;obtain⟨am,V,Y⟩:=bs K;refine zg 7 rfl (BF (aJ V) rfl rfl (AS func86 rfl) O fun ap Z ag=>?_);refine zg 2 rfl ?_;obtain rfl:=oi Y;exact AD func85 rfl rfl (U Z rfl ⟨rfl,rfl⟩ ag)
end Pal
namespace Pal
open Go Go.Conc Go.Proofs
open Go.Proofs.Tryz
end Pal
namespace Pal
open Go Go.Conc Go.Proofs
open Go.Proofs.Tryz
end Pal
namespace Pal
open Go Go.Conc Go.Proofs
open Go.Proofs.Tryz
end Pal
namespace Pal
open Go Go.Conc Go.Proofs
open Go.Proofs.Tryz
variable {J:Judge Tryz.prog}{E:LH}
def Nk(fuel:Nat)(V:Int×(BY))(Y:(List (List Int))×(List (List Int))×(List Int)×Int×Nat×Int)(K:(List Int)×Int×Nat×(List Int)×Int):Option (Bh ((List Int)×Int×Nat×(List Int)×Int) ((List Int)×BY)):= Option.bind (if 0<K.2.2.2.2 then(some (decide (1<V.1))) else(some false)) fun ag=> if ag=true then((As (Y.2.2.2.2.2 - 1)).bind fun al=> (f41 fuel (K.1,K.2.1,K.2.2.1) (max (0) al)).bind fun Z=> (f97 fuel Z.2 6).bind fun O=> Option.bind (if O.1=true then((As (V.1 - 1)).bind fun am=> (f41 fuel O.2 am).bind fun ap=> some ap) else(some (Z.1,O.2.1,O.2.2.1,O.2.2.2))) fun U=> Option.bind (if U.1≠Y.2.2.2.2.2 then((f98 fuel K.2.2.2.1 U.1).bind fun av=> some av) else(some K.2.2.2.1)) fun a0=> (As (K.2.2.2.2 - 1)).bind fun a1=> some (.more (U.2.1,U.2.2.1,U.2.2.2,a0,a1))) else(some (.done (K.2.2.2.1,K.1,K.2.1,K.2.2.1)))
def MR(fuel:Nat)(O:Int×(BY))(K:(List (List Int))×(List (List Int))×(List Int)×Int×Nat×Int):Option (Bh ((List (List Int))×(List (List Int))×(List Int)×Int×Nat×Int) ((List Int)×Int×Nat×Bc)):= if K.2.2.2.2.2<O.1 then((As (O.1 - 1)).bind fun am=> (As (K.2.2.2.2.2+1)).bind fun ap=> (f97 fuel (K.2.2.1,K.2.2.2.1,K.2.2.2.2.1) 3).bind fun U=> Option.bind (if U.1=true then((As (O.1 - 1)).bind fun a1=> (f96 fuel U.2 K.2.2.2.2.2 a1).bind fun Y=> (f98 fuel ([min am ap]:List Int) Y.1).bind fun a2=> some (a2,Y.2.1,Y.2.2.1,Y.2.2.2)) else(some (([min am ap]:List Int),U.2.1,U.2.2.1,U.2.2.2))) fun av=> (f97 fuel av.2 8).bind fun V=> Option.bind (if V.1=true then((As (O.1 - 1)).bind fun a3=> (f41 fuel V.2 a3).bind fun Z=> some (([Z.1]:List Int),Z.2.1,Z.2.2.1,Z.2.2.2)) else(some (av.1,V.2.1,V.2.2.1,V.2.2.2))) fun a0=> (f99 fuel a0.2 ([0,1,1,2]:List Int)).bind fun ag=> Option.bind (iter (Nk fuel O K) fuel (ag.2.1,ag.2.2.1,ag.2.2.2,[],ag.1)) fun al=> (CF K.1 ([a0.1]:List (List Int))).bind fun a4=> (CF K.2.1 ([al.1]:List (List Int))).bind fun a5=> (As (K.2.2.2.2.2+1)).bind fun a6=> some (.more (a4,a5,al.2.1,al.2.2.1,al.2.2.2,a6))) else(some (.done (K.2.2.1,K.2.2.2.1,K.2.2.2.2.1,K.1,K.2.1)))
def f39(fuel:Nat)(p0:BY)(p1:Int):Option ((Bc)×(BY)):= (f96 fuel p0 1 p1).bind fun K=> Option.bind (iter (MR fuel K) fuel ([],[],K.2.1,K.2.2.1,K.2.2.2,0)) fun O=> some (O.2.2.2,(O.1,O.2.1,O.2.2.1))
theorem aC{bk:Nat}{cu:Ao}{c2:Nat}{p0:BY}{p1:Int}(dC:Al rI E cu c2 p0.1){fuel:Nat}{r:(Bc)×(BY)}(cv:f39 fuel p0 p1=some r):AK J 39 [pV bk 0,iV p1] E [(bk,.cells #[sV cu p0.1 c2,iV p0.2.1,.int .u64 ((p0.2.2:Nat):Int)] 92 (0,0))] (fun w E' B'=>∃(cw:Ao) (cy:Nat) (cz:Ao) (cA:Nat) (cB:Ao) (cC:Nat),w= .agg #[sV cw r.1.1 cy,sV cz r.1.2 cA]∧B'= [(bk,.cells #[sV cB r.2.1 cC,iV r.2.2.1,.int .u64 ((r.2.2.2:Nat):Int)] 92 (0,0))]∧Al (rL rI) E' cw cy r.1.1∧Al (rL rI) E' cz cA r.1.2∧Al rI E' cB cC r.2.1):=by
 refine A4 func39 fun Q hW cs H dD dE=>?_;unfold f39 at cv;refine zg 2 rfl (CO dD Gs fun U dF=>?_);refine zg 3 rfl (CO dF Gs fun O dG=>?_);obtain⟨a4,dH,dI⟩:=bs cv;refine zg 5 rfl (B6 0 (Pa dC dH) rfl rfl N1 dG rfl ?_);rintro _ bT _ dJ ⟨cD,cE,rfl,rfl,dK⟩ dL;refine Cr (S':= [[(bk,.cells #[sV cD a4.2.1 cE,iV a4.2.2.1,.int .u64 ((a4.2.2.2:Nat):Int)] 92 (0,0))],[(U,.cells #[nS,nS] 24 (0,0))],[(O,.cells #[nS,nS] 24 (0,0))]]) rfl dL fun dM=>?_;obtain⟨Y,dN,dO⟩:=bs dI;refine zg 7 rfl (Bt (fun L s=>∃(bx:LH) (bz:Ao) (bA:Nat) (a8:Ao) (a9:Nat) (bU:Seg) (ba:Ao) (bb:Nat) (bV:Seg),Jn bT H bx [bX bk #[sV bz Y.1 bA,iV Y.2.1,.int .u64 ((Y.2.2.1:Nat):Int)] 92,bX U #[nS,nS] 24,bX O #[sV a8 Y.2.2.2.1 a9,sV ba Y.2.2.2.2 bb] 24,bU,bV] [(4,pV U 0),(5,pV O 0)] L s (Al rI bx bz bA Y.1∧OL 28 (rL rI) bx a8 a9 bU Y.2.2.2.1∧OL 28 (rL rI) bx ba bb bV Y.2.2.2.2)) ?_ ?_)
 ·rintro _ _ ⟨bx,bz,bA,a8,a9,bU,ba,bb,bV,rfl,rfl,dP,cF,dQ,dR,dS⟩;refine zg 2 rfl (AF rfl (fun ρ h=>FY (vs:= [sV a8 Y.2.2.2.1 a9,sV ba Y.2.2.2.2 bb]) Ca BI (h _ _ rfl) (FW (off:=0) 2 cF rfl rfl)) ?_);refine BU 1 cF BI fun dT=>?_;refine JL.done (BT 3 dR dT rfl fun hX bW dU dV=>?_);refine BT 4 (dS.Ah bW) dV rfl fun hY bY dW dX=>Cr (S':= [[(bk,.cells #[sV bz Y.1 bA,iV Y.2.1,.int .u64 ((Y.2.2.1:Nat):Int)] 92 (0,0))],[(U,.cells #[sV a8 Y.2.2.2.1 a9,sV ba Y.2.2.2.2 bb] 24 (0,0))],[(O,.cells #[sV a8 Y.2.2.2.1 a9,sV ba Y.2.2.2.2 bb] 24 (0,0))],[],[]]) rfl dX fun dY=>JS.drop 2 dY rfl fun cG=>?_;obtain rfl:=oi dO;refine JL.ret (v:= .agg #[sV a8 Y.2.2.2.1 a9,sV ba Y.2.2.2.2 bb]) rfl rfl (Ch.list func39 rfl (vs:= [.agg #[sV a8 Y.2.2.2.1 a9,sV ba Y.2.2.2.2 bb]]) ⟨⟨_,rfl,Ld.many (vs:= [sV a8 Y.2.2.2.1 a9,sV ba Y.2.2.2.2 bb]) Ca BI (FW (off:=0) 1 cG rfl rfl)⟩,trivial⟩) (Ir 1 cG rfl fun dZ=>?_);exact dE (((dJ.Ab dP).Ab bW).Ab bY) rfl ⟨a8,a9,ba,bb,bz,bA,rfl,rfl,(dU.Ah bY),dW,(dQ.Ah (bW.Ab bY))⟩ dZ
 ·intro ea;refine JL.block (CN dN (fun L s K=>∃(bp:LH) (Z:Ao) (ag:Nat) (ap:Seg) (al:Ao) (am:Nat) (av:Seg) (bH:Ao) (bI:Nat),Jn bT H bp [bX bk #[sV bH K.2.2.1 bI,iV K.2.2.2.1,.int .u64 ((K.2.2.2.2.1:Nat):Int)] 92,bX U #[nS,nS] 24,bX O #[sV Z K.1 ag,sV al K.2.1 am] 24,ap,av] [(0,pV bk 0),(4,pV U 0),(5,pV O 0),(6,iV a4.1),(7,iV K.2.2.2.2.2)] L s (OL 28 (rL rI) bp Z ag ap K.1∧OL 28 (rL rI) bp al am av K.2.1∧Al rI bp bH bI K.2.2.1)) ⟨bT,none,0,[],none,0,[],cD,cE,rfl,rfl,Ar,dM,OL.nil,OL.nil,dK⟩ ?_);rintro _ _ K ⟨bp,Z,ag,ap,al,am,av,bH,bI,rfl,rfl,bJ,cH,bK,bL,cI⟩ eb ⟨hZ,bB⟩ bZ;have cJ:=bB;unfold MR at cJ;refine zg 7 rfl (AL cJ (fun ec ed=>?_) (fun ec ee=>?_))
  ·obtain⟨b0,ef,eg⟩:=bs ed;refine zg 6 rfl (Cg ef rfl rfl rfl ?_);obtain⟨b1,eh,ei⟩:=bs eg;refine zg 1 rfl (Bb eh rfl rfl rfl ?_);refine AF (v:=iV (min b0 b1)) rfl (fun ρ h=>Yl.min2 (h _ _ rfl) (h _ _ rfl)) (DC (pp:=rI) [iV (min b0 b1)] [min b0 b1] rfl rfl rfl underlying28 AX CS (by decide) rfl rfl rfl ⟨rfl,trivial⟩ cH fun ej ek cK el=>?_);obtain⟨b2,em,en⟩:=bs ei;refine zg 6 rfl (B6 0 (Lq cI em) rfl rfl Kk el rfl ?_);rintro _ eo _ a5 ⟨cM,cN,rfl,rfl,cO⟩ cP;obtain⟨bq,ep,eq⟩:=bs en;refine JL.done (Bt (fun L s=>∃(bM:LH) (bN:Ao) (bO:Nat) (b3:Ao) (b4:Nat),Jn eo H bM [bX bk #[sV b3 bq.2.1 b4,iV bq.2.2.1,.int .u64 ((bq.2.2.2:Nat):Int)] 92,bX U #[nS,nS] 24,bX O #[sV Z K.1 ag,sV al K.2.1 am] 24,ap,av] [(0,pV bk 0),(4,pV U 0),(5,pV O 0),(6,iV a4.1),(7,iV K.2.2.2.2.2),(8,sV bN bq.1 bO)] L s (Al rI bM bN bO bq.1∧Al rI bM b3 b4 bq.2.1)) ?_ ?_)
   ·rintro _ _ ⟨bM,bN,bO,b3,b4,rfl,rfl,bf,er,et,eu⟩;obtain⟨b5,ew,ex⟩:=bs eq;refine zg 4 rfl (B6 0 (Lq eu ew) rfl rfl Kk er rfl ?_);rintro _ cQ _ bc ⟨cR,cT,rfl,rfl,cV⟩ ey;refine Cr (S':= [[(bk,.cells #[sV cR b5.2.1 cT,iV b5.2.2.1,.int .u64 ((b5.2.2.2:Nat):Int)] 92 (0,0))],[(U,.cells #[nS,nS] 24 (0,0))],[(O,.cells #[sV Z K.1 ag,sV al K.2.1 am] 24 (0,0))],ap,av]) rfl ey fun cW=>?_;obtain⟨a1,ez,eA⟩:=bs ex;refine JL.done (Bt (fun L s=>∃(bP:LH) (bd:Ao) (be:Nat) (b6:Ao) (b7:Nat),Jn cQ H bP [bX bk #[sV b6 a1.2.1 b7,iV a1.2.2.1,.int .u64 ((a1.2.2.2:Nat):Int)] 92,bX U #[nS,nS] 24,bX O #[sV Z K.1 ag,sV al K.2.1 am] 24,ap,av] [(0,pV bk 0),(4,pV U 0),(5,pV O 0),(6,iV a4.1),(7,iV K.2.2.2.2.2),(8,sV bd a1.1 be)] L s (Al rI bP bd be a1.1∧Al rI bP b6 b7 a1.2.1)) ?_ ?_)
    ·rintro _ _ ⟨bP,bd,be,b6,b7,rfl,rfl,bg,eB,cX,eC⟩;refine zg 8 rfl (DC (pp:=rI) [iV 0,iV 1,iV 1,iV 2] [0,1,1,2] rfl rfl rfl underlying28 AX CS (by decide) rfl rfl rfl ⟨rfl,rfl,rfl,rfl,trivial⟩ eB fun h0 h1 eD eE=>?_);refine BT 5 eD eE rfl fun h2 a3 eF eG=>?_;obtain⟨b8,eH,eI⟩:=bs eA;refine B6 0 (Nv (eC.Ah a3) eF eH) rfl rfl LY eG rfl ?_;rintro _ b9 _ a6 ⟨cY,cZ,rfl,rfl,eJ⟩ eK;refine Cr (S':= [[(bk,.cells #[sV cY b8.2.1 cZ,iV b8.2.2.1,.int .u64 ((b8.2.2.2:Nat):Int)] 92 (0,0))],[(U,.cells #[nS,nS] 24 (0,0))],[(O,.cells #[sV Z K.1 ag,sV al K.2.1 am] 24 (0,0))],ap,av,[]]) rfl eK fun eL=>?_;obtain⟨V,eM,eN⟩:=bs eI;refine zg 2 rfl (Bt (fun L s=>∃(bj:LH) (br:Ao) (bu:Nat) (bh:Ao) (bi:Nat),Jn b9 H bj [bX bk #[sV bh V.2.1 bi,iV V.2.2.1,.int .u64 ((V.2.2.2:Nat):Int)] 92,bX U #[nS,nS] 24,bX O #[sV Z K.1 ag,sV al K.2.1 am] 24,ap,av] [(0,pV bk 0),(4,pV U 0),(5,pV O 0),(6,iV a4.1),(7,iV K.2.2.2.2.2),(8,sV bd a1.1 be),(9,sV br V.1 bu)] L s (Al rI bj br bu V.1∧Al rI bj bh bi V.2.1)) ?_ ?_)
     ·rintro _ _ ⟨bj,br,bu,bh,bi,rfl,rfl,a7,bC,ca,cb⟩;refine Dl 11 [O] ⟨⟨2,_,rfl⟩,trivial⟩ bC fun ht=>B7 0 ht underlying24 BR rfl rfl rfl rfl (Ff 1 ht 0 2 bC Cs ?_);refine B4 2 ht rfl rfl (B7 5 ht underlying24 BR rfl rfl rfl rfl ?_);refine Ff 6 ht 1 2 bC Cs ?_;refine B4 7 ht rfl rfl ?_;obtain⟨cc,cd,eO⟩:=bs eN;obtain⟨ce,cf,cg⟩:=bs eO;refine Hm (i:=3) (j:=8) rfl (by decide+kernel) ?_ ?_
      ·refine Take.lit (pp:=(rL rI)) (jp:=2) [sV bd a1.1 be] ([a1.1]:List (List Int)) bC rfl rfl rfl rfl underlying22 BZ Fq (by decide) rfl rfl rfl ⟨⟨_,_,rfl,(cX.Ah ((a3.Ab a6).Ab a7))⟩,trivial⟩ fun h3 c0 c1 c3=>Hm (i:=4) (j:=8) rfl (by decide+kernel) ?_ ?_
       ·refine Take.app (pp:=(rL rI)) (jp:=2) 3 5 c3 rfl cd rfl rfl rfl rfl rfl rfl rfl underlying22 underlying22 BZ (Cx type28) Fq rfl (by decide) (by decide) (bK.Ah ((((((a5.Ab bf).Ab bc).Ab bg).Ab a3).Ab a6).Ab a7)) c1 rfl rfl rfl rfl fun eP eQ h4 c4 eR eS=>B7 10 ht underlying24 BR rfl rfl rfl rfl (JG.one (i:=8) rfl (by decide+kernel) ?_);refine Take.lit (pp:=(rL rI)) (jp:=2) [sV br V.1 bu] ([V.1]:List (List Int)) eS rfl rfl rfl rfl underlying22 BZ Fq (by decide) rfl rfl rfl ⟨⟨_,_,rfl,ca⟩,trivial⟩ fun h5 eT eU eV=>JG.one (i:=9) rfl (by decide+kernel) (Take.app (pp:=(rL rI)) (jp:=2) 4 6 eV rfl cf rfl rfl rfl rfl rfl rfl rfl underlying22 underlying22 BZ (Cx type28) Fq rfl (by decide) (by decide) (bL.Ah ((((((a5.Ab bf).Ab bc).Ab bg).Ab a3).Ab a6).Ab a7)) eU rfl rfl rfl rfl fun eW eX h6 c5 eY eZ=>?_);refine Cc [11,12,13] (Eo 3 rfl eZ fun e0=>?_);refine JS.drop 3 e0 rfl fun e1=>Eo 4 rfl e1 fun e2=>JS.drop 4 e2 rfl fun e3=>Cr (S':= [[(bk,.cells #[sV bh V.2.1 bi,iV V.2.2.1,.int .u64 ((V.2.2.2:Nat):Int)] 92 (0,0))],[(U,.cells #[nS,nS] 24 (0,0))],[(O,.cells #[sV Z K.1 ag,sV al K.2.1 am] 24 (0,0))],[],[],c0,eT,c4,c5]) rfl e3 fun e4=>BU 2 e4 BR fun e5=>?_;refine BM underlying24 BR rfl rfl rfl (BU 2 e5 BR fun e6=>?_);obtain⟨e7,e8,e9⟩:=bs cg;refine zg 4 rfl (Bb e8 rfl rfl rfl ?_);refine zg 2 rfl (JS.drop 5 e6 rfl fun fa=>?_);refine JS.drop 6 fa rfl fun fb=>?_;obtain rfl:=oi e9;exact Az (bZ _ _ (cc,ce,V.2.1,V.2.2.1,V.2.2.2,e7) ⟨bj,eP,eQ,c4,eW,eX,c5,bh,bi,rfl,rfl,(((((((bJ.Ab a5).Ab bf).Ab bc).Ab bg).Ab a3).Ab a6).Ab a7),fb,eR,eY,cb⟩ bB) rfl
       ·refine Take.lit (pp:=(rL rI)) (jp:=2) [sV br V.1 bu] ([V.1]:List (List Int)) c3 rfl rfl rfl rfl underlying22 BZ Fq (by decide) rfl rfl rfl ⟨⟨_,_,rfl,ca⟩,trivial⟩ fun h7 fc fd fe=>JG.one (i:=4) rfl (by decide+kernel) (Take.app (pp:=(rL rI)) (jp:=2) 3 5 fe rfl cd rfl rfl rfl rfl rfl rfl rfl underlying22 underlying22 BZ (Cx type28) Fq rfl (by decide) (by decide) (bK.Ah ((((((a5.Ab bf).Ab bc).Ab bg).Ab a3).Ab a6).Ab a7)) c1 rfl rfl rfl rfl fun ff fg h8 c6 fh fj=>?_);refine B7 10 ht underlying24 BR rfl rfl rfl rfl (JG.one (i:=9) rfl (by decide+kernel) ?_);refine Take.app (pp:=(rL rI)) (jp:=2) 4 6 fj rfl cf rfl rfl rfl rfl rfl rfl rfl underlying22 underlying22 BZ (Cx type28) Fq rfl (by decide) (by decide) (bL.Ah ((((((a5.Ab bf).Ab bc).Ab bg).Ab a3).Ab a6).Ab a7)) fd rfl rfl rfl rfl fun fk fm h9 c7 fo fp=>Cc [11,12,13] (Eo 3 rfl fp fun fq=>?_);refine JS.drop 3 fq rfl fun fs=>Eo 4 rfl fs fun fu=>JS.drop 4 fu rfl fun fv=>Cr (S':= [[(bk,.cells #[sV bh V.2.1 bi,iV V.2.2.1,.int .u64 ((V.2.2.2:Nat):Int)] 92 (0,0))],[(U,.cells #[nS,nS] 24 (0,0))],[(O,.cells #[sV Z K.1 ag,sV al K.2.1 am] 24 (0,0))],[],[],c0,fc,c6,c7]) rfl fv fun fw=>BU 2 fw BR fun fx=>?_;refine BM underlying24 BR rfl rfl rfl (BU 2 fx BR fun fy=>?_);obtain⟨fz,fA,fB⟩:=bs cg;refine zg 4 rfl (Bb fA rfl rfl rfl ?_);refine zg 2 rfl (JS.drop 5 fy rfl fun fC=>?_);refine JS.drop 6 fC rfl fun fD=>?_;obtain rfl:=oi fB;exact Az (bZ _ _ (cc,ce,V.2.1,V.2.2.1,V.2.2.2,fz) ⟨bj,ff,fg,c6,fk,fm,c7,bh,bi,rfl,rfl,(((((((bJ.Ab a5).Ab bf).Ab bc).Ab bg).Ab a3).Ab a6).Ab a7),fD,fh,fo,cb⟩ bB) rfl
      ·refine Take.lit (pp:=(rL rI)) (jp:=2) [sV br V.1 bu] ([V.1]:List (List Int)) bC rfl rfl rfl rfl underlying22 BZ Fq (by decide) rfl rfl rfl ⟨⟨_,_,rfl,ca⟩,trivial⟩ fun ia fE fF fG=>JG.one (i:=3) rfl (by decide+kernel) (Take.lit (pp:=(rL rI)) (jp:=2) [sV bd a1.1 be] ([a1.1]:List (List Int)) fG rfl rfl rfl rfl underlying22 BZ Fq (by decide) rfl rfl rfl ⟨⟨_,_,rfl,(cX.Ah ((a3.Ab a6).Ab a7))⟩,trivial⟩ fun ic fH fI fJ=>?_);refine JG.one (i:=4) rfl (by decide+kernel) (Take.app (pp:=(rL rI)) (jp:=2) 3 6 fJ rfl cd rfl rfl rfl rfl rfl rfl rfl underlying22 underlying22 BZ (Cx type28) Fq rfl (by decide) (by decide) (bK.Ah ((((((a5.Ab bf).Ab bc).Ab bg).Ab a3).Ab a6).Ab a7)) fI rfl rfl rfl rfl fun fK fL ie c8 fM fN=>?_);refine B7 10 ht underlying24 BR rfl rfl rfl rfl (JG.one (i:=9) rfl (by decide+kernel) ?_);refine Take.app (pp:=(rL rI)) (jp:=2) 4 5 fN rfl cf rfl rfl rfl rfl rfl rfl rfl underlying22 underlying22 BZ (Cx type28) Fq rfl (by decide) (by decide) (bL.Ah ((((((a5.Ab bf).Ab bc).Ab bg).Ab a3).Ab a6).Ab a7)) fF rfl rfl rfl rfl fun fO fP ig c9 fQ fR=>Cc [11,12,13] (Eo 3 rfl fR fun fS=>?_);refine JS.drop 3 fS rfl fun fT=>Eo 4 rfl fT fun fU=>JS.drop 4 fU rfl fun fW=>Cr (S':= [[(bk,.cells #[sV bh V.2.1 bi,iV V.2.2.1,.int .u64 ((V.2.2.2:Nat):Int)] 92 (0,0))],[(U,.cells #[nS,nS] 24 (0,0))],[(O,.cells #[sV Z K.1 ag,sV al K.2.1 am] 24 (0,0))],[],[],fE,fH,c8,c9]) rfl fW fun fX=>BU 2 fX BR fun fY=>?_;refine BM underlying24 BR rfl rfl rfl (BU 2 fY BR fun fZ=>?_);obtain⟨ga,gb,gc⟩:=bs cg;refine zg 4 rfl (Bb gb rfl rfl rfl ?_);refine zg 2 rfl (JS.drop 5 fZ rfl fun gd=>?_);refine JS.drop 6 gd rfl fun ge=>?_;obtain rfl:=oi gc;exact Az (bZ _ _ (cc,ce,V.2.1,V.2.2.1,V.2.2.2,ga) ⟨bj,fK,fL,c8,fO,fP,c9,bh,bi,rfl,rfl,(((((((bJ.Ab a5).Ab bf).Ab bc).Ab bg).Ab a3).Ab a6).Ab a7),ge,fM,fQ,cb⟩ bB) rfl
     ·intro gf;refine JL.block (CN eM (fun L s a0=>∃(bl:LH) (bD:Ao) (bE:Nat) (bm:Ao) (bn:Nat),Jn b9 H bl [bX bk #[sV bD a0.1 bE,iV a0.2.1,.int .u64 ((a0.2.2.1:Nat):Int)] 92,bX U #[nS,nS] 24,bX O #[sV Z K.1 ag,sV al K.2.1 am] 24,ap,av] [(0,pV bk 0),(4,pV U 0),(5,pV O 0),(6,iV a4.1),(7,iV K.2.2.2.2.2),(8,sV bd a1.1 be),(9,sV bm a0.2.2.2.1 bn),(10,iV a0.2.2.2.2)] L s (Al rI bl bD bE a0.1∧Al rI bl bm bn a0.2.2.2.1)) ⟨b9,cY,cZ,none,0,rfl,rfl,Ar,eL,eJ,Al.nil⟩ ?_);rintro _ _ a0 ⟨bl,bD,bE,bm,bn,rfl,rfl,da,db,dc,ci⟩ gg ⟨ih,ck⟩ gh;have dd:=ck;unfold Nk at dd;obtain⟨gi,gj,gk⟩:=bs dd;refine zg 6 rfl (ER [] (fun L s=>∃(cm:LH),Jm bl H cm [bX bk #[sV bD a0.1 bE,iV a0.2.1,.int .u64 ((a0.2.2.1:Nat):Int)] 92,bX U #[nS,nS] 24,bX O #[sV Z K.1 ag,sV al K.2.1 am] 24,ap,av] [(0,pV bk 0),(4,pV U 0),(5,pV O 0),(6,iV a4.1),(7,iV K.2.2.2.2.2),(8,sV bd a1.1 be),(9,sV bm a0.2.2.2.1 bn),(10,iV a0.2.2.2.2),(50,.bool gi)] L s) ?_ ?_)
      ·rintro _ _ ⟨cm,rfl,rfl,bo,de⟩;refine JL.done (BJ gk (fun gl gm=>?_) (fun gl gn=>?_))
       ·obtain⟨gp,gq,gr⟩:=bs gm;refine zg 7 rfl (Cg gq rfl rfl rfl ?_);refine AF (v:=iV (max (0) gp)) rfl (fun ρ h=>Yl.max2 (h _ _ rfl) (h _ _ rfl)) ?_;obtain⟨ii,gt,gu⟩:=bs gr;refine B6 0 (HR (dc.Ah bo) gt) rfl rfl HE de rfl ?_;rintro _ ij _ cn ⟨ik,il,rfl,rfl,gv⟩ gw;obtain⟨io,gx,gy⟩:=bs gu;refine zg 6 rfl (B6 0 (Lq gv gx) rfl rfl Kk gw rfl ?_);rintro _ df _ co ⟨gz,gA,rfl,rfl,dg⟩ dh;obtain⟨a2,gB,gC⟩:=bs gy;refine JL.done (Bt (fun L s=>∃(bF:LH) (bv:Ao) (bw:Nat),Jn df H bF [bX bk #[sV bv a2.2.1 bw,iV a2.2.2.1,.int .u64 ((a2.2.2.2:Nat):Int)] 92,bX U #[nS,nS] 24,bX O #[sV Z K.1 ag,sV al K.2.1 am] 24,ap,av] [(0,pV bk 0),(4,pV U 0),(5,pV O 0),(6,iV a4.1),(7,iV K.2.2.2.2.2),(8,sV bd a1.1 be),(9,sV bm a0.2.2.2.1 bn),(10,iV a0.2.2.2.2),(11,iV a2.1)] L s (Al rI bF bv bw a2.2.1)) ?_ ?_)
        ·rintro _ _ ⟨bF,bv,bw,rfl,rfl,cp,di,gD⟩;obtain⟨cq,gE,gF⟩:=bs gC;refine zg 6 rfl (Bt (fun L s=>∃(bQ:LH) (bR:Ao) (bS:Nat),Jn bF H bQ [bX bk #[sV bv a2.2.1 bw,iV a2.2.2.1,.int .u64 ((a2.2.2.2:Nat):Int)] 92,bX U #[nS,nS] 24,bX O #[sV Z K.1 ag,sV al K.2.1 am] 24,ap,av] [(0,pV bk 0),(4,pV U 0),(5,pV O 0),(6,iV a4.1),(7,iV K.2.2.2.2.2),(8,sV bd a1.1 be),(9,sV bR cq bS),(10,iV a0.2.2.2.2)] L s (Al rI bQ bR bS cq)) ?_ ?_)
         ·rintro _ _ ⟨bQ,bR,bS,rfl,rfl,dj,gG,gH⟩;obtain⟨gI,gJ,gK⟩:=bs gF;refine zg 3 rfl (Cg gJ rfl rfl rfl ?_);refine zg 2 rfl ?_;obtain rfl:=oi gK;exact Az (gh _ _ (a2.2.1,a2.2.2.1,a2.2.2.2,cq,gI) ⟨bQ,bv,bw,bR,bS,rfl,rfl,(((((da.Ab bo).Ab cn).Ab co).Ab cp).Ab dj),gG,(gD.Ah dj),gH⟩ ck) rfl
         ·intro dk;refine AL gE (fun gL gM=>?_) (fun gL gN=>?_)
          ·obtain⟨iq,gO,gP⟩:=bs gM;refine zg 3 rfl (BV (Tc (ci.Ah (((bo.Ab cn).Ab co).Ab cp)) gO) rfl rfl (AS func98 rfl) di ?_);rintro _ gQ _ gR ⟨gS,gT,rfl,rfl,gU⟩ gV;refine Cr (S':= [[(bk,.cells #[sV bv a2.2.1 bw,iV a2.2.2.1,.int .u64 ((a2.2.2.2:Nat):Int)] 92 (0,0))],[(U,.cells #[nS,nS] 24 (0,0))],[(O,.cells #[sV Z K.1 ag,sV al K.2.1 am] 24 (0,0))],ap,av,[]]) rfl gV fun gW=>zg 2 rfl ?_;obtain rfl:=oi gP;exact Az (dk _ _ ⟨gQ,gS,gT,rfl,rfl,gR,gW,gU⟩) rfl
          ·refine JL.skip ?_;obtain rfl:=oi gN;exact Az (dk _ _ ⟨bF,bm,bn,rfl,rfl,Ar,di,(ci.Ah (((bo.Ab cn).Ab co).Ab cp))⟩) rfl
        ·intro dl;refine BJ gB (fun gX gY=>?_) (fun gX gZ=>?_)
         ·obtain⟨ir,g0,g1⟩:=bs gY;refine zg 3 rfl (Cg g0 rfl rfl rfl ?_);obtain⟨cr,g3,g4⟩:=bs g1;refine B6 0 (HR dg g3) rfl rfl HE dh rfl ?_;rintro _ g5 _ g6 ⟨dm,dn,rfl,rfl,g7⟩ g8;refine Cr (S':= [[(bk,.cells #[sV dm cr.2.1 dn,iV cr.2.2.1,.int .u64 ((cr.2.2.2:Nat):Int)] 92 (0,0))],[(U,.cells #[nS,nS] 24 (0,0))],[(O,.cells #[sV Z K.1 ag,sV al K.2.1 am] 24 (0,0))],ap,av]) rfl g8 fun g9=>zg 2 rfl ?_;obtain rfl:=oi g4;exact Az (dl _ _ ⟨g5,dm,dn,rfl,rfl,g6,g9,g7⟩) rfl
         ·refine JL.skip ?_;obtain rfl:=oi gZ;exact Az (dl _ _ ⟨df,gz,gA,rfl,rfl,Ar,dh,dg⟩) rfl
       ·refine JL.exit rfl ?_;obtain rfl:=oi gn;obtain rfl:=gg _ ck;exact Az (gf _ _ ⟨cm,bm,bn,bD,bE,rfl,rfl,(da.Ab bo),de,(ci.Ah bo),(dc.Ah bo)⟩) rfl
      ·intro dp;refine Ei 47 gj (fun ha hb=>?_) (fun ha hc=>?_)
       ·refine zg 3 rfl ?_;obtain rfl:=oi hb;exact Az (dp _ _ ⟨bl,rfl,rfl,Ar,db⟩) rfl
       ·refine zg 3 rfl ?_;obtain rfl:=oi hc;exact Az (dp _ _ ⟨bl,rfl,rfl,Ar,db⟩) rfl
    ·intro dq;refine BJ ez (fun hd he=>?_) (fun hd hf=>?_)
     ·obtain⟨it,hj,hk⟩:=bs he;refine zg 3 rfl (Cg hj rfl rfl rfl ?_);obtain⟨bG,hl,hm⟩:=bs hk;refine B6 0 (HR cV hl) rfl rfl HE cW rfl ?_;rintro _ iu _ hn ⟨dr,dt,rfl,rfl,ho⟩ hp;refine DC (pp:=rI) [iV bG.1] [bG.1] rfl rfl rfl underlying28 AX CS (by decide) rfl rfl rfl ⟨rfl,trivial⟩ hp fun hq iv hr hu=>zg 2 rfl (BT 5 hr hu rfl fun hv du hw hx=>?_);refine Cr (S':= [[(bk,.cells #[sV dr bG.2.1 dt,iV bG.2.2.1,.int .u64 ((bG.2.2.2:Nat):Int)] 92 (0,0))],[(U,.cells #[nS,nS] 24 (0,0))],[(O,.cells #[sV Z K.1 ag,sV al K.2.1 am] 24 (0,0))],ap,av,[]]) rfl hx fun hy=>?_;obtain rfl:=oi hm;exact Az (dq _ _ ⟨hv,(AZ hq),1,dr,dt,rfl,rfl,(hn.Ab du),hy,hw,(ho.Ah du)⟩) rfl
     ·refine JL.skip ?_;obtain rfl:=oi hf;exact Az (dq _ _ ⟨cQ,bN,bO,cR,cT,rfl,rfl,Ar,cW,(et.Ah bc),cV⟩) rfl
   ·intro dv;refine BJ ep (fun hz hA=>?_) (fun hz hB=>?_)
    ·obtain⟨iw,hC,hD⟩:=bs hA;refine zg 5 rfl (Cg hC rfl rfl rfl ?_);obtain⟨ct,hE,hF⟩:=bs hD;refine B6 0 (Pa cO hE) rfl rfl N1 cP rfl ?_;rintro _ iy _ dw ⟨dx,dy,rfl,rfl,hG⟩ hH;refine Cr (S':= [[(bk,.cells #[sV dx ct.2.1 dy,iV ct.2.2.1,.int .u64 ((ct.2.2.2:Nat):Int)] 92 (0,0))],[(U,.cells #[nS,nS] 24 (0,0))],[(O,.cells #[sV Z K.1 ag,sV al K.2.1 am] 24 (0,0))],ap,av,ek]) rfl hH fun hI=>BT 5 (cK.Ah (a5.Ab dw)) hI rfl fun iz dz hJ hK=>?_;obtain⟨iA,hL,hM⟩:=bs hF;refine BV (Tc hJ hL) rfl rfl (AS func98 rfl) hK ?_;rintro _ hN _ dA ⟨hO,hP,rfl,rfl,hQ⟩ hR;refine zg 2 rfl ?_;obtain rfl:=oi hM;exact Az (dv _ _ ⟨hN,hO,hP,dx,dy,rfl,rfl,((dw.Ab dz).Ab dA),hR,hQ,(hG.Ah (dz.Ab dA))⟩) rfl
    ·refine JL.skip (BT 5 (cK.Ah a5) cP rfl fun hS dB hT hU=>?_);refine Cr (S':= [[(bk,.cells #[sV cM b2.2.1 cN,iV b2.2.2.1,.int .u64 ((b2.2.2.2:Nat):Int)] 92 (0,0))],[(U,.cells #[nS,nS] 24 (0,0))],[(O,.cells #[sV Z K.1 ag,sV al K.2.1 am] 24 (0,0))],ap,av,[]]) rfl hU fun hV=>?_;obtain rfl:=oi hB;exact Az (dv _ _ ⟨hS,(AZ ej),1,cM,cN,rfl,rfl,dB,hV,hT,(cO.Ah dB)⟩) rfl
  ·refine JL.exit rfl ?_;obtain rfl:=oi ee;obtain rfl:=eb _ bB;exact Az (ea _ _ ⟨bp,bH,bI,Z,ag,ap,al,am,av,rfl,rfl,bJ,cH,cI,bK,bL⟩) rfl
def M4(fuel:Nat)(p1:Bc)(U:Int×(BY))(K:(List Int)×Int×Nat×Int×Int):Option (Bh ((List Int)×Int×Nat×Int×Int) (Int×BY)):= if K.2.2.2.2<U.1 then((ix p1.1 K.2.2.2.1).bind fun V=> (f99 fuel (K.1,K.2.1,K.2.2.1) V).bind fun O=> (As (K.2.2.2.2+1)).bind fun Y=> some (.more (O.2.1,O.2.2.1,O.2.2.2,O.1,Y))) else(some (.done (K.2.2.2.1,K.1,K.2.1,K.2.2.1)))
def Nh(fuel:Nat)(p1:Bc)(p2:Int)(K:(List Int)×Int×Nat×Int×(List Int)×Int):Option (Bh ((List Int)×Int×Nat×Int×(List Int)×Int) ((List Int)×BY)):= if K.2.2.2.2.2<p2 then((room K.2.2.2.2.1 K.2.2.2.1).bind fun U=> (ix p1.1 K.2.2.2.1).bind fun V=> (f99 fuel (K.1,K.2.1,K.2.2.1) V).bind fun O=> (As (K.2.2.2.2.2+1)).bind fun Y=> some (.more (O.2.1,O.2.2.1,O.2.2.2,O.1,U,Y))) else(some (.done (K.2.2.2.2.1,K.1,K.2.1,K.2.2.1)))
def f45(fuel:Nat)(p0:BY)(p1:Bc)(p2:Int):Option (Int×(List Int)×(BY)):= (f41 fuel p0 6).bind fun K=> Option.bind (iter (M4 fuel p1 K) fuel (K.2.1,K.2.2.1,K.2.2.2,0,0)) fun O=> Option.bind (iter (Nh fuel p1 p2) fuel (O.2.1,O.2.2.1,O.2.2.2,O.1,[],0)) fun U=> some (K.1,U.1,U.2)
theorem aK{bk:Nat}{bo:Ao}{c2:Nat}{bp:Ao}{bq:Nat}{br:Ao}{bu:Nat}{p0:BY}{p1:Bc}{p2:Int}(bM:Al rI E bo c2 p0.1)(bv:Al (rL rI) E bp bq p1.1)(c5:Al (rL rI) E br bu p1.2){fuel:Nat}{r:Int×(List Int)×(BY)}(bw:f45 fuel p0 p1 p2=some r):AK J 45 [pV bk 0,.agg #[sV bp p1.1 bq,sV br p1.2 bu],iV p2] E [(bk,.cells #[sV bo p0.1 c2,iV p0.2.1,.int .u64 ((p0.2.2:Nat):Int)] 92 (0,0))] (fun w E' B'=>∃(bx:Ao) (bz:Nat) (bA:Ao) (bB:Nat),w= .tuple #[iV r.1,sV bx r.2.1 bz]∧B'= [(bk,.cells #[sV bA r.2.2.1 bB,iV r.2.2.2.1,.int .u64 ((r.2.2.2.2:Nat):Int)] 92 (0,0))]∧Al rI E' bx bz r.2.1∧Al rI E' bA bB r.2.2.1):=by
 refine A4 func45 fun Q c6 cs H bN bO=>?_;unfold f45 at bw;refine zg 2 rfl (Cb bN fun bh c7 ap bC bP=>?_);obtain⟨av,bQ,bR⟩:=bs bw;refine zg 6 rfl (B6 0 (HR (bM.Ah ap) bQ) rfl rfl HE bP rfl ?_);rintro _ bi _ Y ⟨bS,bT,rfl,rfl,bU⟩ bV;obtain⟨Z,bW,bY⟩:=bs bR;refine zg 8 rfl (Bt (fun L s=>∃(U:LH) (a0:Ao) (a1:Nat),Jn bi H U [bX bk #[sV a0 Z.2.1 a1,iV Z.2.2.1,.int .u64 ((Z.2.2.2:Nat):Int)] 92] [(0,pV bk 0),(2,iV p2),(4,pV bh 0),(8,iV av.1),(9,iV Z.1)] L s (Al rI U a0 a1 Z.2.1)) ?_ ?_)
 ·rintro _ _ ⟨U,a0,a1,rfl,rfl,bj,bZ,b0⟩;obtain⟨V,b1,b2⟩:=bs bY;refine zg 9 rfl (Bt (fun L s=>∃(a2:LH) (a3:Ao) (a4:Nat) (bl:Seg) (a5:Ao) (a6:Nat),Jn U H a2 [bX bk #[sV a5 V.2.1 a6,iV V.2.2.1,.int .u64 ((V.2.2.2:Nat):Int)] 92,bl] [(8,iV av.1),(11,sV a3 V.1 a4)] L s (OL 3 rI a2 a3 a4 bl V.1∧Al rI a2 a5 a6 V.2.1)) ?_ ?_)
  ·rintro _ _ ⟨a2,a3,a4,bl,a5,a6,rfl,rfl,b3,b4,b5,b6⟩;refine zg 7 rfl (BT 1 b5 b4 rfl fun c8 bD b7 b8=>?_);obtain rfl:=oi b2;exact AD func45 rfl rfl (bO ((((ap.Ab Y).Ab bj).Ab b3).Ab bD) rfl ⟨a3,a4,a5,a6,rfl,rfl,b7,(b6.Ah bD)⟩ b8)
  ·intro b9;refine JL.block (CN b1 (fun L s K=>∃(ag:LH) (a7:Ao) (a8:Nat) (al:Ao) (am:Nat) (a9:Seg),Jn U H ag [bX bk #[sV a7 K.1 a8,iV K.2.1,.int .u64 ((K.2.2.1:Nat):Int)] 92,a9] [(0,pV bk 0),(2,iV p2),(4,pV bh 0),(8,iV av.1),(9,iV K.2.2.2.1),(11,sV al K.2.2.2.2.1 am),(12,iV K.2.2.2.2.2)] L s (Al rI ag a7 a8 K.1∧OL 3 rI ag al am a9 K.2.2.2.2.1)) ⟨U,a0,a1,none,0,[],rfl,rfl,Ar,bZ,b0,OL.nil⟩ ?_);rintro _ _ K ⟨ag,a7,a8,al,am,a9,rfl,rfl,ba,bE,bF,bG⟩ ca ⟨c9,bm⟩ cb;have bH:=bm;unfold Nh at bH;refine zg 7 rfl (AL bH (fun cc cd=>?_) (fun cc ce=>?_))
   ·obtain⟨cf,cg,ci⟩:=bs cd;refine zg 7 rfl (JS.app (pp:=rI) (v:=iV K.2.2.2.1) (a:=al) (c:=am) 1 cg rfl rfl rfl rfl (fun _=>rfl) rfl (fun _=>rfl) rfl rfl rfl underlying28 underlying28 underlying28 AX (Cx type3) CS rfl (by decide) (by decide) (by decide) (by decide) bG rfl bE rfl fun da ck cm cn co cp=>?_);refine zg 4 rfl (JL.fl 0 (bC.Ah ((Y.Ab bj).Ab ba)) underlying24 BR Cs ?_);obtain⟨db,cq,cr⟩:=bs ci;refine zg 1 rfl (Cf (bv.Ah (((ap.Ab Y).Ab bj).Ab ba)) cq underlying22 BZ ?_);rintro dc dd _ ⟨de,df,rfl,ct⟩ cu;refine B8 0 cu CZ rfl rfl rfl ?_;obtain⟨bb,cv,cw⟩:=bs cr;refine B6 0 (Nv bF ct cv) rfl rfl LY cp rfl ?_;rintro _ cy _ bI ⟨cz,cA,rfl,rfl,cB⟩ cC;obtain⟨cD,cE,cF⟩:=bs cw;refine zg 5 rfl (Bb cE rfl rfl rfl ?_);refine zg 2 rfl ?_;obtain rfl:=oi cF;exact Az (cb _ _ (bb.2.1,bb.2.2.1,bb.2.2.2,bb.1,cf,cD) ⟨cy,cz,cA,ck,cm,cn,rfl,rfl,(ba.Ab bI),cC,cB,(co.Ah bI)⟩ bm) rfl
   ·refine JL.exit rfl ?_;obtain rfl:=oi ce;obtain rfl:=ca _ bm;exact Az (b9 _ _ ⟨ag,al,am,a9,a7,a8,rfl,rfl,ba,bE,bG,bF⟩) rfl
 ·intro cG;refine JL.block (CN bW (fun L s O=>∃(bc:LH) (bd:Ao) (be:Nat),Jn bi H bc [bX bk #[sV bd O.1 be,iV O.2.1,.int .u64 ((O.2.2.1:Nat):Int)] 92] [(0,pV bk 0),(2,iV p2),(4,pV bh 0),(8,iV av.1),(9,iV O.2.2.2.1),(10,iV O.2.2.2.2)] L s (Al rI bc bd be O.1)) ⟨bi,bS,bT,rfl,rfl,Ar,bV,bU⟩ ?_);rintro _ _ O ⟨bc,bd,be,rfl,rfl,bf,bJ,bK⟩ cH ⟨dg,bn⟩ cI;have bL:=bn;unfold M4 at bL;refine zg 7 rfl (AL bL (fun cJ cK=>?_) (fun cJ cM=>?_))
  ·refine zg 5 rfl (JL.fl 0 (bC.Ah (Y.Ab bf)) underlying24 BR Cs ?_);obtain⟨dh,cN,cO⟩:=bs cK;refine zg 1 rfl (Cf (bv.Ah ((ap.Ab Y).Ab bf)) cN underlying22 BZ ?_);rintro di dj _ ⟨dk,dl,rfl,cP⟩ cQ;refine B8 0 cQ CZ rfl rfl rfl ?_;obtain⟨bg,cR,cT⟩:=bs cO;refine B6 0 (Nv bK cP cR) rfl rfl LY bJ rfl ?_;rintro _ cV _ cW ⟨cX,cY,rfl,rfl,cZ⟩ c0;obtain⟨c1,c3,c4⟩:=bs cT;refine zg 5 rfl (Bb c3 rfl rfl rfl ?_);refine zg 2 rfl ?_;obtain rfl:=oi c4;exact Az (cI _ _ (bg.2.1,bg.2.2.1,bg.2.2.2,bg.1,c1) ⟨cV,cX,cY,rfl,rfl,(bf.Ab cW),c0,cZ⟩ bn) rfl
  ·refine JL.exit rfl ?_;obtain rfl:=oi cM;obtain rfl:=cH _ bn;exact Az (cG _ _ ⟨bc,bd,be,rfl,rfl,bf,bJ,bK⟩) rfl
def O1(fuel:Nat)(p1:Bc)(p2:List Int)(p4:Bool)(K:(List Int)×Int×Nat×(AI)×Int×Int):Option (Bh ((List Int)×Int×Nat×(AI)×Int×Int) ((AI)×BY)):= if 0<K.2.2.2.2.2 then((As ((p2.length:Int) - 1)).bind fun ag=> (As (K.2.2.2.2.1+2)).bind fun al=> (f96 fuel (K.1,K.2.1,K.2.2.1) K.2.2.2.2.1 (min ag al)).bind fun O=> (ix p2 O.1).bind fun am=> (ix p2 O.1).bind fun ap=> (ix p1.2 ap).bind fun Z=> Option.bind (if p4=true then(some (decide (0<(Z.length:Int)))) else(some false)) fun av=> Option.bind (if av=true then((f97 fuel O.2 2).bind fun a0=> some a0) else(some (false,O.2.1,O.2.2.1,O.2.2.2))) fun U=> Option.bind (if U.1=true then((f99 fuel U.2 Z).bind fun V=> some (V.2.1,V.2.2.1,V.2.2.2,V.1)) else(some (U.2.1,U.2.2.1,U.2.2.2,am))) fun Y=> (room K.2.2.2.1 (O.1,Y.2.2.2)).bind fun a1=> (As (K.2.2.2.2.2 - 1)).bind fun a2=> some (.more (Y.1,Y.2.1,Y.2.2.1,a1,O.1,a2))) else(some (.done (K.2.2.2.1,K.1,K.2.1,K.2.2.1)))
def f46(fuel:Nat)(p0:BY)(p1:Bc)(p2:List Int)(p3:Int)(p4:Bool):Option ((AI)×(BY)):= (f41 fuel p0 p3).bind fun K=> Option.bind (iter (O1 fuel p1 p2 p4) fuel (K.2.1,K.2.2.1,K.2.2.2,[],0,K.1)) fun O=> some O
theorem aP{bk:Nat}{bq:Ao}{c2:Nat}{br:Ao}{bu:Nat}{bv:Ao}{bw:Nat}{ag:Ao}{al:Nat}{p0:BY}{p1:Bc}{p2:List Int}{p3:Int}{p4:Bool}(bZ:Al rI E bq c2 p0.1)(dC:Al (rL rI) E br bu p1.1)(b0:Al (rL rI) E bv bw p1.2)(bx:Al rI E ag al p2){fuel:Nat}{r:(AI)×(BY)}(bz:f46 fuel p0 p1 p2 p3 p4=some r):AK J 46 [pV bk 0,.agg #[sV br p1.1 bu,sV bv p1.2 bw],sV ag p2 al,iV p3,.bool p4] E [(bk,.cells #[sV bq p0.1 c2,iV p0.2.1,.int .u64 ((p0.2.2:Nat):Int)] 92 (0,0))] (fun w E' B'=>∃(bA:Ao) (bB:Nat) (g0:Seg) (bC:Ao) (bD:Nat),w= sV bA r.1 bB∧B'= [(bk,.cells #[sV bC r.2.1 bD,iV r.2.2.1,.int .u64 ((r.2.2.2:Nat):Int)] 92 (0,0))]++g0∧OL 27 A9 E' bA bB g0 r.1∧Al rI E' bC bD r.2.1):=by
 refine A4 func46 fun Q dD cs H b1 b2=>?_;unfold f46 at bz;refine zg 2 rfl (Cb b1 fun a7 dE a1 b3 b4=>?_);obtain⟨dF,b5,b6⟩:=bs bz;refine zg 15 rfl (B6 0 (HR (bZ.Ah a1) b5) rfl rfl HE b4 rfl ?_);rintro _ bm _ a2 ⟨b7,b8,rfl,rfl,b9⟩ ca;obtain⟨am,cb,cc⟩:=bs b6;refine zg 2 rfl (Bt (fun L s=>∃(a8:LH) (a9:Ao) (ba:Nat) (bb:Seg) (bc:Ao) (bd:Nat),Jn bm H a8 [bX bk #[sV bc am.2.1 bd,iV am.2.2.1,.int .u64 ((am.2.2.2:Nat):Int)] 92,bb] [(11,sV a9 am.1 ba)] L s (OL 27 A9 a8 a9 ba bb am.1∧Al rI a8 bc bd am.2.1)) ?_ ?_)
 ·rintro _ _ ⟨a8,a9,ba,bb,bc,bd,rfl,rfl,cd,ce,cf,cg⟩;refine zg 5 rfl ?_;obtain rfl:=oi cc;exact AD func46 rfl rfl (b2 ((a1.Ab a2).Ab cd) rfl ⟨a9,ba,bb,bc,bd,rfl,(by first | rfl | simp | (simp [Value.cells])),cf,cg⟩ ce)
 ·intro ci;refine JL.block (CN cb (fun L s K=>∃(a3:LH) (be:Ao) (bf:Nat) (V:Ao) (Y:Nat) (Z:Seg),Jn bm H a3 [bX bk #[sV be K.1 bf,iV K.2.1,.int .u64 ((K.2.2.1:Nat):Int)] 92,Z] [(0,pV bk 0),(2,sV ag p2 al),(4,.bool p4),(6,pV a7 0),(11,sV V K.2.2.2.1 Y),(12,iV K.2.2.2.2.1),(13,iV K.2.2.2.2.2)] L s (Al rI a3 be bf K.1∧OL 27 A9 a3 V Y Z K.2.2.2.1)) ⟨bm,b7,b8,none,0,[],rfl,rfl,Ar,ca,b9,OL.nil⟩ ?_);rintro _ _ K ⟨a3,be,bf,V,Y,Z,rfl,rfl,ap,bE,bF,bG⟩ ck ⟨dG,bn⟩ cm;have bH:=bn;unfold O1 at bH;refine zg 6 rfl (AL bH (fun cn co=>?_) (fun cn cp=>?_))
  ·refine zg 8 rfl (Bj underlying28 rfl rfl rfl ?_);obtain⟨cq,cr,ct⟩:=bs co;refine Cg cr rfl rfl rfl ?_;obtain⟨cu,cv,cw⟩:=bs ct;refine zg 1 rfl (Bb cv rfl rfl rfl ?_);refine AF (v:=iV (min cq cu)) rfl (fun ρ h=>Yl.min2 (h _ _ rfl) (h _ _ rfl)) ?_;obtain⟨O,cy,cz⟩:=bs cw;refine B6 0 (Pa bF cy) rfl rfl N1 bE rfl ?_;rintro _ dH _ av ⟨bI,bJ,rfl,rfl,bK⟩ cA;obtain⟨bo,cB,cC⟩:=bs cz;refine zg 7 rfl (Cf (bx.Ah (((a1.Ab a2).Ab ap).Ab av)) cB underlying28 AX ?_);rintro dI dJ _ rfl cD;refine B8 0 cD Bx rfl rfl rfl (AF (v:= .agg #[iV O.1,iV bo]) rfl (fun ρ h=>Dk [(0,1),(1,1)] h C8 underlying27 ⟨rfl,Bw type3,rfl,Bw type3,trivial⟩ rfl rfl) ?_);refine CO cA C8 fun a0 cE=>?_;refine BU 2 cE BD fun bL=>?_;refine zg 3 rfl (CW 6 fun ht=>?_);refine B7 0 ht underlying24 BR rfl rfl rfl rfl (Cn 1 ht 1 (b3.Ah ((a2.Ab ap).Ab av)) Cs rfl rfl rfl rfl ?_);refine AW ht rfl [2,3] rfl ?_;obtain⟨dK,cF,cG⟩:=bs cC;refine Cy 4 (bx.Ah (((a1.Ab a2).Ab ap).Ab av)) cF ht underlying28 AX ?_;rintro dL dM _ rfl cH;refine Cn 5 ht 0 cH Bx rfl rfl rfl rfl (Cc [6,7,8] ?_);obtain⟨bM,cI,cJ⟩:=bs cG;refine Cf (b0.Ah (((a1.Ab a2).Ab ap).Ab av)) cI underlying22 BZ ?_;rintro dN dO _ ⟨bN,bO,rfl,cK⟩ cM;refine B8 0 cM CZ rfl rfl rfl ?_;obtain⟨cN,cO,cP⟩:=bs cJ;refine zg 6 rfl (Dm 6 4 [bX bk #[sV bI O.2.1 bJ,iV O.2.2.1,.int .u64 ((O.2.2.2:Nat):Int)] 92,Z,bX a0 #[iV O.1,iV bo] 27] [(0,pV bk 0),(2,sV ag p2 al),(4,.bool p4),(6,pV a7 0),(11,sV V K.2.2.2.1 Y),(12,iV O.1),(13,iV K.2.2.2.2.2),(14,pV a0 0),(15,sV bN bM bO),(51,.bool cN)] (fun bP a4 bQ=>?_) (fun bR=>?_))
   ·obtain⟨a5,cQ,cR⟩:=bs cP;refine zg 1 rfl (ER [] (fun L s=>∃(a6:LH) (bg:Ao) (bh:Nat),Jn bP H a6 [bX bk #[sV bg a5.2.1 bh,iV a5.2.2.1,.int .u64 ((a5.2.2.2:Nat):Int)] 92,Z,bX a0 #[iV O.1,iV bo] 27] [(0,pV bk 0),(2,sV ag p2 al),(4,.bool p4),(6,pV a7 0),(11,sV V K.2.2.2.1 Y),(12,iV O.1),(13,iV K.2.2.2.2.2),(14,pV a0 0),(15,sV bN bM bO),(55,.bool a5.1)] L s (Al rI a6 bg bh a5.2.1)) ?_ ?_)
    ·rintro _ _ ⟨a6,bg,bh,rfl,rfl,bp,bS,bT⟩;obtain⟨U,cT,cV⟩:=bs cR;refine JL.done (Bt (fun L s=>∃(bi:LH) (bj:Ao) (bl:Nat),Jn a6 H bi [bX bk #[sV bj U.1 bl,iV U.2.1,.int .u64 ((U.2.2.1:Nat):Int)] 92,Z,bX a0 #[iV O.1,iV U.2.2.2] 27] [(0,pV bk 0),(2,sV ag p2 al),(4,.bool p4),(6,pV a7 0),(11,sV V K.2.2.2.1 Y),(12,iV O.1),(13,iV K.2.2.2.2.2),(14,pV a0 0)] L s (Al rI bi bj bl U.1)) ?_ ?_)
     ·rintro _ _ ⟨bi,bj,bl,rfl,rfl,bU,bV,cW⟩;refine zg 2 rfl (AF rfl (fun ρ h=>FY (vs:= [iV O.1,iV U.2.2.2]) FI BD (h _ _ rfl) (FW (off:=0) 2 bV rfl rfl)) ?_);obtain⟨cX,cY,cZ⟩:=bs cV;refine JS.app (pp:=A9) (v:= .agg #[iV O.1,iV U.2.2.2]) (a:=V) (c:=Y) 1 cY rfl rfl rfl rfl (fun _=>rfl) rfl (fun _=>rfl) rfl rfl rfl underlying25 underlying25 underlying25 BD (Cx type27) C8 rfl (by decide) (by decide) (by decide) (by decide) (bG.Ah (((av.Ab a4).Ab bp).Ab bU)) ⟨_,_,rfl,rfl,rfl⟩ bV rfl fun dP c0 c1 c3 c4 c5=>?_;obtain⟨c6,c7,c8⟩:=bs cZ;refine zg 5 rfl (Cg c7 rfl rfl rfl ?_);refine zg 2 rfl (JS.drop 2 c5 rfl fun c9=>?_);obtain rfl:=oi c8;exact Az (cm _ _ (U.1,U.2.1,U.2.2.1,cX,O.1,c6) ⟨bi,bj,bl,c0,c1,c3,rfl,rfl,((((ap.Ab av).Ab a4).Ab bp).Ab bU),c9,cW,c4⟩ bn) rfl
     ·intro bW;refine BJ cT (fun da db=>?_) (fun da dc=>?_)
      ·obtain⟨dQ,dd,de⟩:=bs db;refine zg 3 rfl (B6 0 (Nv bT (cK.Ah (a4.Ab bp)) dd) rfl rfl LY bS rfl ?_);rintro _ df _ dg ⟨dh,di,rfl,rfl,dj⟩ dk;refine BM underlying27 AX rfl rfl rfl (BU 2 dk AX fun dl=>?_);refine JL.done ?_;obtain rfl:=oi de;exact Az (bW _ _ ⟨df,dh,di,rfl,rfl,dg,dl,dj⟩) rfl
      ·refine JL.skip ?_;obtain rfl:=oi dc;exact Az (bW _ _ ⟨a6,bg,bh,rfl,rfl,Ar,bS,bT⟩) rfl
    ·intro bY;refine DU 52 cQ (fun dm dn=>?_) (fun dm dp=>?_)
     ·obtain⟨dR,dq,dr⟩:=bs dn;refine zg 1 rfl (B6 0 (Lq (bK.Ah a4) dq) rfl rfl Kk bQ rfl ?_);rintro _ dt _ du ⟨dv,dw,rfl,rfl,dx⟩ dy;refine zg 1 rfl ?_;obtain rfl:=oi dr;exact Az (bY _ _ ⟨dt,dv,dw,rfl,rfl,du,dy,dx⟩) rfl
     ·refine zg 3 rfl ?_;obtain rfl:=oi dp;exact Az (bY _ _ ⟨bP,bI,bJ,rfl,rfl,Ar,bQ,(bK.Ah a4)⟩) rfl
   ·refine DU 47 cO (fun dz dA=>?_) (fun dz dB=>?_)
    ·refine zg 1 rfl (Bj underlying28 rfl rfl rfl ?_);refine zg 2 rfl ?_;obtain rfl:=oi dA;exact bR Ar bL rfl
    ·refine zg 4 rfl ?_;obtain rfl:=oi dB;exact bR Ar bL rfl
  ·refine JL.exit rfl ?_;obtain rfl:=oi cp;obtain rfl:=ck _ bn;exact Az (ci _ _ ⟨a3,V,Y,Z,be,bf,rfl,rfl,ap,bE,bG,bF⟩) rfl
def Nn(fuel:Nat)(p1:Bc)(K:(List Int)×Int×Nat×(AI)×Int):Option (Bh ((List Int)×Int×Nat×(AI)×Int) ((AI)×BY)):= if K.2.2.2.2<(K.2.2.2.1.length:Int) then((f97 fuel (K.1,K.2.1,K.2.2.1) 6).bind fun O=> Option.bind (if O.1=true then((As ((p1.1.length:Int) - 1)).bind fun Y=> (f41 fuel O.2 Y).bind fun U=> (ix K.2.2.2.1 K.2.2.2.2).bind fun Z=> some ((K.2.2.2.1.set (Int.toNat K.2.2.2.2) (Z.1,U.1)),U.2.1,U.2.2.1,U.2.2.2)) else(some (K.2.2.2.1,O.2.1,O.2.2.1,O.2.2.2))) fun V=> (As (K.2.2.2.2+1)).bind fun ag=> some (.more (V.2.1,V.2.2.1,V.2.2.2,V.1,ag))) else(some (.done (K.2.2.2.1,K.1,K.2.1,K.2.2.1)))
def f40(fuel:Nat)(p0:BY)(p1:Bc)(p2:Int):Option ((AI)×(BY)):= (f45 fuel p0 p1 5).bind fun O=> (f46 fuel O.2.2 p1 O.2.1 p2 true).bind fun K=> Option.bind (iter (Nn fuel p1) fuel (K.2.1,K.2.2.1,K.2.2.2,K.1,0)) fun U=> some U
theorem aH{bk:Nat}{br:Ao}{c2:Nat}{bg:Ao}{bh:Nat}{bu:Ao}{bv:Nat}{p0:BY}{p1:Bc}{p2:Int}(bQ:Al rI E br c2 p0.1)(bw:Al (rL rI) E bg bh p1.1)(bx:Al (rL rI) E bu bv p1.2){fuel:Nat}{r:(AI)×(BY)}(bz:f40 fuel p0 p1 p2=some r):AK J 40 [pV bk 0,.agg #[sV bg p1.1 bh,sV bu p1.2 bv],iV p2] E [(bk,.cells #[sV br p0.1 c2,iV p0.2.1,.int .u64 ((p0.2.2:Nat):Int)] 92 (0,0))] (fun w E' B'=>∃(bA:Ao) (bB:Nat) (bC:Ao) (bD:Nat),w= sV bA r.1 bB∧B'= [(bk,.cells #[sV bC r.2.1 bD,iV r.2.2.1,.int .u64 ((r.2.2.2:Nat):Int)] 92 (0,0))]∧Al A9 E' bA bB r.1∧Al rI E' bC bD r.2.1):=by
 refine A4 func40 fun Q c5 cs H bR bS=>?_;unfold f40 at bz;refine zg 2 rfl (Cb bR fun a1 c6 ag bi bT=>?_);refine zg 5 rfl (BW bi Ca BI rfl rfl ?_);obtain⟨c7,bU,bV⟩:=bs bz;refine B6 0 (aK (bQ.Ah ag) (bw.Ah ag) (bx.Ah ag) bU) rfl rfl (AS func45 rfl) bT rfl ?_;rintro _ c8 _ am ⟨c9,da,db,dc,rfl,rfl,bW,bY⟩ bZ;refine zg 9 rfl (BW (bi.Ah am) Ca BI rfl rfl ?_);obtain⟨dd,b0,b1⟩:=bs bV;refine zg 2 rfl (B6 0 (aP bY (bw.Ah (ag.Ab am)) (bx.Ah (ag.Ab am)) bW b0) rfl rfl (AS func46 rfl) bZ rfl ?_);rintro _ bj _ bE ⟨b2,b3,b4,b5,b6,rfl,rfl,b7,b8⟩ b9;refine Eo 0 rfl b9 fun ca=>?_;obtain⟨al,cb,cc⟩:=bs b1;refine zg 7 rfl (Bt (fun L s=>∃(a2:LH) (a3:Ao) (a4:Nat) (bl:Seg) (a5:Ao) (a6:Nat),Jn bj H a2 [bX bk #[sV a5 al.2.1 a6,iV al.2.2.1,.int .u64 ((al.2.2.2:Nat):Int)] 92,bl] [(9,sV a3 al.1 a4)] L s (OL 27 A9 a2 a3 a4 bl al.1∧Al rI a2 a5 a6 al.2.1)) ?_ ?_)
 ·rintro _ _ ⟨a2,a3,a4,bl,a5,a6,rfl,rfl,cd,ce,cf,cg⟩;refine zg 5 rfl (BT 1 cf ce rfl fun de bF ci ck=>?_);obtain rfl:=oi cc;exact AD func40 rfl rfl (bS ((((ag.Ab am).Ab bE).Ab cd).Ab bF) rfl ⟨a3,a4,a5,a6,rfl,rfl,ci,(cg.Ah bF)⟩ ck)
 ·intro cm;refine JL.block (CN cb (fun L s K=>∃(ap:LH) (a7:Ao) (a8:Nat) (Y:Ao) (Z:Nat) (av:Seg),Jn bj H ap [bX bk #[sV a7 K.1 a8,iV K.2.1,.int .u64 ((K.2.2.1:Nat):Int)] 92,av] [(0,pV bk 0),(4,pV a1 0),(9,sV Y K.2.2.2.1 Z),(10,iV K.2.2.2.2)] L s (Al rI ap a7 a8 K.1∧OL 27 A9 ap Y Z av K.2.2.2.1)) ⟨bj,b5,b6,b2,b3,b4,rfl,rfl,Ar,ca,b8,b7⟩ ?_);rintro _ _ K ⟨ap,a7,a8,Y,Z,av,rfl,rfl,bm,bG,bH,bn⟩ cn ⟨df,bo⟩ co;have bI:=bo;unfold Nn at bI;refine zg 5 rfl (Bj underlying25 rfl rfl rfl ?_);refine zg 2 rfl (AL bI (fun cp cq=>?_) (fun cp cr=>?_))
  ·obtain⟨ct,cu,cv⟩:=bs cq;refine zg 6 rfl (B6 0 (Lq bH cu) rfl rfl Kk bG rfl ?_);rintro _ bJ _ a9 ⟨cw,cy,rfl,rfl,bK⟩ bL;obtain⟨O,cz,cA⟩:=bs cv;refine JL.done (Bt (fun L s=>∃(a0:LH) (ba:Ao) (bb:Nat) (bc:Seg) (bd:Ao) (be:Nat),Jn bJ H a0 [bX bk #[sV bd O.2.1 be,iV O.2.2.1,.int .u64 ((O.2.2.2:Nat):Int)] 92,bc] [(0,pV bk 0),(4,pV a1 0),(9,sV ba O.1 bb),(10,iV K.2.2.2.2)] L s (OL 27 A9 a0 ba bb bc O.1∧Al rI a0 bd be O.2.1)) ?_ ?_)
   ·rintro _ _ ⟨a0,ba,bb,bc,bd,be,rfl,rfl,cB,cC,cD,cE⟩;obtain⟨cF,cG,cH⟩:=bs cA;refine zg 3 rfl (Bb cG rfl rfl rfl ?_);refine zg 2 rfl ?_;obtain rfl:=oi cH;exact Az (co _ _ (O.2.1,O.2.2.1,O.2.2.2,O.1,cF) ⟨a0,bd,be,ba,bb,bc,rfl,rfl,((bm.Ab a9).Ab cB),cC,cE,cD⟩ bo) rfl
   ·intro bM;refine BJ cz (fun cI cJ=>?_) (fun cI cK=>?_)
    ·refine zg 4 rfl (JL.fl 0 (bi.Ah (((am.Ab bE).Ab bm).Ab a9)) underlying24 BR Cs ?_);refine Bj underlying22 rfl rfl rfl ?_;obtain⟨cM,cN,cO⟩:=bs cJ;refine Cg cN rfl rfl rfl ?_;obtain⟨U,cP,cQ⟩:=bs cO;refine B6 0 (HR bK cP) rfl rfl HE bL rfl ?_;rintro _ cR _ bN ⟨cT,cV,rfl,rfl,cW⟩ cX;obtain⟨V,cY,cZ⟩:=bs cQ;refine I0 1 (bn.Ah (a9.Ab bN)) cY rfl rfl rfl rfl rfl rfl underlying25 BD ?_;rintro bp bf f138 _ c0 ⟨_,_,rfl,rfl,rfl⟩ c1 bO c3 dg dh;refine BM underlying27 AX rfl rfl rfl (JS.store (v:=iV U.1) (off:=bf+1) 1 rfl rfl rfl cX rfl rfl AX (by simp [Value.cells,CP]) c0 (by have:=bO;simp only [Rp.n,rK,rN,rB,rP,rL] at this;show _+1≤_;omega) fun bP=>?_);rw [UE (m:=1) (ws:= [iV V.1,iV V.2]) (vs:= [iV V.1,iV U.1]) (by have:=bO;simp only [Rp.n,rK,rN,rB,rP,rL] at this;show _+2≤_;omega) c1 rfl (Nat.le_of_ble_eq_true rfl)] at bP ⊢;have c4:=c3 ((V.1,U.1)) [iV V.1,iV U.1] ⟨_,_,rfl,rfl,rfl⟩;have bq:(K.2.2.2.1.set (Int.toNat K.2.2.2.2) (V.1,U.1)).length=K.2.2.2.1.length:=List.length_set;refine Gf (L':= [(0,pV bk 0),(4,pV a1 0),(9,.slice Y ((K.2.2.2.1.set (Int.toNat K.2.2.2.2) (V.1,U.1))).length Z),(10,iV K.2.2.2.2),(22,iV K.2.2.2.2),(23,.slice Y ((K.2.2.2.1.set (Int.toNat K.2.2.2.2) (V.1,U.1))).length Z),(24,iV (K.2.2.2.1.length:Int)),(25,.bool (decide (K.2.2.2.2<(K.2.2.2.1.length:Int)))),(28,pV bk 0),(29,.bool ct.1),(30,.slice Y ((K.2.2.2.1.set (Int.toNat K.2.2.2.2) (V.1,U.1))).length Z),(31,iV K.2.2.2.2),(32,pV bk 0),(33,pV a1 0),(34,.slice bg p1.1.length bh),(35,iV (p1.1.length:Int)),(36,iV cM),(37,iV U.1),(38,pV bp bf),(39,pV bp (bf+1))]) ⟨rfl,rfl,by rw [bq];rfl,rfl,rfl,by rw [bq];rfl,rfl,rfl,rfl,rfl,by rw [bq];rfl,rfl,rfl,rfl,rfl,rfl,rfl,rfl,rfl,rfl,trivial⟩ ?_;refine JL.done ?_;obtain rfl:=oi cZ;exact Az (bM _ _ ⟨cR,Y,Z,[(bp,.cells (A0 f138 bf [iV V.1,iV U.1]) 27 (0,0))],cT,cV,rfl,rfl,bN,bP,c4,cW⟩) rfl
    ·refine JL.skip ?_;obtain rfl:=oi cK;exact Az (bM _ _ ⟨bJ,Y,Z,av,cw,cy,rfl,rfl,Ar,bL,(bn.Ah a9),bK⟩) rfl
  ·refine JL.exit rfl ?_;obtain rfl:=oi cr;obtain rfl:=cn _ bo;exact Az (cm _ _ ⟨ap,Y,Z,av,a7,a8,rfl,rfl,bm,bG,bn,bH⟩) rfl
def f24(fuel:Nat)(p0:Bc)(p1:BY):Option ((List Bc)×(BY)):= (f39 fuel p1 7).bind fun K=> some (([p0,K.1,K.1]:List Bc),K.2)
theorem aN{Y:Ao}{c2:Nat}{Z:Ao}{ag:Nat}{bk:Nat}{ap:Ao}{av:Nat}{p0:Bc}{p1:BY}(bd:Al (rL rI) E Y c2 p0.1)(be:Al (rL rI) E Z ag p0.2)(bf:Al rI E ap av p1.1){fuel:Nat}{r:(List Bc)×(BY)}(a0:f24 fuel p0 p1=some r):AK J 24 [.agg #[sV Y p0.1 c2,sV Z p0.2 ag],pV bk 0] E [(bk,.cells #[sV ap p1.1 av,iV p1.2.1,.int .u64 ((p1.2.2:Nat):Int)] 92 (0,0))] (fun w E' B'=>∃(a1:Ao) (a2:Nat) (a3:Ao) (a4:Nat),w= sV a1 r.1 a2∧B'= [(bk,.cells #[sV a3 r.2.1 a4,iV r.2.2.1,.int .u64 ((r.2.2.2:Nat):Int)] 92 (0,0))]∧Al (rP (rL (rL rI)) (rL (rL rI))) E' a1 a2 r.1∧Al rI E' a3 a4 r.2.1):=by
 refine A4 func24 fun Q bD cs H bg bh=>?_;unfold f24 at a0;refine zg 2 rfl (Cb bg fun bE bF U bi bj=>?_);obtain⟨K,bl,bm⟩:=bs a0;refine zg 5 rfl (B6 0 (aC (bf.Ah U) bl) rfl rfl (AS func39 rfl) bj rfl ?_);rintro _ bG _ V ⟨a5,a6,a7,a8,al,am,rfl,rfl,a9,ba,bn⟩ bo;refine CO bo Gs fun bp bq=>?_;refine Cr (S':= [[(bk,.cells #[sV al K.2.1 am,iV K.2.2.1,.int .u64 ((K.2.2.2:Nat):Int)] 92 (0,0))],[],[(bp,.cells #[nS,nS] 24 (0,0))]]) rfl bq fun br=>BU 2 br BI fun bu=>?_;refine C6 2 bu rfl fun bH O bb bv=>zg 3 rfl (BW (bi.Ah (V.Ab O)) Ca BI rfl rfl ?_);refine BW bb Ca BI rfl rfl (BW bb Ca BI rfl rfl ?_);refine DC (pp:=(rP (rL (rL rI)) (rL (rL rI)))) [.agg #[sV Y p0.1 c2,sV Z p0.2 ag],.agg #[sV a5 K.1.1 a6,sV a7 K.1.2 a8],.agg #[sV a5 K.1.1 a6,sV a7 K.1.2 a8]] [p0,K.1,K.1] rfl rfl rfl underlying33 BI Gs (by decide) rfl rfl rfl ⟨⟨_,_,rfl,⟨_,_,rfl,(bd.Ah ((U.Ab V).Ab O))⟩,⟨_,_,rfl,(be.Ah ((U.Ab V).Ab O))⟩⟩,⟨_,_,rfl,⟨_,_,rfl,(a9.Ah O)⟩,⟨_,_,rfl,(ba.Ah O)⟩⟩,⟨_,_,rfl,⟨_,_,rfl,(a9.Ah O)⟩,⟨_,_,rfl,(ba.Ah O)⟩⟩,trivial⟩ bv fun bw bI bx bz=>zg 2 rfl (BT 3 bx bz rfl fun bJ bc bA bB=>?_);refine Cr (S':= [[(bk,.cells #[sV al K.2.1 am,iV K.2.2.1,.int .u64 ((K.2.2.2:Nat):Int)] 92 (0,0))],[],[],[]]) rfl bB fun bC=>?_;obtain rfl:=oi bm;exact AD func24 rfl rfl (bh (((U.Ab V).Ab O).Ab bc) rfl ⟨(AZ bw),3,al,am,rfl,rfl,bA,(bn.Ah (O.Ab bc))⟩ bC)
end Pal
namespace Pal
theorem Cl{S A:Type}{body:S→Option (Bh S A)}{Q:A→Prop}{K:S}{F:Nat}(n:Nat)(I:Nat→S→Prop)(V:I 0 K)(Z:n<F)
  (round:∀i s,i<n→I i s→A1 (body s) (Bh.sat (I (i+1)) Q)) (last:∀s,I n s→A1 (body s) (fun st=>∃a,st= .done a∧Q a)):A1 (Pal.iter body F K) Q:=by
 refine KB (fun m s=>∃i,i≤n∧m=n - i∧I i s) ?_ (m:=n - 0) ⟨0,Nat.zero_le _,rfl,V⟩ (by omega);rintro m s ⟨i,hi,rfl,O⟩;rcases Nat.lt_or_ge i n with Y | ag
 ·refine(round i s Y O).Ah ?_;intro st U;cases st with
  | more s'=>exact⟨n - (i+1),by omega,i+1,by omega,rfl,U⟩
  | done a=>exact U
 ·obtain rfl:i=n:=by omega
  refine(last s O).Ah ?_;rintro st ⟨a,rfl,h⟩;exact h
theorem C3{α:Type}{o:Option α}{a:α}(h:A1 o (fun x=>x=a)):o=some a:=by obtain⟨x,K,rfl⟩:=h;exact K
theorem Jz(F:Nat)(a lo hi:Int):f101 F a lo hi=some (decide (a<lo∨hi<a)):=by
 unfold f101;by_cases h:a<lo
 ·simp [h]
 ·simp [h]
theorem XG(F:Nat){s n:Nat}(hs:s<65536)(V:n≤16):f103 F s (n:Int)=some (s.testBit n):=by
 unfold f103;have K:LB s (n:Int)=some (s>>>n):=by unfold LB;rw [if_pos (by omega)];rfl
 rw [K];simp only [Option.bind_some];have O:s>>>n<65536:=Nat.lt_of_le_of_lt (Nat.shiftRight_le _ _) hs;have U:J8 (s>>>n) 1=some (s>>>n&&& 1):=if_pos ⟨O,by omega⟩;rw [U];simp only [Option.bind_some];rw [Xc]
theorem S5(F:Nat){s n:Nat}(hs:s<65536)(K:n<16):f90 F s (n:Int)=some (s ||| 1<<<n):=by
 unfold f90;have O:Lh (n:Int)=some (1<<<n):=by unfold Lh;rw [if_pos (by omega)];rfl
 rw [O];simp only [Option.bind_some];have U:1<<<n<65536:=by rw [Nat.one_shiftLeft];exact Nat.pow_lt_pow_right (by omega) (show n<16 from K)
 have V:Jg s (1<<<n)=some (s ||| 1<<<n):=if_pos ⟨hs,U⟩;rw [V];rfl
theorem NA{a b:Nat}(K:a<65536)(hb:b<65536):a ||| b<65536:=Nat.or_lt_two_pow (n:=16) K hb
theorem SD{n:Nat}(K:n<16):1<<<n<65536:=by rw [Nat.one_shiftLeft];exact Nat.pow_lt_pow_right (by omega) (show n<16 from K)
def HA(n:Nat)(l:List Int):Prop:=∀x∈l,0≤x∧x<(n:Int)
def CU(l:List Int):Nat:=l.foldl (fun s x=>s ||| 1<<<x.toNat) 0
theorem Uy(l:List Int)(x:Int):CU (l++ [x])=CU l ||| 1<<<x.toNat:=by simp [CU]
theorem Rg{l:List Int}(h:HA 16 l):CU l<65536:=by
 have key:∀(l:List Int) (s:Nat),s<65536→HA 16 l→l.foldl (fun s x=>s ||| 1<<<x.toNat) s<65536:=by
  intro l
  induction l with
  | nil=>intro s hs _;exact hs
  | cons x l O=>
   intro s hs K;have V:=K x (by simp);exact O _ (NA hs (SD (by omega))) fun y U=>K y (by simp [U])
 exact key l 0 (by omega) h
theorem Ku{l:List Int}(h:∀x∈l,0≤x)(n:Nat):(CU l).testBit n=decide ((n:Int)∈l):=by
 have key:∀(l:List Int) (s:Nat),(∀x∈l,0≤x)→(l.foldl (fun s x=>s ||| 1<<<x.toNat) s).testBit n=(s.testBit n || decide ((n:Int)∈l)):=by
  intro l
  induction l with
  | nil=>intro s _;simp
  | cons x l O=>
   intro s K;have V:=K x (by simp);rw [List.foldl_cons,O _ fun y U=>K y (by simp [U]),Nat.testBit_or];have e:(1<<<x.toNat).testBit n=decide ((n:Int)=x):=by
    rw [Nat.one_shiftLeft,Nat.testBit_two_pow];exact decide_eq_decide.2 ⟨fun h=>by omega,fun h=>by omega⟩
   rw [e,Bool.or_assoc];congr 1;simp
 rw [CU,key l 0 h];simp
theorem RZ{F:Nat}{l:List Int}(V:100<F)(Y:l.length<100)(h:HA 16 l):f120 F l=some (CU l):=by
 refine C3 ?_;unfold f120;refine AB (S:=fun r=>r=CU l) ?_ (by rintro r rfl;exact Ak rfl);refine Cl l.length (fun i s=>s=(CU (l.take i),(i:Int))) (by simp [CU]) (by omega) ?_ ?_
 ·rintro i s hi rfl;unfold MH;refine Bs (by simp;omega) (Bl (m:=i) rfl hi ?_);have Z:=h l[i] (List.getElem_mem hi);have O:l[i]=((l[i].toNat:Nat):Int):=by omega
  have hs:CU (l.take i)<65536:=Rg fun y U=>h y (List.mem_of_mem_take U);have K:=S5 F (n:=l[i].toNat) hs (by omega);rw [← O] at K;refine AM K ?_;refine AT ((i+1:Nat):Int) (by simp) (by omega) (by omega) ?_;refine Ak ?_;show _=_;rw [List.take_add_one,List.getElem?_eq_getElem hi];simp only [Option.toList_some];rw [Uy]
 ·rintro s rfl;unfold MH;exact A7 (by simp) (Ak ⟨_,rfl,by simp⟩)
def CB(s:Nat)(k:Nat):List Int:=((List.range k).filter (fun n=>s.testBit n)).map (fun(n:Nat)=>(n:Int))
theorem N8(s k:Nat):CB s (k+1)=if s.testBit k=true then CB s k++ [(k:Int)] else CB s k:=by
 unfold CB;rw [List.range_succ,List.filter_append];by_cases h:s.testBit k=true
 ·rw [if_pos h];simp [h]
 ·rw [if_neg h];simp [h]
theorem Kn(s k:Nat):(CB s k).length≤k:=by
 unfold CB;rw [List.length_map];exact Nat.le_trans (List.length_filter_le _ _) (by simp)
theorem IK{s k:Nat}{x:Int}:x∈CB s k↔∃n:Nat,n<k∧s.testBit n=true∧x=(n:Int):=by
 unfold CB;simp only [List.mem_map,List.mem_filter,List.mem_range];exact⟨fun⟨n,⟨K,O⟩,U⟩=>⟨n,K,O,U.symm⟩,fun⟨n,K,O,U⟩=>⟨n,⟨K,O⟩,U.symm⟩⟩
theorem O7{F s:Nat}(K:100<F)(hs:s<65536):f89 F s=some (CB s 16):=by
 refine C3 ?_;unfold f89;refine AB (S:=fun r=>r=CB s 16) ?_ (by rintro r rfl;exact Ak rfl);refine Cl 16 (fun i st=>st=(CB s i,(i:Int))) rfl (by omega) ?_ ?_
 ·rintro i st hi rfl;unfold M3;refine Bs (by simp only;omega) (AM (XG F hs (by omega)) ?_);have hlen:=Kn s i;refine AB (S:=fun r=>r=CB s (i+1)) ?_ ?_
  ·rw [N8];refine Bq (fun h=>?_) (fun h=>?_)
   ·rw [if_pos h];exact Kr (by simp only;omega) (Ak rfl)
   ·rw [if_neg h];exact Ak rfl
  ·rintro r rfl;exact AT ((i+1:Nat):Int) (by simp) (by omega) (by omega) (Ak rfl)
 ·rintro st rfl;unfold M3;exact A7 (by simp) (Ak ⟨_,rfl,rfl⟩)
end Pal
namespace Pal
abbrev JW:=List (List Int)×List (List Int)
structure VL (n:Nat) (l:List Int):Prop where
 len:l.length≤3
 inr:HA n l
 Hy:l.Pairwise (·<·)
structure VJ (n:Nat) (J:JW):Prop where
 pos:0<n
 le:n≤8
 l1:J.1.length=n
 l2:J.2.length=n
 nx:∀(i:Nat) l,J.1[i]? =some l→VL n l∧0<l.length
 fl:∀(i:Nat) l,J.2[i]? =some l→VL n l∧(i:Int) ∉ l
theorem ZM{l:List Int}(h:l.Pairwise (·<·)){i:Nat}(hi:i<l.length)(K:0<i):¬(l[i]≤l[i - 1]'(by omega)):=by
 have:=List.pairwise_iff_getElem.1 h (i - 1) i (by omega) hi (by omega);omega
theorem Sb{F n:Nat}{J:JW}{m:Nat}{l:List Int}{b:Bool}(O:100<F)(U:J.1.length=n)(V:0<n∧n≤8)(K:VL n l)(hb:b=true∨(m:Int) ∉ l):f136 F J (m:Int) l b=some none:=by
 refine C3 ?_;unfold f136;have hlen:=K.len;refine AB (S:=fun q=>q=Sum.inr ()) ?_ (by rintro q rfl;exact Ak rfl);refine Cl l.length (fun i s=>s=(i:Int)) rfl (by omega) ?_ ?_
 ·rintro i s hi rfl;unfold JM;have Y:=K.inr l[i] (List.getElem_mem hi);refine Bs (by omega) (Bl (m:=i) rfl hi ?_);refine AT ((n - 1:Nat):Int) (by omega) (by omega) (by omega) (AM (Jz F _ _ _) ?_);refine A7 (by simp;omega) (AB (S:=fun c=>c=false) ?_ ?_)
  ·refine Bq (fun h=>?_) (fun h=>Ak rfl);rcases hb with rfl | hb
   ·exact Ak rfl
   ·exact absurd (h▸List.getElem_mem hi) hb
  ·rintro c rfl;refine A7 (by simp) (AB (S:=fun c=>c=false) ?_ ?_)
   ·refine Bq (fun h=>?_) (fun h=>Ak rfl);refine AT ((i - 1:Nat):Int) (by omega) (by omega) (by omega) (Bl (m:=i - 1) rfl (by omega) ?_);exact Ak (decide_eq_false (ZM K.Hy hi (by omega)))
   ·rintro c rfl;refine A7 (by simp) (AT ((i+1:Nat):Int) (by simp) (by omega) (by omega) ?_);exact Ak rfl
 ·rintro s rfl;unfold JM;exact A7 (by omega) (Ak ⟨_,rfl,rfl⟩)
theorem XO{F n:Nat}{J:JW}(U:100<F)(K:VJ n J):f113 F J=some none:=by
 have V:=K.l1;have al:=K.l2;have Y:=K.pos;have Z:=K.le;refine C3 ?_;unfold f113;refine A7 (by omega) (A7 (by omega) (A7 (by omega) ?_));refine AB (S:=fun q=>q=Sum.inr ()) ?_ (by rintro q rfl;exact Ak rfl);refine Cl n (fun i s=>s=(i:Int)) rfl (by omega) ?_ ?_
 ·rintro i s hi rfl;unfold Jy;have ag:i<J.1.length:=by omega
  have O:i<J.2.length:=by omega
  obtain⟨v1,v2⟩:=K.nx i _ (List.getElem?_eq_getElem ag);obtain⟨w1,w2⟩:=K.fl i _ (List.getElem?_eq_getElem O);have am:=v1.len;have g2:=w1.len;refine Bs (by omega) (Bl (m:=i) rfl ag ?_);refine A7 (by omega) (A7 (by omega) ?_);refine AM (Sb U V ⟨Y,Z⟩ v1 (.inl rfl)) (A7 (by simp) ?_);refine Bl (m:=i) rfl O (A7 (by omega) ?_);refine Bl (m:=i) rfl O (AM (Sb U V ⟨Y,Z⟩ w1 (.inr w2)) ?_);refine A7 (by simp) (AT ((i+1:Nat):Int) (by simp) (by omega) (by omega) ?_);exact Ak rfl
 ·rintro s rfl;unfold Jy;exact A7 (by omega) (Ak ⟨_,rfl,rfl⟩)
theorem Qj(F:Nat):Lm F none=some 0:=by
 unfold Lm f112;have h:∃b,f135 F=some b:=by unfold f135;exact⟨_,rfl⟩
 obtain⟨b,hb⟩:=h;rw [hb];cases b <;> rfl
def GK(nx:List (List Int))(s:Nat):Nat:=(CB s 16).foldl (fun o m=>o ||| CU (nx.getD m.toNat [])) 0
theorem VJ.FQ{n:Nat}{J:JW}(K:VJ n J)(m:Nat):VL n (J.1.getD m []):=by
 rw [List.getD_eq_getElem?_getD];cases h:J.1[m]? with
 | none=>exact⟨by simp,fun x O=>by simp at O,by simp⟩
 | some l=>exact(K.nx m l h).1
theorem HA.Ah{n m:Nat}{l:List Int}(h:HA n l)(hle:n≤m):HA m l:=fun x K=>by have:=h x K;omega
theorem OK{n:Nat}{J:JW}(U:VJ n J)(s k:Nat):(GK J.1 s).testBit k=true↔∃m,m<16∧s.testBit m=true∧(k:Int)∈J.1.getD m []:=by
 have key:∀(l:List Int) (o:Nat),(l.foldl (fun o m=>o ||| CU (J.1.getD m.toNat [])) o).testBit k=true↔o.testBit k=true∨∃m∈l,(k:Int)∈J.1.getD m.toNat []:=by
  intro l
  induction l with
  | nil=>intro o;simp
  | cons x l V=>
   intro o;rw [List.foldl_cons,V,Nat.testBit_or,Bool.or_eq_true,Ku fun y Y=>((U.FQ x.toNat).inr y Y).1,decide_eq_true_eq];simp only [List.mem_cons,exists_eq_or_imp,or_assoc]
 unfold GK;rw [key];simp only [Nat.zero_testBit,Bool.false_eq_true,false_or];constructor
 ·rintro⟨x,Z,ag⟩;obtain⟨m,K,O,rfl⟩:=IK.1 Z;exact⟨m,K,O,ag⟩
 ·rintro⟨m,K,O,al⟩;exact⟨(m:Int),IK.2 ⟨m,K,O,rfl⟩,by simpa using al⟩
theorem Up{n s:Nat}(h:∀k,n≤k→s.testBit k=false):s<2 ^ n:=Nat.lt_pow_two_of_testBit s h
theorem SH{n:Nat}{J:JW}(K:VJ n J)(s:Nat):GK J.1 s<2 ^ n:=by
 refine Up fun k U=>?_;cases h:(GK J.1 s).testBit k with
 | false=>rfl
 | true=>
  obtain⟨m,_,_,O⟩:=(OK K s k).1 h;have:=(K.FQ m).inr _ O;omega
theorem RY{n:Nat}(h:n≤8):2 ^ n≤256:=Nat.pow_le_pow_right (by omega) h
theorem IV{n s k:Nat}(h:s<2 ^ n)(O:s.testBit k=true):k<n:=by
 rcases Nat.lt_or_ge k n with K | K
 ·exact K
 ·rw [Nat.testBit_lt_two_pow (Nat.lt_of_lt_of_le h (Nat.pow_le_pow_right (by omega) K))] at O;cases O
theorem Wk{F n:Nat}{J:JW}{A:List Nat}{s:Nat}(V:100<F)(K:VJ n J)(hs:s<2 ^ n):Lg F (J.1,J.2,A) s=some (GK J.1 s,(J.1,J.2,A)):=by
 have am:=K.l1;have al:=K.le;have ap:=RY al;refine C3 ?_;unfold Lg;refine AM (O7 V (by omega)) ?_;refine AB (S:=fun r=>r=GK J.1 s) ?_ (by rintro r rfl;exact Ak rfl);have hlen:=Kn s 16;refine Cl (CB s 16).length (fun i st=>st=(((CB s 16).take i).foldl (fun o m=>o ||| CU (J.1.getD m.toNat [])) 0,(i:Int))∧((CB s 16).take i).foldl (fun o m=>o ||| CU (J.1.getD m.toNat [])) 0<65536) ⟨rfl,by simp⟩ (by omega) ?_ ?_
 ·rintro i st hi ⟨rfl,Y⟩;unfold Mn;obtain⟨m,av,g2,Z⟩:=IK.1 (List.getElem_mem hi);have hm:=IV hs g2;have O:m<J.1.length:=by omega
  have U:=(K.nx m _ (List.getElem?_eq_getElem O)).1;have a0:=U.len;refine Bs (by simp;omega) ?_;refine Bl (m:=i) rfl hi ?_;refine Bl (m:=m) Z O ?_;refine AM (RZ V (show J.1[m].length<100 by omega) (U.inr.Ah (by omega))) ?_;have ag:CU J.1[m]<65536:=Rg (U.inr.Ah (by omega));refine AM (b:=((CB s 16).take i).foldl (fun o m=>o ||| CU (J.1.getD m.toNat [])) 0 ||| CU J.1[m]) (if_pos ⟨Y,ag⟩) ?_;refine AT ((i+1:Nat):Int) (by simp) (by omega) (by omega) ?_;have e:((CB s 16).take (i+1)).foldl (fun o m=>o ||| CU (J.1.getD m.toNat [])) 0=((CB s 16).take i).foldl (fun o m=>o ||| CU (J.1.getD m.toNat [])) 0 ||| CU J.1[m]:=by
   rw [List.take_add_one,List.getElem?_eq_getElem hi,List.foldl_append,Z];simp [List.getD_eq_getElem?_getD,O]
  refine Ak ⟨?_,?_⟩
  ·rw [e]
  ·rw [e];exact NA Y ag
 ·rintro st ⟨rfl,_⟩;unfold Mn;refine A7 (by simp) (Ak ⟨_,rfl,?_⟩);rw [List.take_length];rfl
def AG(J:JW):Nat→Nat
 | 0=>1
 | a+1=>GK J.1 (AG J a)
theorem IB{n:Nat}{J:JW}(K:VJ n J):∀a,AG J a<2 ^ n
 | 0=>Nat.one_lt_two_pow (by have:=K.pos;omega)
 | a+1=>SH K _
def Gp(J:JW):List Nat:=(List.range 13).map (AG J)
def Lu(J:JW)(n k:Nat)(A:List Nat):Prop:=A.length=13∧(∀i,i≤k→i<13→A[i]? =some (AG J i))∧∀x∈A,x<2 ^ n
theorem Lu.all{J:JW}{n:Nat}{A:List Nat}(h:Lu J n 12 A):A=Gp J:=by
 apply List.ext_getElem?;intro i;rcases Nat.lt_or_ge i 13 with hi | hi
 ·rw [h.2.1 i (by omega) hi];simp [Gp,hi]
 ·rw [List.getElem?_eq_none (by rw [h.1];exact hi),List.getElem?_eq_none (by simp [Gp];exact hi)]
theorem QC{F n:Nat}{J:JW}{A:List Nat}(al:100<F)(Y:VJ n J)(am:A.length=13)(Z:∀x∈A,x<2 ^ n):
  A1 (iter (Lb F) F (J.1,J.2,A,A,0)) (fun r=>r.1=J.1∧r.2.1=J.2∧r.2.2.1=A∧r.2.2.2.length=13∧r.2.2.2[0]? =A[0]? ∧(∀i,i<12→∀s,A[i]? =some s→r.2.2.2[i+1]? =some (GK J.1 s))∧∀x∈r.2.2.2,x<2 ^ n):=by
 refine Cl 12 (fun k st=>∃B:List Nat,st=(J.1,J.2,A,B,(k:Int))∧B.length=13∧B[0]? =A[0]? ∧(∀i,i<k→∀s,A[i]? =some s→B[i+1]? =some (GK J.1 s))∧∀x∈B,x<2 ^ n) ⟨A,rfl,am,rfl,fun i hi=>by omega,Z⟩ (by omega) ?_ ?_
 ·rintro k st av ⟨B,rfl,K,O,hs,hb⟩;unfold Lb;have U:k<A.length:=by omega
  have ag:k+1<B.length:=by omega
  refine Bs (by simp only;omega) (AT ((k+1:Nat):Int) (by simp) (by omega) (by omega) ?_);refine Bl (m:=k) rfl U (AM (Wk al Y (Z _ (List.getElem_mem U))) ?_);refine Bl (m:=k+1) rfl ag (AT ((k+1:Nat):Int) (by simp) (by omega) (by omega) ?_);refine Ak ⟨B.set (k+1) (GK J.1 A[k]),rfl,by simpa using K,?_,?_,?_⟩
  ·rw [List.getElem?_set_ne (by omega)];exact O
  ·intro i hi s V;by_cases e:i=k
   ·subst e;rw [List.getElem?_set_self ag];have:A[i]=s:=by rw [List.getElem?_eq_getElem U] at V;exact Option.some.inj V
    rw [this]
   ·rw [List.getElem?_set_ne (by omega)];exact hs i (by omega) s V
  ·intro x ap;rcases List.mem_or_eq_of_mem_set ap with h | h
   ·exact hb x h
   ·subst h;exact SH Y _
 ·rintro st ⟨B,rfl,K,O,hs,hb⟩;unfold Lb;refine A7 (by simp) (Ak ⟨_,rfl,rfl,rfl,rfl,K,O,hs,hb⟩)
theorem Za{F n:Nat}{J:JW}(av:100<F)(al:VJ n J):f92 F J=some (some (J.1,J.2,Gp J)):=by
 have a7:=al.pos;refine C3 ?_;unfold f92;refine Bl (m:=0) rfl (by simp) ?_;refine AB (S:=fun q=>q=Sum.inl (some (J.1,J.2,Gp J))) ?_ (by rintro q rfl;exact Ak rfl);refine Cl 12 (fun k st=>∃A:List Nat,st=(J.1,J.2,A)∧Lu J n k A) ?_ (by omega) ?_ ?_
 ·refine⟨_,rfl,by simp,fun i hi _=>?_,fun x a0=>?_⟩
  ·obtain rfl:i=0:=by omega
   rfl
  ·rcases List.mem_or_eq_of_mem_set a0 with h | h
   ·simp at h;subst h;exact Nat.two_pow_pos n
   ·subst h;exact Nat.one_lt_two_pow (by omega)
 ·rintro k st a8 ⟨A,rfl,K⟩;unfold MW;refine AB (QC av al K.1 K.2.2) ?_;rintro⟨a1,a2,am,B⟩ ⟨Y,Z,ag,O,g2,U,V⟩;simp only at Y Z ag O g2 U V ⊢;subst Y Z ag;refine Bq (fun h=>?_) (fun h=>?_)
  ·refine Ak ⟨B,rfl,O,fun i hi ap=>?_,V⟩;cases i with
   | zero=>rw [g2];exact K.2.1 0 (by omega) (by omega)
   | succ i=>exact U i (by omega) _ (K.2.1 i (by omega) (by omega))
  ·have e:B=am:=Decidable.byContradiction fun a3=>h a3;subst e;refine Ak ?_;show _=_;have a4:Lu J n 12 B:=by
    refine⟨O,fun i hi ap=>?_,V⟩;have:∀i,i<13→B[i]? =some (AG J i):=by
     intro i
     induction i with
     | zero=>intro _;exact K.2.1 0 (by omega) (by omega)
     | succ i a5=>intro h;exact U i (by omega) _ (a5 (by omega))
    exact this i ap
   rw [a4.all]
 ·rintro st ⟨A,rfl,K⟩;unfold MW;refine AB (QC av al K.1 K.2.2) ?_;rintro⟨a1,a2,am,B⟩ ⟨Y,Z,ag,O,g2,U,V⟩;simp only at Y Z ag O g2 U V ⊢;subst Y Z ag;have a6:Lu J n 12 B:=by
   refine⟨O,fun i hi ap=>?_,V⟩;cases i with
   | zero=>rw [g2];exact K.2.1 0 (by omega) (by omega)
   | succ i=>exact U i (by omega) _ (K.2.1 i (by omega) (by omega))
  have e:B=am:=by rw [a6.all,K.all]
  refine A7 (by rw [e];simp) (Ak ⟨_,rfl,?_⟩);rw [K.all]
end Pal
namespace Pal
theorem WS(J:JW){a:Nat}(K:a<13):(Gp J)[a]? =some (AG J a):=by simp [Gp,K]
abbrev Fi:=List Int×Int×Nat
def BG(k:Nat)(b:Fi):Prop:=0≤b.2.1∧b.2.1≤(k:Int)
theorem BG.Ah{k k':Nat}{b:Fi}(h:BG k b)(K:k≤k'):BG k' b:=⟨h.1,by have:=h.2;omega⟩
theorem XB{F k:Nat}{b:Fi}(hb:BG k b)(K:k<1000000):A1 (f100 F b) (fun r=>r.1<2 ^ 64∧BG (k+1) r.2):=by
 obtain⟨O,U⟩:=hb;unfold f100;refine AT (b.2.1+1) rfl (by omega) (by omega) ?_;have key:∀x:Nat,(x % 2 ^ 64)>>>11<2 ^ 64:=fun x=>Nat.lt_of_le_of_lt (Nat.shiftRight_le _ _) (Nat.mod_lt _ (Nat.two_pow_pos 64));refine AB (S:=fun _=>True) ?_ ?_
 ·refine Bq (fun h=>?_) (fun h=>?_)
  ·refine AT b.2.1 (by omega) (by omega) (by omega) (Bl (m:=b.2.1.toNat) (by omega) (by omega) ?_);exact Ak trivial
  ·exact Ak trivial
 ·intro x _;exact Ak ⟨key _,by simp only;omega,by simp only;omega⟩
theorem Vr{a:Nat}(h:a<2 ^ 62):LJ a=(a:Int):=by
 unfold LJ;exact IM (by omega)
theorem HP{F k:Nat}{b:Fi}{m:Int}(hb:BG k b)(O:k<1000000)(hm:m<1000000):A1 (f41 F b m) (fun r=>0≤r.1∧(r.1≤m∨r.1=0)∧BG (k+1) r.2):=by
 unfold f41;refine AB (XB hb O) ?_;rintro⟨x,Z⟩ ⟨ag,K⟩;refine Bq (fun h=>?_) (fun h=>?_)
 ·exact Ak ⟨by simp,.inr rfl,K⟩
 ·have U:Di m=m.toNat:=by unfold Di;omega
  have V:(Di m+1) % 2 ^ 64=m.toNat+1:=by rw [U];omega
  have Y:x % (m.toNat+1)<m.toNat+1:=Nat.mod_lt _ (by omega);refine AM (b:=x % (m.toNat+1)) (by rw [V];unfold NH;rw [if_neg (by omega)]) ?_;refine Ak ?_;simp only;generalize x % (m.toNat+1)=z at Y ⊢;rw [Vr (by omega)];exact⟨by omega,.inl (by omega),K⟩
theorem O6{F k:Nat}{b:Fi}{lo hi:Int}(hb:BG k b)(O:k<1000000)(V:0≤lo)(Y:lo≤hi)(Z:hi<1000):A1 (f96 F b lo hi) (fun r=>lo≤r.1∧r.1≤hi∧BG (k+1) r.2):=by
 unfold f96;refine AT (hi - lo) rfl (by omega) (by omega) (AB (HP hb O (by omega)) ?_);rintro⟨x,ag⟩ ⟨U,g2,K⟩;simp only at U g2 K ⊢;exact AT (lo+x) rfl (by omega) (by omega) (Ak ⟨by simp only;omega,by simp only;omega,K⟩)
theorem K9{F k:Nat}{b:Fi}{m:Int}(hb:BG k b)(K:k<1000000)(U:1≤m)(V:m<1000):A1 (f97 F b m) (fun r=>BG (k+1) r.2):=by
 unfold f97;refine AT (m - 1) rfl (by omega) (by omega) (AB (HP hb K (by omega)) ?_);rintro⟨x,Y⟩ ⟨Z,g2,O⟩;exact Ak O
theorem Nq{F k:Nat}{b:Fi}{l:List Int}(hb:BG k b)(U:k<1000000)(Y:0<l.length)(Z:l.length<1000):A1 (f99 F b l) (fun r=>r.1∈l∧BG (k+1) r.2):=by
 unfold f99;refine AT ((l.length - 1:Nat):Int) (by omega) (by omega) (by omega) (AB (HP hb U (by omega)) ?_);rintro⟨x,ag⟩ ⟨V,g2,K⟩;simp only at V g2 K ⊢;have O:x.toNat<l.length:=by omega
 exact Bl (m:=x.toNat) (by omega) O (Ak ⟨List.getElem_mem O,K⟩)
theorem Yf{F:Nat}{x:Int}(K:100<F):f98 F [] x=some [x]:=by
 obtain⟨F,rfl⟩:∃k,F=k+1:=⟨F - 1,by omega⟩;refine C3 ?_;unfold f98;refine AM (b:=([],false)) ?_ ?_
 ·unfold iter;rfl
 ·refine AM (b:= [x]) ?_ (Ak rfl)
  rfl
theorem X3{F:Nat}{a x:Int}(ap:100<F):f98 F [a] x=some (if x<a then [x,a] else if x=a then [a] else [a,x]):=by
 obtain⟨F,rfl⟩:∃k,F=k+2:=⟨F - 2,by omega⟩;refine C3 ?_;unfold f98;have U:As 1=some 1:=rfl;have V:ix [a] 0=some a:=rfl;have r0:room ([]:List Int) x=some [x]:=if_pos (by simp);have ag:room ([]:List Int) a=some [a]:=if_pos (by simp);have al:room [x] a=some [x,a]:=if_pos (by simp);have am:room [a] x=some [a,x]:=if_pos (by simp);have step:JX (F+2) [a] x ([],false,0)=some (.more (if x<a then([x,a],true,1) else if x=a then([x],true,1) else([a],false,1))):=by
  unfold JX;rcases Int.lt_trichotomy x a with h | h | h
  ·have Y:x≤a:=by omega
   have Z:a≠x:=by omega
   simp [V,h,Y,Z,r0,al,U]
  ·subst h;simp [V,r0,U]
  ·have Y:¬x≤a:=by omega
   have Z:a≠x:=by omega
   have K:¬x<a:=by omega
   have O:¬x=a:=by omega
   simp [V,Y,Z,K,O,ag,U]
 have last:∀(o:List Int) (b:Bool),JX (F+2) [a] x (o,b,1)=some (.done (o,b)):=by
  intro o b;unfold JX;simp
 rcases Int.lt_trichotomy x a with h | h | h
 ·rw [if_pos h] at step;refine AM (b:=([x,a],true)) ?_ ?_
  ·unfold iter;rw [step];simp only;unfold iter;rw [last]
  ·rw [if_pos h];exact AM (b:= [x,a]) (by simp) (Ak rfl)
 ·subst h;rw [if_neg (by omega),if_pos rfl] at step;refine AM (b:=([x],true)) ?_ ?_
  ·unfold iter;rw [step];simp only;unfold iter;rw [last]
  ·rw [if_neg (show ¬x<x by omega),if_pos (rfl:x=x)];exact AM (b:= [x]) (by simp) (Ak rfl)
 ·have K:¬x<a:=by omega
  have O:¬x=a:=by omega
  rw [if_neg K,if_neg O] at step;refine AM (b:=([a],false)) ?_ ?_
  ·unfold iter;rw [step];simp only;unfold iter;rw [last]
  ·rw [if_neg K,if_neg O];exact AM (b:= [a,x]) (by simp [am]) (Ak rfl)
theorem SE{F n:Nat}{l:List Int}{x:Int}(O:100<F)(U:HA n l)(V:l.length≤1)(Y:0≤x∧x<(n:Int)):A1 (f98 F l x) (fun r=>VL n r∧0<r.length∧r.length≤l.length+1∧∀y∈r,y=x∨y∈l):=by
 match l,V with
 | [],_=>
  rw [Yf O];exact Ak ⟨⟨by simp,fun y K=>by simp at K;subst K;exact Y,by simp⟩,by simp,by simp,fun y K=>by simpa using K⟩
 | [a],_=>
  rw [X3 O];have Z:=U a (by simp);refine Ak ?_;rcases Int.lt_trichotomy x a with h | h | h
  ·rw [if_pos h];exact⟨⟨by simp,fun y K=>by simp at K;rcases K with rfl | rfl <;> assumption,by simpa using h⟩,by simp,by simp,fun y K=>by simpa using K⟩
  ·rw [if_neg (by omega),if_pos h];exact⟨⟨by simp,fun y K=>by simp at K;subst K;exact Z,by simp⟩,by simp,by simp,fun y K=>by simp at K;subst K;simp⟩
  ·rw [if_neg (by omega),if_neg (by omega)];exact⟨⟨by simp,fun y K=>by simp at K;rcases K with rfl | rfl <;> assumption,by simpa using h⟩,by simp,by simp,fun y K=>by simp at K;rcases K with rfl | rfl <;> simp⟩
 | a::b::l,h=>simp at h
structure PJ (n i:Nat) (N K:List (List Int)):Prop where
 l1:N.length=i
 l2:K.length=i
 nx:∀(q:Nat) l,N[q]? =some l→VL n l∧0<l.length
 fl:∀(q:Nat) l,K[q]? =some l→VL n l∧(q:Int) ∉ l
theorem PJ.snoc{n i:Nat}{N U:List (List Int)}{a b:List Int}(h:PJ n i N U)(V:VL n a∧0<a.length)(hb:VL n b∧(i:Int) ∉ b):PJ n (i+1) (N++ [a]) (U++ [b]):=by
 refine⟨by simp [h.l1],by simp [h.l2],fun q l K=>?_,fun q l K=>?_⟩
 ·rcases Nat.lt_or_ge q N.length with O | O
  ·rw [List.getElem?_append_left O] at K;exact h.nx q l K
  ·rw [List.getElem?_append_right O] at K;have:q - N.length=0:=by
    rcases Nat.eq_zero_or_pos (q - N.length) with e | e
    ·exact e
    ·rw [List.getElem?_eq_none (by simp;omega)] at K;cases K
   rw [this] at K;simp at K;subst K;exact V
 ·rcases Nat.lt_or_ge q U.length with O | O
  ·rw [List.getElem?_append_left O] at K;exact h.fl q l K
  ·rw [List.getElem?_append_right O] at K;have e:q - U.length=0:=by
    rcases Nat.eq_zero_or_pos (q - U.length) with e | e
    ·exact e
    ·rw [List.getElem?_eq_none (by simp;omega)] at K;cases K
   rw [e] at K;simp at K;subst K;have:q=i:=by have:=h.l2;omega
   subst this;exact hb
theorem Vb{F n i k:Nat}{al:Int×Fi}{am:(List (List Int))×(List (List Int))×(List Int)×Int×Nat×Int}{b:Fi}{c:Int}(a6:100<F)(ap:al.1=(n:Int))(av:am.2.2.2.2.2=(i:Int))(hi:i<n)(ba:n≤8)(hb:BG k b)(bb:k<1000)(bc:c=0∨c=1∨c=2):
  A1 (iter (Nk F al am) F (b.1,b.2.1,b.2.2,[],c)) (fun r=>VL n r.1∧(i:Int) ∉ r.1∧BG (k+10) r.2):=by
 refine KB (fun m st=>∃(l:List Int) (K:Fi),st=(K.1,K.2.1,K.2.2,l,(m:Int))∧m≤2∧VL n l∧(i:Int) ∉ l∧l.length≤2 - m∧BG (k+10 - 4*m) K) ?_ (m:=c.toNat) ⟨[],b,by simp;omega,by omega,⟨by simp,fun x a7=>by simp at a7,by simp⟩,by simp,by simp,hb.Ah (by omega)⟩ (by omega);rintro m st ⟨l,K,rfl,bd,Y,Z,hlen,a0⟩;unfold Nk;refine AB (S:=fun q=>q=decide (0<m∧1<n)) ?_ ?_
 ·refine Bq (fun h=>?_) (fun h=>?_)
  ·refine Ak ?_;rw [ap];exact decide_eq_decide.2 ⟨fun a1=>⟨by simp only at h;omega,by omega⟩,fun a1=>by omega⟩
  ·refine Ak ?_;have:¬0<m:=by simp only at h;omega
   simp [this]
 ·rintro q rfl;refine Bq (fun h=>?_) (fun h=>?_)
  ·have a1:0<m∧1<n:=of_decide_eq_true h;refine AT ((i:Int) - 1) (by rw [av]) (by omega) (by omega) ?_;refine AB (HP (F:=F) (b:=(K.1,K.2.1,K.2.2)) (m:=max 0 ((i:Int) - 1)) a0 (by omega) (by omega)) ?_;rintro⟨y,be⟩ ⟨a2,g2,a3⟩;simp only at a2 g2 a3 ⊢;refine AB (K9 (F:=F) a3 (by omega) (by omega) (by omega)) ?_;rintro⟨o,bf⟩ ag;simp only at ag ⊢;refine AB (S:=fun r=>0≤r.1∧r.1<(n:Int)∧BG (k+10 - 4*m+1+1+1) r.2) ?_ ?_
   ·refine Bq (fun _=>?_) (fun _=>?_)
    ·refine AT ((n:Int) - 1) (by rw [ap]) (by omega) (by omega) (AB (HP (F:=F) ag (by omega) (by omega)) ?_);rintro⟨z,a4⟩ ⟨O,U,V⟩;exact Ak ⟨O,by simp only at O U ⊢;omega,V⟩
    ·exact Ak ⟨a2,by simp only;omega,BG.Ah ag (by omega)⟩
   ·rintro⟨z,a4⟩ ⟨O,U,V⟩;simp only at O U V ⊢;refine AB (S:=fun r=>VL n r∧(i:Int) ∉ r∧r.length≤l.length+1) ?_ ?_
    ·rw [av];refine Bq (fun a8=>?_) (fun _=>?_)
     ·refine AB (SE (F:=F) a6 Y.inr (by omega) ⟨O,U⟩) ?_;rintro r ⟨v1,v2,a5,v4⟩;refine Ak ⟨v1,fun a9=>?_,a5⟩;rcases v4 _ a9 with e | e
      ·exact a8 e.symm
      ·exact Z e
     ·exact Ak ⟨Y,Z,by omega⟩
    ·rintro r ⟨v1,v2,a5⟩;exact AT ((m - 1:Nat):Int) (by omega) (by omega) (by omega) (Ak ⟨m - 1,by omega,r,a4,rfl,by omega,v1,v2,by omega,V.Ah (by omega)⟩)
  ·exact Ak ⟨Y,Z,a0.Ah (by omega)⟩
theorem Z2{F k mx:Nat}{b:Fi}(a0:100<F)(hb:BG k b)(bf:k<100)(bg:1≤mx)(bh:mx≤8):A1 (f39 F b (mx:Int)) (fun r=>(∃n,n≤mx∧VJ n r.1)∧BG (k+301) r.2):=by
 unfold f39;refine AB (O6 (F:=F) hb (by omega) (by omega) (by omega) (by omega)) ?_;rintro⟨a1,ba⟩ ⟨n1,n2,a2⟩;simp only at n1 n2 a2;obtain⟨n,rfl⟩:∃n:Nat,a1=(n:Int):=⟨a1.toNat,by omega⟩;have bi:1≤n:=by omega
 have a3:n≤8:=by omega
 refine AB (S:=fun r=>PJ n n r.2.2.2.1 r.2.2.2.2∧BG (k+301) (r.1,r.2.1,r.2.2.1)) ?_ ?_
 ·refine Cl n (fun i st=>∃(N O:List (List Int)) (Y:Fi),st=(N,O,Y.1,Y.2.1,Y.2.2,(i:Int))∧PJ n i N O∧BG (k+1+30*i) Y) ⟨[],[],ba,rfl,⟨rfl,rfl,fun q l ag=>by simp at ag,fun q l ag=>by simp at ag⟩,a2⟩ (by omega) ?_ ?_
  ·rintro i st hi ⟨N,O,Z,rfl,K,al⟩;unfold MR;refine Bs (by simp only;omega) (AT ((n:Int) - 1) rfl (by omega) (by omega) ?_);refine AT ((i+1:Nat):Int) (by simp) (by omega) (by omega) (AB (K9 (F:=F) (b:=(Z.1,Z.2.1,Z.2.2)) al (by omega) (by omega) (by omega)) ?_);rintro⟨o,bj⟩ g2;simp only at g2 ⊢;have a4:HA n [min ((n:Int) - 1) ((i+1:Nat):Int)]:=fun x U=>by simp at U;subst U;omega
   refine AB (S:=fun r=>VL n r.1∧0<r.1.length∧BG (k+1+30*i+2) r.2) ?_ ?_
   ·refine Bq (fun _=>?_) (fun _=>?_)
    ·refine AT ((n:Int) - 1) rfl (by omega) (by omega) (AB (O6 (F:=F) g2 (by omega) (by omega) (by omega) (by omega)) ?_);rintro⟨y,a5⟩ ⟨am,ap,V⟩;simp only at am ap V ⊢;refine AB (SE (F:=F) a0 a4 (by simp) ⟨by omega,by omega⟩) ?_;rintro r ⟨v1,v2,bl,v4⟩;exact Ak ⟨v1,v2,V⟩
    ·exact Ak ⟨⟨by simp,a4,by simp⟩,by simp,BG.Ah g2 (by omega)⟩
   ·rintro⟨nx,a5⟩ ⟨w1,w2,w3⟩;simp only at w1 w2 w3 ⊢;refine AB (K9 (F:=F) (b:=a5) w3 (by omega) (by omega) (by omega)) ?_;rintro⟨o2,bm⟩ av;simp only at av ⊢;refine AB (S:=fun r=>VL n r.1∧0<r.1.length∧BG (k+1+30*i+4) r.2) ?_ ?_
    ·refine Bq (fun _=>?_) (fun _=>?_)
     ·refine AT ((n:Int) - 1) rfl (by omega) (by omega) (AB (HP (F:=F) av (by omega) (by omega)) ?_);rintro⟨y,a6⟩ ⟨am,ap,V⟩;simp only at am ap V ⊢;exact Ak ⟨⟨by simp,fun x U=>by simp at U;subst U;omega,by simp⟩,by simp,V⟩
     ·exact Ak ⟨w1,w2,BG.Ah av (by omega)⟩
    ·rintro⟨a7,a6⟩ ⟨u1,u2,a8⟩;simp only at u1 u2 a8 ⊢;refine AB (Nq (F:=F) (b:=a6) a8 (by omega) (by simp) (by simp)) ?_;rintro⟨c,bb⟩ ⟨a9,c2⟩;simp only at a9 c2 ⊢;have bc:c=0∨c=1∨c=2:=by simp at a9;omega
     refine AB (Vb (F:=F) (b:=bb) a0 rfl rfl hi a3 c2 (by omega) bc) ?_;rintro⟨fl,bd⟩ ⟨t1,t2,t3⟩;simp only at t1 t2 t3 ⊢;have bn:=K.l1;have bo:=K.l2;refine AM (b:=N++ [a7]) (if_pos (by simp;omega)) (AM (b:=O++ [fl]) (if_pos (by simp;omega)) ?_);exact AT ((i+1:Nat):Int) (by simp) (by omega) (by omega) (Ak ⟨N++ [a7],O++ [fl],bd,rfl,K.snoc ⟨u1,u2⟩ ⟨t1,t2⟩,t3.Ah (by omega)⟩)
  ·rintro st ⟨N,O,Z,rfl,K,al⟩;unfold MR;refine A7 (by simp) (Ak ⟨_,rfl,K,al.Ah (by omega)⟩)
 ·rintro⟨bp,bq,br,N,O⟩ ⟨K,be⟩;refine Ak ⟨⟨n,by omega,?_⟩,be⟩;exact⟨by omega,a3,K.l1,K.l2,K.nx,K.fl⟩
end Pal
namespace Pal
open Go Go.Conc Go.Proofs
open Go.Proofs.Tryz
end Pal
namespace Pal
def HX(J:JW)(n a:Nat)(d:List Bool):Prop:=d.length=n∧∀m,m<n→d[m]? =some ((AG J a).testBit m)
def PH(J:JW)(n a k:Nat)(d:List Bool):Prop:=d.length=n∧∀x:Nat,x<n→(d[x]? =some true↔∃m,m<k∧(AG J a).testBit m=true∧(x:Int)∈J.1.getD m [])
theorem PH.due{n a:Nat}{J:JW}{d:List Bool}(K:VJ n J)(h:PH J n a n d):HX J n (a+1) d:=by
 refine⟨h.1,fun x U=>?_⟩;have V:x<d.length:=by rw [h.1];exact U
 rw [List.getElem?_eq_getElem V];congr 1;have Y:=h.2 x U;rw [List.getElem?_eq_getElem V,Option.some.injEq] at Y;have Z:=OK K (AG J a) x;have e:d[x]=true↔(AG J (a+1)).testBit x=true:=by
  rw [Y];show _↔(GK J.1 (AG J a)).testBit x=true;rw [Z];have al:=K.le;constructor
  ·rintro⟨m,ag,g2,O⟩;exact⟨m,by omega,g2,O⟩
  ·rintro⟨m,ag,g2,O⟩;exact⟨m,IV (IB K a) g2,g2,O⟩
 cases am:d[x] <;> cases ap:(AG J (a+1)).testBit x <;> simp_all
theorem VK{d:List Bool}{q x:Nat}(K:q<d.length):(d.set q true)[x]? =some true↔d[x]? =some true∨x=q:=by
 by_cases e:q=x
 ·subst e;rw [List.getElem?_set_self K];simp
 ·rw [List.getElem?_set_ne e];constructor
  ·exact .inl
  ·rintro(h | h)
   ·exact h
   ·exact absurd h.symm e
end Pal
namespace Pal
open Go Go.Conc Go.Proofs
open Go.Proofs.Tryz
end Pal
namespace Pal
theorem VJ.PN{n:Nat}{J:JW}(K:VJ n J)(m:Nat):VL n (J.2.getD m []):=by
 rw [List.getD_eq_getElem?_getD];cases h:J.2[m]? with
 | none=>exact⟨by simp,fun x O=>by simp at O,by simp⟩
 | some l=>exact(K.fl m l h).1
end Pal
