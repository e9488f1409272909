/- ToothAges. Part 4 of 8. -/
import Derived.Test.YtboibffcmhheiaaGreatDoorTnb
import Derived.Test.YtboibffcmhheiaaGreatDoorTnc
import Derived.Conc.WgGenN3
import Derived.Sort.AssemblyPlain
import Derived.Sort.Walk13a
set_option linter.all false
set_option maxRecDepth 100000
namespace Pal
open Go Go.Conc Go.Proofs
open Go.Proofs.Tryz
theorem XR{J:Judge Tryz.prog}{I:List (List Int×Nat)→LH→Seg→Prop}(bi:∀x E E' X,Le E E'→I x E X→I x E' X){E:LH}{bk k1 o2:Nat}{a7 a8 Z:An}{a9 bb ag:Nat}{bd:List Value}{O:BU}{lk:AI}{age:Int}(bn:At E k1 o2 (([sV a7 O.1 a9,sV a8 O.2.1 bb]:List Value)++bd))(bo:Al (rL rI) E a7 a9 O.1)(bp:Al (rL rI) E a8 bb O.2.1)(bq:(rA 13 (rN .u16)).r E bd O.2.2)(br:Al Bp E Z ag lk){al am:Nat}(bu:At E al am [pV bk 0]){ap av kf a0:Nat}(bv:At E kf a0 [.func (.func 153) #[] [pV al am,pV ap av,pV kf a0].toArray]){be:Value}(bw:At E ap av [be]){fuel:Nat}{ok:List (List Int×Nat)→Bool}(bx:∀(E':LH) (Y:Seg) (ac:List (List Int×Nat)) (K:List Int) (U:Nat) (a:An) (c:Nat),Le E E'→Al rI E' a c K→I ac E' Y→ok (ac++ [(K,U)])=true→EU J be [.agg #[iV age,.slice a K.length c,uV U]] E' Y (fun w bz bA=>w= .bool true∧I (ac++ [(K,U)]) bz bA)):
  ∀(g sm:Nat) (ms:List Int) (fl:Nat) (ac V:List (List Int×Nat)),IN ok fuel O lk age g sm ms fl ac=some V→∀E' X a c,Le E E'→Al rI E' a c ms→I ac E' X→AL J 153 [uV sm,pV al am,pV ap av,pV kf a0] E' ([(bk,.cells #[pV k1 o2,.slice Z lk.length ag,iV age,(.slice a ms.length c),uV fl] 175 (0,0))]++X) (fun w E' B'=>∃bB bC bD Y,w= .bool true∧B'= [(bk,.cells #[pV k1 o2,.slice Z lk.length ag,bB,bC,bD] 175 (0,0))]++Y∧I V E' Y):=by
 intro g
 induction g with
 | zero=>intro sm ms fl ac V h;cases h
 | succ g bE=>
  intro sm ms fl ac V h E' X a c hle bF bG;obtain⟨r,bH,bI⟩:=Option.bind_eq_some_iff.1 h;exact ai bi (bn.Ah hle) (bo.Ah hle) (bp.Ah hle) (Rp.Ah _ hle bq) (br.Ah hle) bF (bu.Ah hle) (bv.Ah hle) (bw.Ah hle) bG (rec:=IN ok fuel O lk age g) (fun s' K U ac V bJ a1 a2 a3 c2 a4 a5 a6=>bE s' K U ac V bJ a1 a2 a3 c2 (hle.trans a4) a5 a6) (fun a1 a2 ac K U a3 c2 a4 a5 a6 bK=>bx a1 a2 ac K U a3 c2 (hle.trans a4) a5 a6 bK) bH bI
def Ke(fuel:Nat)(K:BU)(lk:AI)(age:Int):Option Nat:=
 (ix K.2.2 (age)).bind fun O=>
 some O
theorem Q0{J:Judge Tryz.prog}{I:List (List Int×Nat)→LH→Seg→Prop}(be:∀x E E' X,Le E E'→I x E X→I x E' X){E:LH}{bk k1 o2:Nat}{a3 a4 Y:An}{a5 a6 Z:Nat}{bi:List Value}{V:BU}{lk:AI}{age:Int}(bn:At E k1 o2 (([sV a3 V.1 a5,sV a4 V.2.1 a6]:List Value)++bi))(bx:Al (rL rI) E a3 a5 V.1)(bz:Al (rL rI) E a4 a6 V.2.1)(a7:(rA 13 (rN .u16)).r E bi V.2.2)(bA:Al Bp E Y Z lk){av a0:Nat}(a8:At E av a0 [pV bk 0]){bo bp:Nat}(bq:At E bo bp [iV age]){al am ap:Value}{br:Go.Fn}{X:Seg}{acc acc':List (List Int×Nat)}(bB:I acc E X){ok:List (List Int×Nat)→Bool}{fuel:Nat}(bC:∀(E':LH) (U:Seg) (ac:List (List Int×Nat)) (a1:List Int) (a9:Nat) (a:An) (c:Nat),Le E E'→Al rI E' a c a1→I ac E' U→ok (ac++ [(a1,a9)])=true→EU J (.func br #[] #[]) [.agg #[iV age,.slice a a1.length c,uV a9]] E' U (fun w bD bE=>w= .bool true∧I (ac++ [(a1,a9)]) bD bE)){r:Nat}(bu:Ke fuel V lk age=some r)(bF:IN ok fuel V lk age fuel r [] 0 acc=some acc'):
  AL J 152 [.func br #[] #[],pV bo bp,pV av a0] E ([(bk,.cells #[pV k1 o2,.slice Y lk.length Z,al,am,ap] 175 (0,0))]++X) (fun w E' B'=>∃al am ap U,w= .tuple #[]∧B'= [(bk,.cells #[pV k1 o2,.slice Y lk.length Z,al,am,ap] 175 (0,0))]++U∧I acc' E' U):=by
 refine A4 func152 fun Q b9 cs H bb bG=>?_;refine DI (S':= [[(bk,.cells #[pV k1 o2,.slice Y lk.length Z,al,am,ap] 175 (0,0))],X]) (by simp) bb fun bb=>?_;unfold Ke at bu;refine zg 2 rfl (B4 bb fun bd ca K bH bI=>?_);refine zg 3 rfl (BW 0 (a8.Ah K) FG rfl rfl rfl ?_);refine BW 0 (bq.Ah K) Bv rfl rfl rfl (AB (v:= .agg #[iV age,nS,uV 0]) rfl (fun ρ h=>CY [(0,1),(1,1),(2,1)] h GV underlying104 ⟨rfl,Bo type3,rfl,Bo type28,rfl,Bo type102,trivial⟩ rfl rfl) ?_);refine zg 1 rfl (BJ underlying175 Cu rfl rfl rfl ?_);refine BM 0 bI Cu fun bJ=>?_;refine zg 3 rfl (Cz bJ (Du type201) fun a2 bK=>?_);refine Cs (S':= [[(bk,.cells #[pV k1 o2,sV Y lk Z,iV age,nS,uV 0] 175 (0,0))],X,[],[(a2,.cells #[.nilFunc] 201 (0,0))]]) rfl bK fun bL=>zg 3 rfl (AB (v:= .func (.func 153) #[] ([pV av a0,pV bd 0,pV a2 0]:List Value).toArray) rfl (fun ρ h=>IV (by simp) (by simp [h (.tmp 2) _ rfl,h (.tmp 3) _ rfl,h (.tmp 4) _ rfl])) ?_);refine BM 3 bL (Bo type201) fun bM=>?_;refine CV 3 bM rfl fun bN O bv ag=>JL.done (Di 11 [bk] ⟨⟨0,_,rfl⟩,trivial⟩ ag fun ht=>?_);refine JG.lp 0 ht 0 bv ag ⟨⟨0,_,rfl⟩,trivial⟩ (Dv underlying201) ?_;refine JG.lp 1 ht 0 (a8.Ah (K.Ac O)) ag ⟨⟨0,_,rfl⟩,trivial⟩ FG ?_;refine Ch 2 ht rfl rfl (Ca 3 ht underlying175 Ob rfl rfl rfl rfl ?_);refine Fc 4 ht 0 0 ag L9 ?_;refine JG.lp 5 ht 0 (bq.Ah (K.Ac O)) ag ⟨⟨0,_,rfl⟩,trivial⟩ Bv ?_;refine Ch 6 ht rfl rfl (Ca 7 ht underlying141 Gd rfl rfl rfl rfl ?_);obtain⟨bO,bw,bP⟩:=bs bu;obtain⟨_,rfl,bQ,_,_⟩:=Te (kk:=13) (pp:=(rN .u16)) (Rp.Ah _ (K.Ac O) a7) (At.tail (l:= [sV a3 V.1 a5,sV a4 V.2.1 a6]) (bn.Ah (K.Ac O))) bw;refine Bx (v:= .pointer (some ⟨k1,(o2+2+Int.toNat (age)*1),none⟩)) 8 ht rfl rfl (fun ρ h s' hs=>JC (kk:=13) (pp:=(rN .u16)) (Rp.Ah _ (K.Ac O) a7) bw underlying139 Ii (h _ _ rfl) (h _ _ rfl)) (Ca 9 ht underlying138 Ei rfl rfl rfl rfl ?_);refine JG.lp 10 ht 0 bQ ag ⟨⟨0,_,rfl⟩,trivial⟩ GR ?_;refine Cg [11] ?_;obtain rfl:=oi bP;have bR:EU J (.func (.func 153) #[] [pV av a0,pV bd 0,pV a2 0].toArray) [uV bO] bN ([(bk,.cells #[pV k1 o2,.slice Y lk.length Z,iV age,nS,uV 0] 175 (0,0))]++X) (fun w E' B'=>∃al am ap U,w= .bool true∧B'= [(bk,.cells #[pV k1 o2,.slice Y lk.length Z,al,am,ap] 175 (0,0))]++U∧I acc' E' U):=EU.ofFn (caps:= [pV av a0,pV bd 0,pV a2 0]) (AR func153 rfl) (XR be (bn.Ah (K.Ac O)) (bx.Ah (K.Ac O)) (bz.Ah (K.Ac O)) (Rp.Ah _ (K.Ac O) a7) (bA.Ah (K.Ac O)) (a8.Ah (K.Ac O)) bv (bH.Ah O) (fun bS bT ac bU bV bW c2 bY bZ b0 b1=>bC bS bT ac bU bV bW c2 (((K.Ac O)).Ac bY) bZ b0 b1) _ _ _ _ _ _ bF _ _ _ _ Ar Al.nil (be _ _ _ _ (K.Ac O) bB));refine DI (S':= [[(bk,.cells #[pV k1 o2,.slice Y lk.length Z,iV age,nS,uV 0] 175 (0,0))]++X]) (by simp) ag fun b2=>Jy 0 bR rfl rfl rfl rfl rfl b2 rfl ?_;rintro w cb _ b3 ⟨b4,b5,b6,U,rfl,rfl,b7⟩ b8;refine JL.done (JL.fin (v:= .tuple #[]) rfl rfl (Cd.list func152 rfl (vs:= []) trivial) ?_);exact bG ((K.Ac O).trans b3) rfl ⟨b4,b5,b6,U,rfl,by simp,b7⟩ b8
end Pal
namespace Pal
open Go Go.Conc Go.Proofs
open Go.Proofs.Tryz
noncomputable def IA:Code:=match Tryz.f127.body with | some (.seq _ (.seq _ (.seq (.seq _ (.block _ (.rangeFunc _ _ a _))) _)))=>a | _=> .skip
noncomputable def Iz:Code:=match Tryz.f127.body with | some (.seq _ (.seq _ (.seq (.seq _ (.block _ (.rangeFunc _ _ _ b))) _)))=>b | _=> .skip
def add1(fuel:Nat)(age:Int)(q:Int×List (Ce))(x:List Int×Nat):Option (Int×List (Ce)):=
 (f130 fuel (age,x.1,x.2)).bind fun n=>II fuel q.1 q.2 (age,x.1,x.2) n
def Ht(fuel:Nat)(age:Int)(ac:List (List Int×Nat)):Option (Int×List (Ce)):=Fu (add1 fuel age) ac (0,[])
def IP(fuel:Nat)(age:Int)(l K O:Nat)(T:Array Value)(ac:List (List Int×Nat))(E:LH)(X:Seg):Prop:=
 ∃q a c g,Ht fuel age ac=some q∧X=(l,.loop ⟨.ready,none,127,T,#[17],IA,Iz,O⟩)::([(K,.cells #[iV age,iV q.1,.slice a q.2.length c] 133 (0,0))]++g)∧OL 104 Dr E a c g q.2
theorem IP.Ah{fuel:Nat}{age:Int}{l K O:Nat}{T:Array Value}:∀(ac:List (List Int×Nat)) (E E':LH) (X:Seg),Le E E'→IP fuel age l K O T ac E X→IP fuel age l K O T ac E' X:=
 fun ac E E' X hle ⟨q,a,c,g,U,V,Y⟩=>⟨q,a,c,g,U,V,Y.Ah hle⟩
theorem Qi{α B:Type}{step:B→α→Option B}:∀{l:List α} {x:α} {b:B},Fu step (l++ [x]) b=(Fu step l b).bind fun K=>step K x
 | [],x,b=>by simp [Fu]
 | y::l,x,b=>by
  simp only [List.cons_append,Fu]
  cases step b y with
  | none=>rfl
  | some K=>exact Qi
theorem RJ{J:Judge Tryz.prog}{fuel:Nat}{age:Int}{l K O:Nat}{T:Array Value}(a1:Has Tryz.f127.ntmps [(6,pV K 0)] T){E:LH}{X:Seg}{ac:List (List Int×Nat)}{ms:List Int}{fl:Nat}{U:An}{V:Nat}(am:Al rI E U V ms)(a2:IP fuel age l K O T ac E X)(a3:(Ht fuel age (ac++ [(ms,fl)])).isSome=true):
  EU J (.func (.yield l) #[] #[]) [.agg #[iV age,.slice U ms.length V,uV fl]] E X (fun w E' a4=>w= .bool true∧IP fuel age l K O T (ac++ [(ms,fl)]) E' a4):=by
 obtain⟨q,a,c,g,ap,rfl,a5⟩:=a2;obtain⟨r,he⟩:=Option.isSome_iff_exists.1 a3;have av:add1 fuel age q (ms,fl)=some r:=by
  have Z:=he;unfold Ht at Z ap;rw [Qi,ap] at Z;exact Z
 refine EU.yield (i:=0) (t:=17) rfl rfl fun Q a6 cs H ag a7=>?_;refine(?_:JL J Q (Tn l 127) Tryz.f127.ntmps [(17,.agg #[iV age,.slice U ms.length V,uV fl]),(6,pV K 0)] [] [.code IA,.beginRound,.code Iz] (a6::cs) _) _ (a1.put (d:=some 17) rfl _);refine DI (S':= [[(l,.loop ⟨.ready,none,127,T,#[17],IA,Iz,O⟩)],[(K,.cells #[iV age,iV q.1,.slice a q.2.length c] 133 (0,0))],g]) (by simp) ag fun ag=>?_;unfold add1 at av;refine JL.region (Cz ag GV fun bx a8=>?_);refine BM 3 a8 Cu fun a9=>?_;refine CV 3 a9 rfl fun bz Y a0 bb=>JL.done (JL.beginRound 0 rfl rfl bb rfl rfl fun bd=>?_);refine JL.block (CZ 4 fun ht=>?_);refine Ca 0 ht underlying133 Dl rfl rfl rfl rfl (Fb 1 ht a0 FX Cu rfl rfl rfl ?_);refine Fb 2 ht a0 FX Cu rfl rfl rfl ?_;obtain⟨bA,be,bi⟩:=bs av;refine JG.call (i:=3) (vs:= [.agg #[iV age,sV U ms V,uV fl]]) (ZJ (p0:=(age,ms,fl)) (am.Ah Y) be) (by decide+kernel) rfl rfl rfl (AR func130 rfl) rfl bd ?_;rintro _ bB _ al ⟨rfl,rfl⟩ bn;refine Cg [4] (DI (S':= [[(l,.loop ⟨.busy,none,127,T,#[17],IA,Iz,O⟩)],[(K,.cells #[iV age,iV q.1,.slice a q.2.length c] 133 (0,0))]++g]) (by simp) bn fun bo=>?_);refine B6 1 (ZZ ((a5.Ah (Y.Ac al))) (tr:=(age,ms,fl)) (am.Ah (Y.Ac al)) bi) rfl rfl (AR func122 rfl) bo rfl ?_;rintro _ bC _ bp ⟨bq,br,g',rfl,rfl,bu⟩ bv;refine zg 2 rfl (JL.endRound 0 rfl rfl bv rfl fun bw=>?_);exact a7 _ _ _ _ ((Y.Ac al).trans bp) rfl ⟨rfl,r,bq,br,g',he,by simp,bu⟩ bw
end Pal
namespace Pal
open Go Go.Conc Go.Proofs
open Go.Proofs.Tryz
open Go.Conc.Lib Go.ConcR.Gen
theorem Qt{J:Judge Tryz.prog}{E:LH}{bk:Nat}{age:Int}:AL J 129 [pV bk 0,iV age] E [] (fun w E' B'=>∃K O,w= .func (.func 152) #[] [pV K 0,pV O 0].toArray∧B'= []∧At E' K 0 [iV age]∧At E' O 0 [pV bk 0]):=by
 refine A4 func129 fun Q a1 cs H Z ag=>?_;refine zg 2 rfl (B4 Z fun U a2 al am ap=>?_);refine B4 ap fun V a3 Y av a0=>?_;refine zg 4 rfl (AB (v:= .func (.func 152) #[] ([pV V 0,pV U 0]:List Value).toArray) rfl (fun ρ h=>IV (by simp) (by simp [h (.tmp 3) _ rfl,h (.tmp 2) _ rfl])) ?_);refine zg 2 rfl (AD func129 rfl rfl ?_);exact ag (al.Ac Y) rfl ⟨V,U,rfl,by simp,av,(am.Ah Y)⟩ a0
def GC(fuel:Nat)(K:BU)(lk:AI)(age:Int):Option (Int×List (Ce)):=
 (Ke fuel K lk age).bind fun s=>(IN (fun ac=>(Ht fuel age ac).isSome) fuel K lk age fuel s [] 0 []).bind fun tr=>Ht fuel age tr
theorem VY{L:WgLink}(bi:WgLib Tryz.prog L)(bV:L.done=128){F:Fam}{j:Nat}{E:LH}{k1 o2:Nat}{bW bY O:An}{bZ b0 U:Nat}{b1:List Value}{av:BU}{lk:AI}{age:Int}(b2:At E k1 o2 (([sV bW av.1 bZ,sV bY av.2.1 b0]:List Value)++b1))(b3:Al (rL rI) E bW bZ av.1)(b4:Al (rL rI) E bY b0 av.2.1)(b5:(rA 13 (rN .u16)).r E b1 av.2.2)(b6:Al Bp E O U lk){bn bo bp ol ka a0 kc ag:Nat}(ca:At E bn bo [pV k1 o2])(cb:At E bp ol [.slice O lk.length U])(bu:At E ka a0 [iV age])(b7:At E kc ag [.chan (some F.ch)])
  {fuel:Nat} {q:Int×List (Ce)} (bq:GC fuel av lk age=some q) (br:F.has j=decide (0<q.2.length)) (b8:∀E' a c,Le E E'→Al Dr E' a c q.2→F.msg j (.agg #[iV age,iV q.1,.slice a q.2.length c]) E'):
  Way Tryz.prog false (Stop Tryz.prog F (F.start j)) (born Tryz.prog ⟨.fn (.func 127) [.pointer (some F.sA),pV bn bo,pV bp ol,pV ka a0,pV kc ag].toArray,#[]⟩) ⟨E,fun _=>none,false⟩:=by
 refine Q7 (fn:=Tryz.f127) (vs:= [.pointer (some F.sA),pV bn bo,pV bp ol,pV ka a0,pV kc ag]) func127 rfl rfl (by simp) (Nat.le_of_ble_eq_true rfl) ?_;obtain⟨H,cc⟩:∃H:LH,H=fun _=>none:=⟨_,rfl⟩;rw [← cc];have b9:Ax E H []:=trivial;refine(?_:JL (BA Tryz.prog false) (Stop Tryz.prog F (F.start j)) (baseD 127) Tryz.f127.ntmps (FM 0 [.pointer (some F.sA),pV bn bo,pV bp ol,pV ka a0,pV kc ag]) [] [.code _] [HW Tryz.prog] (Ao E H []));refine zg 2 rfl (JL.defer (vs:= [.pointer (some F.sA)]) rfl rfl rfl rfl rfl ?_);refine zg 2 rfl (CZ 8 fun ht=>?_);refine Co 0 ht 0 ca L9 rfl rfl rfl rfl (Co 1 ht 0 cb HJ rfl rfl rfl rfl ?_);refine Bx (v:= .agg #[pV k1 o2,sV O lk U,iV 0,nS,uV 0]) 2 ht rfl rfl (fun ρ h s' hs=>CY [(0,1),(1,1),(2,3)] h (Du type175) underlying175 ⟨rfl,Bo type94,rfl,Bo type25,rfl,Bo type104,trivial⟩ rfl rfl) (Co 4 ht 0 bu Bv rfl rfl rfl rfl ?_);refine Bx (v:= .agg #[iV age,iV 0,nS]) 5 ht rfl rfl (fun ρ h s' hs=>CY [(0,1),(1,2)] h Ie underlying133 ⟨rfl,Bo type3,rfl,Bo type97,trivial⟩ rfl rfl) (IB (i:=3) (j:=6) rfl (by decide+kernel) ?_ ?_)
 ·refine Take.Tw (v:= .agg #[pV k1 o2,sV O lk U,iV 0,nS,uV 0]) b9 rfl rfl rfl rfl fun a1 a3=>JG.one (i:=6) rfl (by decide+kernel) (Take.Ja a3 rfl rfl rfl Ie fun al a4=>?_);refine Ch 7 ht rfl rfl (Cg [8] ?_);refine Cs (S':= [[(a1,.cells #[pV k1 o2,sV O lk U,iV 0,nS,uV 0] 175 (0,0))],[(al,.cells #[iV 0,iV 0,nS] 133 (0,0))]]) rfl a4 fun a5=>BM 1 a5 AS fun Z=>?_;refine zg 3 rfl (Cs (S':= [[(a1,.cells #[pV k1 o2,.slice O lk.length U,iV 0,nS,uV 0] 175 (0,0))],[(al,.cells #[iV age,iV 0,nS] 133 (0,0))]]) rfl Z fun bv=>?_);refine IC [(3,pV ka a0),(4,pV kc ag),(5,pV a1 0),(6,pV al 0)] rfl ?_;have a6:Le E E:=Ar;refine zg 2 rfl (BW 0 (bu.Ah a6) Bv rfl rfl rfl ?_);refine BL Qt rfl rfl (AR func129 rfl) bv ?_;rintro _ cd _ bw ⟨a7,a8,rfl,rfl,bx,bz⟩ a3;have V:=a6.Ac bw;refine zg 2 rfl (DI (S':= [[(a1,.cells #[pV k1 o2,.slice O lk.length U,iV 0,nS,uV 0] 175 (0,0))],[(al,.cells #[iV age,iV 0,nS] 133 (0,0))]]) (by simp) a3 fun bA=>?_);refine JL.rangeFunc (caps:= [pV a7 0,pV a8 0]) rfl (by intro e;cases e) rfl (AR func152 rfl) bA fun Y l T a9 bB=>OQ (S':= [[(a1,.cells #[pV k1 o2,.slice O lk.length U,iV 0,nS,uV 0] 175 (0,0))]++([(l,.loop ⟨.ready,none,127,T,#[17],IA,Iz,Y⟩)]++ [(al,.cells #[iV age,iV 0,nS] 133 (0,0))]),[(Y,.deferred (some []))]]) Sl bB fun a4=>?_;unfold GC at bq;obtain⟨ce,bC,bD⟩:=Option.bind_eq_some_iff.1 bq;obtain⟨tr,bE,bF⟩:=Option.bind_eq_some_iff.1 bD;refine Ro (vs:= [.func (.yield l) #[] #[],pV a7 0,pV a8 0]) 0 (Q0 (I:=IP fuel age l al Y T) (ok:=fun ac=>(Ht fuel age ac).isSome) (acc:= []) IP.Ah (b2.Ah V) (b3.Ah V) (b4.Ah V) (Rp.Ah _ V b5) (b6.Ah V) bz bx ⟨(0,[]),none,0,[],rfl,rfl,OL.nil⟩ (fun E' bG ac cf cg a c hle bH bI bJ=>RJ (a9.sub ⟨rfl,trivial⟩) bH bI bJ) bC bE) a4 rfl ?_;rintro _ ci _ bK ⟨bL,bM,bN,bG,rfl,rfl,K,a,c,g,bO,rfl,bP⟩ bQ;obtain rfl:K=q:=Option.some.inj (bO.symm.trans bF);refine Rw (S':= [[(a1,.cells #[pV k1 o2,.slice O lk.length U,bL,bM,bN] 175 (0,0))],[(l,.loop ⟨.ready,none,127,T,#[17],IA,Iz,Y⟩)],[(al,.cells #[iV age,iV K.1,.slice a K.2.length c] 133 (0,0))],g,[(Y,.deferred (some []))]]) (by simp) bQ fun a5=>Qa 1 a5 rfl rfl rfl fun Z=>?_;refine(?_:JL (BA Tryz.prog false) (Stop Tryz.prog F (F.start j)) (baseD 127) Tryz.f127.ntmps [(4,pV kc ag),(6,pV al 0)] [⟨.collected Y,#[]⟩,dcall 128 #[.pointer (some F.sA)]] _ [HW Tryz.prog] _) T (a9.sub ⟨rfl,rfl,trivial⟩);have bb:=V.Ac bK;have bR:dcall 128 #[.pointer (some F.sA)]=dcall L.done #[.pointer (some F.sA)]:=by rw [bV]
  rw [bR];refine zg 3 rfl (BJ underlying133 Dl rfl rfl rfl ?_);refine BJ underlying97 Dt rfl rfl rfl (AB (v:= .slice a K.2.length c) rfl (fun ρ h=>Yl.load EC (h _ _ rfl) (DW (j:=2) (off:=2) Z rfl rfl)) ?_);refine Bh underlying95 rfl rfl rfl (zg 2 rfl ?_);refine O5 (p:=0<((K.2).length:Int)) rfl (fun bS=>?_) (fun bS=>?_)
  ·have ap:F.start j= .CB j:=by unfold Fam.start;rw [br,decide_eq_true (show 0<K.2.length by omega)];rfl
   rw [ap];refine JL.region (BW 0 (b7.Ah bb) L5 rfl rfl rfl ?_);refine B5 3 bP Z rfl fun ck bT bU bd=>AB rfl (fun ρ h=>FJ (vs:= [iV age,iV K.1,.slice a K.2.length c]) Cr AS (h _ _ rfl) (ED (off:=0) 2 bd rfl rfl)) (Rq rfl rfl rfl rfl rfl rfl rfl (b8 _ _ _ (bb.Ac bT) bU) ?_);exact JL.done (JL.out rfl (JO.collected 4 rfl bd rfl fun be=>JO.NM bi rfl rfl (JO.leaveD rfl func127 rfl (.inr rfl) Ku)))
  ·have ap:F.start j= .C8:=by unfold Fam.start;rw [br,decide_eq_false (show ¬0<K.2.length by omega)];rfl
   rw [ap];exact JL.skip (JL.out rfl (JO.collected 4 rfl Z rfl fun be=>JO.NM bi rfl rfl (JO.leaveD rfl func127 rfl (.inr rfl) Ku)))
 ·refine Take.Ja b9 rfl rfl rfl Ie fun am be=>JG.one (i:=3) rfl (by decide+kernel) (Take.Tw (v:= .agg #[pV k1 o2,sV O lk U,iV 0,nS,uV 0]) be rfl rfl rfl rfl fun a2 cm=>?_);refine Ch 7 ht rfl rfl (Cg [8] ?_);refine Cs (S':= [[(am,.cells #[iV 0,iV 0,nS] 133 (0,0))],[(a2,.cells #[pV k1 o2,sV O lk U,iV 0,nS,uV 0] 175 (0,0))]]) rfl cm fun cn=>BM 0 cn AS fun co=>?_;refine zg 3 rfl (JS.perm (S':= [[(a2,.cells #[pV k1 o2,.slice O lk.length U,iV 0,nS,uV 0] 175 (0,0))],[(am,.cells #[iV age,iV 0,nS] 133 (0,0))]]) (List.Perm.swap _ _ _) co fun bv=>?_);refine IC [(3,pV ka a0),(4,pV kc ag),(5,pV a2 0),(6,pV am 0)] rfl ?_;have a6:Le E E:=Ar;refine zg 2 rfl (BW 0 (bu.Ah a6) Bv rfl rfl rfl ?_);refine BL Qt rfl rfl (AR func129 rfl) bv ?_;rintro _ cd _ bw ⟨a7,a8,rfl,rfl,bx,bz⟩ a3;have V:=a6.Ac bw;refine zg 2 rfl (DI (S':= [[(a2,.cells #[pV k1 o2,.slice O lk.length U,iV 0,nS,uV 0] 175 (0,0))],[(am,.cells #[iV age,iV 0,nS] 133 (0,0))]]) (by simp) a3 fun bA=>?_);refine JL.rangeFunc (caps:= [pV a7 0,pV a8 0]) rfl (by intro e;cases e) rfl (AR func152 rfl) bA fun Y l T a9 bB=>OQ (S':= [[(a2,.cells #[pV k1 o2,.slice O lk.length U,iV 0,nS,uV 0] 175 (0,0))]++([(l,.loop ⟨.ready,none,127,T,#[17],IA,Iz,Y⟩)]++ [(am,.cells #[iV age,iV 0,nS] 133 (0,0))]),[(Y,.deferred (some []))]]) Sl bB fun a4=>?_;unfold GC at bq;obtain⟨ce,bC,bD⟩:=Option.bind_eq_some_iff.1 bq;obtain⟨tr,bE,bF⟩:=Option.bind_eq_some_iff.1 bD;refine Ro (vs:= [.func (.yield l) #[] #[],pV a7 0,pV a8 0]) 0 (Q0 (I:=IP fuel age l am Y T) (ok:=fun ac=>(Ht fuel age ac).isSome) (acc:= []) IP.Ah (b2.Ah V) (b3.Ah V) (b4.Ah V) (Rp.Ah _ V b5) (b6.Ah V) bz bx ⟨(0,[]),none,0,[],rfl,rfl,OL.nil⟩ (fun E' bG ac cf cg a c hle bH bI bJ=>RJ (a9.sub ⟨rfl,trivial⟩) bH bI bJ) bC bE) a4 rfl ?_;rintro _ ci _ bK ⟨bL,bM,bN,bG,rfl,rfl,K,a,c,g,bO,rfl,bP⟩ bQ;obtain rfl:K=q:=Option.some.inj (bO.symm.trans bF);refine Rw (S':= [[(a2,.cells #[pV k1 o2,.slice O lk.length U,bL,bM,bN] 175 (0,0))],[(l,.loop ⟨.ready,none,127,T,#[17],IA,Iz,Y⟩)],[(am,.cells #[iV age,iV K.1,.slice a K.2.length c] 133 (0,0))],g,[(Y,.deferred (some []))]]) (by simp) bQ fun a5=>Qa 1 a5 rfl rfl rfl fun Z=>?_;refine(?_:JL (BA Tryz.prog false) (Stop Tryz.prog F (F.start j)) (baseD 127) Tryz.f127.ntmps [(4,pV kc ag),(6,pV am 0)] [⟨.collected Y,#[]⟩,dcall 128 #[.pointer (some F.sA)]] _ [HW Tryz.prog] _) T (a9.sub ⟨rfl,rfl,trivial⟩);have bb:=V.Ac bK;have bR:dcall 128 #[.pointer (some F.sA)]=dcall L.done #[.pointer (some F.sA)]:=by rw [bV]
  rw [bR];refine zg 3 rfl (BJ underlying133 Dl rfl rfl rfl ?_);refine BJ underlying97 Dt rfl rfl rfl (AB (v:= .slice a K.2.length c) rfl (fun ρ h=>Yl.load EC (h _ _ rfl) (DW (j:=2) (off:=2) Z rfl rfl)) ?_);refine Bh underlying95 rfl rfl rfl (zg 2 rfl ?_);refine O5 (p:=0<((K.2).length:Int)) rfl (fun bS=>?_) (fun bS=>?_)
  ·have ap:F.start j= .CB j:=by unfold Fam.start;rw [br,decide_eq_true (show 0<K.2.length by omega)];rfl
   rw [ap];refine JL.region (BW 0 (b7.Ah bb) L5 rfl rfl rfl ?_);refine B5 3 bP Z rfl fun ck bT bU bd=>AB rfl (fun ρ h=>FJ (vs:= [iV age,iV K.1,.slice a K.2.length c]) Cr AS (h _ _ rfl) (ED (off:=0) 2 bd rfl rfl)) (Rq rfl rfl rfl rfl rfl rfl rfl (b8 _ _ _ (bb.Ac bT) bU) ?_);exact JL.done (JL.out rfl (JO.collected 4 rfl bd rfl fun be=>JO.NM bi rfl rfl (JO.leaveD rfl func127 rfl (.inr rfl) Ku)))
  ·have ap:F.start j= .C8:=by unfold Fam.start;rw [br,decide_eq_false (show ¬0<K.2.length by omega)];rfl
   rw [ap];exact JL.skip (JL.out rfl (JO.collected 4 rfl Z rfl fun be=>JO.NM bi rfl rfl (JO.leaveD rfl func127 rfl (.inr rfl) Ku)))
end Pal
namespace Go.Proofs
abbrev Tryz.link:Go.Conc.Lib.WgLink:={add:=126,done:=128,wait:=132,relMerge:=139,disable:=140,enable:=141,inBubble:=142,associate:=143,fatal:=144,uOr:=145,uAdd:=146,raceRead:=147,uLoad:=148,uStore:=149,disassociate:=150,semrelease:=151,acquire:=157,isAssociated:=158,uCas:=159,raceWrite:=160,semacquire:=161,orU64:=170,addU64:=171,loadU64:=172,storeU64:=173,casU64:=177,tWgP:=189,tUP:=191,tAssoc:=192,tWg:=171,tAU:=168,tU64:=90,tUint:=156,tU32:=169,tPU32:=196,tPAU:=221,tPU64:=223,tNoCopy:=164,tANoCopy:=165,tAlign64:=166}
theorem Tryz.Pr:Go.Conc.Lib.WgLib Tryz.prog Tryz.link:=
 ⟨Tryz.func126,Tryz.func128,Tryz.func132,Tryz.func139,Tryz.func140,Tryz.func141,Tryz.func142,Tryz.func143,Tryz.func144,Tryz.func145,Tryz.func146,Tryz.func147,Tryz.func148,Tryz.func149,Tryz.func150,Tryz.func151,Tryz.func157,Tryz.func158,Tryz.func159,Tryz.func160,Tryz.func161,Tryz.func170,Tryz.func171,Tryz.func172,Tryz.func173,Tryz.func177,Tryz.underlying189,Tryz.runUnderlying189,Tryz.sizeOf189,Tryz.isAgg189,Tryz.zeroValue189,Tryz.underlying191,Tryz.runUnderlying191,Tryz.sizeOf191,Tryz.isAgg191,Tryz.zeroValue191,Tryz.underlying192,Tryz.runUnderlying192,Tryz.sizeOf192,Tryz.isAgg192,Tryz.zeroValue192,Tryz.underlying171,Tryz.runUnderlying171,Tryz.sizeOf171,Tryz.isAgg171,Tryz.zeroValue171,Tryz.underlying168,Tryz.runUnderlying168,Tryz.sizeOf168,Tryz.isAgg168,Tryz.zeroValue168,Tryz.underlying90,Tryz.runUnderlying90,Tryz.sizeOf90,Tryz.isAgg90,Tryz.zeroValue90,Tryz.underlying156,Tryz.runUnderlying156,Tryz.sizeOf156,Tryz.isAgg156,Tryz.zeroValue156,Tryz.underlying169,Tryz.runUnderlying169,Tryz.sizeOf169,Tryz.isAgg169,Tryz.zeroValue169,Tryz.underlying196,Tryz.runUnderlying196,Tryz.sizeOf196,Tryz.isAgg196,Tryz.zeroValue196,Tryz.underlying221,Tryz.runUnderlying221,Tryz.sizeOf221,Tryz.isAgg221,Tryz.zeroValue221,Tryz.underlying223,Tryz.runUnderlying223,Tryz.sizeOf223,Tryz.isAgg223,Tryz.zeroValue223,Tryz.underlying0,Tryz.runUnderlying0,Tryz.sizeOf0,Tryz.isAgg0,Tryz.zeroValue0,Tryz.underlying3,Tryz.runUnderlying3,Tryz.sizeOf3,Tryz.isAgg3,Tryz.zeroValue3,Tryz.underlying4,Tryz.runUnderlying4,Tryz.sizeOf4,Tryz.isAgg4,Tryz.zeroValue4,Tryz.underlying9,Tryz.runUnderlying9,Tryz.sizeOf9,Tryz.isAgg9,Tryz.zeroValue9,Tryz.underlying20,Tryz.runUnderlying20,Tryz.sizeOf20,Tryz.isAgg20,Tryz.zeroValue20,Tryz.underlying21,Tryz.runUnderlying21,Tryz.sizeOf21,Tryz.isAgg21,Tryz.zeroValue21,(by decide+kernel),(by decide+kernel)⟩
end Go.Proofs
namespace Pal
open Go Go.Conc Go.Proofs Go.Conc.Lib Go.ConcR.Gen
theorem VK{F:Fam}(O:F.n<2147483648){E:LH}{kc K:Nat}(U:At E kc K [.chan (some F.ch)]):Way Tryz.prog false (Stop Tryz.prog F .C9) (born Tryz.prog ⟨.fn (.func 131) [.pointer (some F.sA),pV kc K].toArray,#[]⟩) ⟨E,fun _=>none,false⟩:=by
 refine Q7 (fn:=Tryz.f131) (vs:= [.pointer (some F.sA),pV kc K]) Tryz.func131 rfl rfl (by simp) (Nat.le_of_ble_eq_true rfl) ?_;obtain⟨H,V⟩:∃H:LH,H=fun _=>none:=⟨_,rfl⟩;rw [← V];refine(?_:JL (BA Tryz.prog false) (Stop Tryz.prog F .C9) (baseD 131) Tryz.f131.ntmps (FM 0 [.pointer (some F.sA),pV kc K]) [] [.code _] [HW Tryz.prog] (Ao E H []));refine zg 2 rfl (JL.wait Tryz.Pr O rfl rfl rfl rfl rfl ?_);refine zg 2 rfl (BW 0 U L5 rfl rfl rfl ?_);refine Vw rfl rfl rfl rfl rfl rfl rfl (JL.done ?_);exact JL.out rfl (JO.leaveD rfl Tryz.func131 rfl (.inr rfl) Ku)
end Pal
namespace Pal
open Go Go.Conc Go.Proofs
open Go.Proofs.Tryz
open Go.Conc.Lib Go.ConcR.Gen
noncomputable def Jc:Code:=match Tryz.f102.body with | some (.seq _ (.seq _ (.seq _ (.seq (.seq _ (.block _ (.loop c))) _))))=>c | _=> .skip
theorem UD{F:Fam}(bD:F.n=13){E:LH}{k1 o2:Nat}{ap av a0:An}{a1 a2 a3:Nat}{a4:List Value}{O:BU}{lk:AI}(a6:At E k1 o2 (([sV ap O.1 a1,sV av O.2.1 a2]:List Value)++a4))(a7:Al (rL rI) E ap a1 O.1)(a8:Al (rL rI) E av a2 O.2.1)(a9:(rA 13 (rN .u16)).r E a4 O.2.2)(bb:Al Bp E a0 a3 lk){V Y Z ol kc ag:Nat}(bd:At E V Y [pV k1 o2])(be:At E Z ol [.slice a0 lk.length a3])(bi:At E kc ag [.chan (some F.ch)]){fuel:Nat}{qs:Nat→Int×List (Ce)}(bn:∀j,j<13→GC fuel O lk ((j:Nat):Int)=some (qs j))(bo:∀j,j<13→F.has j=decide (0<(qs j).2.length))(bp:∀j,j<13→∀E' a c,Al Dr E' a c (qs j).2→F.msg j (.agg #[iV ((j:Nat):Int),iV (qs j).1,.slice a (qs j).2.length c]) E'){j:Nat}(al:j<13){am H:LH}(hle:Le E am)(bq:Ax am H []){k:List Item}{cs:List Frame}
  (h:∀U,Le E U→Ax U H []→JL (BA Tryz.prog true) (Stop Tryz.prog F (F.DR j)) (base 102) Tryz.f102.ntmps [(2,pV V Y),(3,pV Z ol),(5,pV kc ag),(6,.pointer (some F.sA)),(11,iV ((j+1:Nat):Int))] [] (.inLoop Jc::k) cs (Ao U H [])):
  JL (BA Tryz.prog true) (Stop Tryz.prog F (.Fw j)) (base 102) Tryz.f102.ntmps [(2,pV V Y),(3,pV Z ol),(5,pV kc ag),(6,.pointer (some F.sA)),(11,iV ((j:Nat):Int))] [] (.code Jc:: .inLoop Jc::k) cs (Ao am H []):=by
 refine zg 5 rfl ?_;rw [decide_eq_true (show((j:Nat):Int)<13 by omega)];refine zg 7 rfl (Cz bq CM fun br bu=>?_);refine BM 0 bu AU fun bv=>?_;refine CV 0 bv rfl fun U bw bx bz=>DI (S':= []) (by simp) bz fun bA=>?_;have K:=hle.trans bw;refine zg 3 rfl (Vv Tryz.Pr rfl rfl rfl rfl rfl rfl ?_);refine zg 2 rfl (AB (v:= .func (.func 127) #[] ([.pointer (some F.sA),pV V Y,pV Z ol,pV br 0,pV kc ag]:List Value).toArray) rfl (fun ρ h=>IV (by simp) (by simp [h (.tmp 6) _ rfl,h (.tmp 2) _ rfl,h (.tmp 3) _ rfl,h (.tmp 7) _ rfl,h (.tmp 5) _ rfl])) ?_);have a5:=VY Tryz.Pr rfl (F:=F) (j:=j) (a6.Ah K) (a7.Ah K) (a8.Ah K) (Rp.Ah _ K a9) (bb.Ah K) (bd.Ah K) (be.Ah K) bx (bi.Ah K) (bn j al) (bo j al) (fun E' a c _ bB=>bp j al E' a c bB);refine Za (fi:= #[]) rfl rfl rfl rfl rfl rfl rfl (by first | exact a5 | (simp only [List.append_toArray,List.nil_append,Array.append_empty,Array.empty_append];exact a5)) ?_
 refine zg 3 rfl ?_;have bC:As (((j:Nat):Int)+1)=some (((j+1:Nat)):Int):=by unfold As;rw [if_pos (by omega)];simp
 refine Be bC rfl rfl rfl (zg 2 rfl ?_);exact Ay (h U K bA) rfl
theorem UL{F:Fam}(V:F.n=13){E:LH}{k1 o2:Nat}{am ap av:An}{a0 a1 a2:Nat}{a3:List Value}{K:BU}{lk:AI}(a6:At E k1 o2 (([sV am K.1 a0,sV ap K.2.1 a1]:List Value)++a3))(a7:Al (rL rI) E am a0 K.1)(a8:Al (rL rI) E ap a1 K.2.1)(a9:(rA 13 (rN .u16)).r E a3 K.2.2)(bb:Al Bp E av a2 lk){Y Z ag ol kc al:Nat}(bd:At E Y Z [pV k1 o2])(be:At E ag ol [.slice av lk.length a2])(bi:At E kc al [.chan (some F.ch)]){fuel:Nat}{qs:Nat→Int×List (Ce)}(bn:∀j,j<13→GC fuel K lk ((j:Nat):Int)=some (qs j))(bo:∀j,j<13→F.has j=decide (0<(qs j).2.length))(bp:∀j,j<13→∀E' a c,Al Dr E' a c (qs j).2→F.msg j (.agg #[iV ((j:Nat):Int),iV (qs j).1,.slice a (qs j).2.length c]) E'){H:LH}{k:List Item}{cs:List Frame}
  (h:∀O,Le E O→Ax O H []→JL (BA Tryz.prog true) (Stop Tryz.prog F .FP) (base 102) Tryz.f102.ntmps [(2,pV Y Z),(3,pV ag ol),(5,pV kc al),(6,.pointer (some F.sA)),(11,iV 13)] [] (.code Jc:: .inLoop Jc::k) cs (Ao O H [])):
  ∀(m j:Nat),j+m=13→0<m→∀U,Le E U→Ax U H []→JL (BA Tryz.prog true) (Stop Tryz.prog F (.Fw j)) (base 102) Tryz.f102.ntmps [(2,pV Y Z),(3,pV ag ol),(5,pV kc al),(6,.pointer (some F.sA)),(11,iV ((j:Nat):Int))] [] (.code Jc:: .inLoop Jc::k) cs (Ao U H []):=by
 intro m
 induction m with
 | zero=>intro j _ bq;cases bq
 | succ m br=>
  intro j bw _ U hle bu;refine UD V a6 a7 a8 a9 bb bd be bi bn bo bp (by omega) hle bu fun O a4 a5=>JL.again ?_;by_cases hm:m=0
  ·subst hm;have bv:j=12:=by omega
   subst bv;have e:F.DR 12= .FP:=by unfold Fam.DR;rw [V];rfl
   rw [e];exact h O a4 a5
  ·have e:F.DR j= .Fw (j+1):=by unfold Fam.DR;rw [V,if_neg (by omega)]
   rw [e];exact br (j+1) (by omega) (by omega) O a4 a5
end Pal
namespace Pal
open Go Go.Conc Go.Proofs
open Go.Proofs.Tryz
open Go.Conc.Lib Go.ConcR.Gen
noncomputable def Th:Code:=match Tryz.f102.body with | some (.seq _ (.seq _ (.seq _ (.seq _ (.seq _ (.seq _ (.seq (.seq _ (.block _ (.loop c))) _)))))))=>c | _=> .skip
def partOf(qs:Nat→Int×List (Ce))(k:Nat):(Bu):=(((k:Nat):Int),(qs k).1,(qs k).2)
theorem ZM{K:List Nat}{kk n:Nat}(O:kk<n)(U:kk ∉ K):((List.range n).filter (fun x=> !(K++ [kk]).contains x)).length<((List.range n).filter (fun x=> !K.contains x)).length:=by
 have e:(List.range n).filter (fun x=> !(K++ [kk]).contains x)=((List.range n).filter (fun x=> !K.contains x)).filter (fun x=>x != kk):=by
  rw [List.filter_filter];apply List.filter_congr;intro x _;by_cases V:x∈K <;> by_cases Y:x=kk <;> simp [V,Y]
 rw [e];apply List.length_filter_lt_length_iff_exists.2;exact⟨kk,by simp [O,U],by simp⟩
theorem U1{F:Fam}(ag:F.n=13){Q:GP}(a6:∀g s,(DJ Tryz.prog).ok Q g s→F.fin g s){qs:Nat→Int×List (Ce)}(a7:∀kk v E',F.msg kk v E'→∃a c,v= .agg #[iV ((kk:Nat):Int),iV (qs kk).1,.slice a (qs kk).2.length c]∧Al Dr E' a c (qs kk).2)
  {E H:LH} {k:List Item} {cs:List Frame}
  (a8:∀(K:List Nat) (V:LH) (a:An) (c:Nat) (g:Seg),Le E V→K.Nodup→(∀x∈K,x<13∧F.has x=true)→(∀x,x<13→F.has x=true→x∈K)→OL 133 Cw V a c g (K.map (partOf qs))→Ax V H [g]→JL (DJ Tryz.prog) Q (base 102) Tryz.f102.ntmps [(8,.slice a (K.map (partOf qs)).length c)] [] k cs (Ao V H [g])):
  ∀(m:Nat) (K:List Nat) (vs:List Value) (U:LH) (a:An) (c:Nat) (g:Seg),((List.range 13).filter (fun x=> !K.contains x)).length=m→K.Nodup→(∀x∈K,x<13∧F.has x=true)→K.length+m≤13→Le E U→OL 133 Cw U a c g (K.map (partOf qs))→Ax U H [g]→
   JL (BA Tryz.prog true) (Stop Tryz.prog F (.Cn K vs)) (base 102) Tryz.f102.ntmps [(8,.slice a (K.map (partOf qs)).length c),(18,.chan (some F.ch))] [] (.code Th:: .inLoop Th:: .inBlock 2::k) cs (Ao U H [g]):=by
 intro m
 induction m using Nat.strongRecOn with
 | _ m a9=>
  intro K vs U a c g hm al am hlen hle ap av;refine zg 2 rfl (Wg rfl rfl rfl rfl rfl rfl underlying162 Ie ?_ ?_)
  ·intro kk v E' Y bb a0 a1 bd be;rw [ag] at Y;obtain⟨bC,bD,rfl,bi⟩:=a7 kk v E' be;have bn:Ax E' H [g]:=av.up bd;refine(?_:JL (BA Tryz.prog true) (Stop Tryz.prog F (.Cn (K++ [kk]) (vs++ [_]))) (base 102) Tryz.f102.ntmps _ [] _ cs (Ao E' H [g]));refine zg 9 rfl (JS.alloc rfl rfl rfl bn Ie fun bE bo=>?_);refine BM 1 bo AS fun bp=>?_;refine CV 1 bp rfl fun bq Z br bu=>DI (S':= [g]) (by simp) bu fun bv=>zg 3 rfl (BQ br Cr AS rfl rfl ?_);have bw:(K.map (partOf qs)).length+1≤2 ^ 40:=by rw [List.length_map];omega
   refine Qc (pp:=Cw) (xv:=partOf qs kk) 0 rfl rfl rfl rfl (fun w=>rfl) rfl (fun w=>rfl) rfl rfl rfl underlying130 underlying130 underlying130 AS (CR type133) Ie rfl (by decide) (by decide) (by decide) (by decide) bw (ap.Ah (a1.trans Z)) ⟨_,_,rfl,rfl,⟨_,_,rfl,rfl,⟨_,_,rfl,bi.Ah Z⟩⟩⟩ bv rfl fun w a2 a3 g' a4 bx=>?_;have em:K.map (partOf qs)++ [partOf qs kk]=(K++ [kk]).map (partOf qs):=by simp
   rw [em] at a4;refine Ba (v:= .slice a2 ((K++ [kk]).map (partOf qs)).length a3) rfl rfl rfl (fun ρ h=>by rw [← em];exact Yl.assign (h _ _ rfl)) (zg 2 rfl ?_);refine JL.again ?_;have bz:((List.range 13).filter (fun x=> !(K++ [kk]).contains x)).length<m:=by rw [← hm];exact ZM Y a0
   exact Ay (a9 _ bz (K++ [kk]) (vs++ [_]) bq a2 a3 g' rfl (by rw [List.nodup_append];exact⟨al,by simp,by intro x O y a5;simp at a5;subst a5;intro e;exact a0 (e▸O)⟩) (by intro x O;simp at O;rcases O with O | rfl;exact am x O;exact⟨Y,bb⟩) (by simp only [List.length_append,List.length_cons,List.length_nil];omega) ((hle.trans a1).Ac Z) a4 bx) rfl
  ·intro bA T bB;refine a6 _ _ ?_;refine(?_:JL (DJ Tryz.prog) Q (base 102) Tryz.f102.ntmps _ [] _ cs (Ao U H [g])) T bB;exact zg 5 rfl (Ay (a8 K U a c g hle al am (fun x O hh=>bA x (by rw [ag];exact O) hh) ap av) rfl)
end Pal
namespace Pal
open Go Go.Conc Go.Proofs
open Go.Proofs.Tryz
variable {J:Judge Tryz.prog}{E:LH}
def SY:List Nat:= [0,1,2,2,3,3,3,3,4,4,4,4,4,4,4,4,5,5,5,5,5,5,5,5,5,5,5,5,5,5,5,5,6,6,6,6,6,6,6,6,6,6,6,6,6,6,6,6,6,6,6,6,6,6,6,6,6,6,6,6,6,6,6,6,7,7,7,7,7,7,7,7,7,7,7,7,7,7,7,7,7,7,7,7,7,7,7,7,7,7,7,7,7,7,7,7,7,7,7,7,7,7,7,7,7,7,7,7,7,7,7,7,7,7,7,7,7,7,7,7,7,7,7,7,7,7,7,7,8,8,8,8,8,8,8,8,8,8,8,8,8,8,8,8,8,8,8,8,8,8,8,8,8,8,8,8,8,8,8,8,8,8,8,8,8,8,8,8,8,8,8,8,8,8,8,8,8,8,8,8,8,8,8,8,8,8,8,8,8,8,8,8,8,8,8,8,8,8,8,8,8,8,8,8,8,8,8,8,8,8,8,8,8,8,8,8,8,8,8,8,8,8,8,8,8,8,8,8,8,8,8,8,8,8,8,8,8,8,8,8,8,8,8,8,8,8,8,8,8,8,8,8,8,8,8,8]
def f187(fuel:Nat)(p0:Nat):Option Int:= Option.bind (if(((4294967296):Nat):Int)≤(((p0):Nat):Int) then(some (p0>>>32,32)) else(some (p0,0))) fun K=> Option.bind (if(((65536):Nat):Int)≤(((K.1):Nat):Int) then((As (K.2+16)).bind fun V=> some (K.1>>>16,V)) else(some K)) fun O=> Option.bind (if(((256):Nat):Int)≤(((O.1):Nat):Int) then((As (O.2+8)).bind fun Y=> some (O.1>>>8,Y)) else(some O)) fun U=> (LK SY (((((U.1) % 256):Nat):Int))).bind fun Z=> (As (((Z):Nat):Int)).bind fun ag=> (As (U.2+ag)).bind fun al=> some al
theorem ZE{p0:Nat}{fuel:Nat}{r:Int}(V:f187 fuel p0=some r):AL J 187 [.int .u64 ((p0:Nat):Int)] E [] (fun w E' B'=>w=iV r∧B'= []):=by
 refine A4 func187 fun Q bH cs H Y av=>?_;unfold f187 at V;obtain⟨K,a0,a1⟩:=bs V;refine zg 10 rfl (C7 [] [(0,.int .u64 ((K.1:Nat):Int)),(2,iV K.2)] (fun bI a2 Z=>?_) (fun ag=>?_))
 ·obtain⟨O,a3,a4⟩:=bs a1;refine zg 6 rfl (C7 [] [(0,.int .u64 ((O.1:Nat):Int)),(2,iV O.2)] (fun bJ a5 al=>?_) (fun am=>?_))
  ·obtain⟨U,a6,a7⟩:=bs a4;refine zg 6 rfl (C7 [] [(0,.int .u64 ((U.1:Nat):Int)),(2,iV U.2)] (fun bK a8 a9=>?_) (fun ap=>?_))
   ·refine zg 4 rfl (AB (v:= .int .u8 (((U.1) % 256:Nat):Int)) rfl (fun ρ h=>Yn underlying90 underlying5 (h _ _ rfl)) ?_);obtain⟨bb,bd,be⟩:=bs a7;refine AB (v:= .int .u8 ((bb:Nat):Int)) rfl (fun ρ h=>Oq (l:=SY) (by decide+kernel) underlying9 (h _ _ rfl) (h _ _ rfl) bd) ?_;obtain⟨bi,bn,bo⟩:=bs be;refine AB (v:=iV bi) rfl (fun ρ h=>R6 underlying5 underlying3 (h _ _ rfl) bn) ?_;obtain⟨bL,bp,bq⟩:=bs bo;refine Be bp rfl rfl rfl (zg 2 rfl ?_);obtain rfl:=oi bq;exact AD func187 rfl rfl (av ((a2.Ac a5).Ac a8) rfl ⟨rfl,rfl⟩ a9)
   ·refine AN a6 (fun br bu=>?_) (fun br bv=>?_)
    ·refine zg 3 rfl (AB (v:= .int .u64 ((O.1>>>8:Nat):Int)) rfl (fun ρ h=>JF 8 (h _ _ rfl) (h _ _ rfl) (by decide)) ?_);obtain⟨bM,bw,bx⟩:=bs bu;refine zg 4 rfl (Be bw rfl rfl rfl ?_);refine zg 2 rfl ?_;obtain rfl:=oi bx;exact ap Ar al rfl
    ·refine JL.skip ?_;obtain rfl:=oi bv;exact ap Ar al rfl
  ·refine AN a3 (fun bz bA=>?_) (fun bz bB=>?_)
   ·refine zg 3 rfl (AB (v:= .int .u64 ((K.1>>>16:Nat):Int)) rfl (fun ρ h=>JF 16 (h _ _ rfl) (h _ _ rfl) (by decide)) ?_);obtain⟨bN,bC,bD⟩:=bs bA;refine zg 4 rfl (Be bC rfl rfl rfl ?_);refine zg 2 rfl ?_;obtain rfl:=oi bD;exact am Ar Z rfl
   ·refine JL.skip ?_;obtain rfl:=oi bB;exact am Ar Z rfl
 ·refine AN a0 (fun bE bF=>?_) (fun bE bG=>?_)
  ·refine zg 3 rfl (AB (v:= .int .u64 ((p0>>>32:Nat):Int)) rfl (fun ρ h=>JF 32 (h _ _ rfl) (h _ _ rfl) (by decide)) ?_);refine zg 5 rfl ?_;obtain rfl:=oi bF;exact ag Ar Y rfl
  ·refine JL.skip ?_;obtain rfl:=oi bG;exact ag Ar Y rfl
def f163(fuel:Nat)(p0:Nat):Option Int:= (f187 fuel p0).bind fun K=> some K
theorem SB{p0:Nat}{fuel:Nat}{r:Int}(K:f163 fuel p0=some r):AL J 163 [.int .u64 ((p0:Nat):Int)] E [] (fun w E' B'=>w=iV r∧B'= []):=by
 refine A4 func163 fun Q al cs H O U=>?_;unfold f163 at K;obtain⟨am,V,Y⟩:=bs K;refine zg 10 rfl (BD (ZE V) rfl rfl (AR func187 rfl) O fun ap Z ag=>?_);refine zg 2 rfl ?_;obtain rfl:=oi Y;exact AD func163 rfl rfl (U Z rfl ⟨rfl,rfl⟩ ag)
def f134(fuel:Nat)(p0:Bu)(p1:Bu):Option Int:= (As (p0.1 - p1.1)).bind fun K=> some K
theorem G4{K:An}{c2:Nat}{O:An}{U:Nat}{p0:Bu}{p1:Bu}(a3:Al Dr E K c2 p0.2.2)(a4:Al Dr E O U p1.2.2){fuel:Nat}{r:Int}(V:f134 fuel p0 p1=some r):AL J 134 [.agg #[iV p0.1,iV p0.2.1,sV K p0.2.2 c2],.agg #[iV p1.1,iV p1.2.1,sV O p1.2.2 U]] E [] (fun w E' B'=>w=iV r∧B'= []):=by
 refine A4 func134 fun Q a5 cs H Z ag=>?_;unfold f134 at V;refine zg 2 rfl (B4 Z fun a6 a7 al am ap=>?_);refine B4 ap fun a8 a9 Y av a0=>?_;refine zg 4 rfl (JL.fl 0 (am.Ah Y) underlying133 AU Bv ?_);refine JL.fl 0 av underlying133 AU Bv ?_;obtain⟨bb,a1,a2⟩:=bs V;refine Ci a1 rfl rfl rfl (zg 2 rfl ?_);obtain rfl:=oi a2;exact AD func134 rfl rfl (ag (al.Ac Y) rfl ⟨rfl,rfl⟩ a0)
def JJ(fuel:Nat)(p1:Int)(K:Int×(List Bu)):Option (Bi (Int×(List Bu)) ((List Bu))):= Option.bind (if p1<K.1 then((ix K.2 K.1).bind fun V=> (As (K.1 - 1)).bind fun Y=> (ix K.2 Y).bind fun Z=> (f134 fuel V Z).bind fun ag=> some (decide (ag<0))) else(some false)) fun al=> if al=true then((As (K.1 - 1)).bind fun O=> (As (K.1 - 1)).bind fun am=> (ix K.2 am).bind fun U=> (ix K.2 K.1).bind fun ap=> (ix (K.2.set (Int.toNat K.1) U) O).bind fun a0=> (As (K.1 - 1)).bind fun av=> some (.more (av,((K.2.set (Int.toNat K.1) U).set (Int.toNat O) ap)))) else(some (.done K.2))
def I5(fuel:Nat)(p1:Int)(p2:Int)(K:Int×(List Bu)):Option (Bi (Int×(List Bu)) ((List Bu))):= if K.1<p2 then(Option.bind (iter (JJ fuel p1) fuel K) fun O=> (As (K.1+1)).bind fun U=> some (.more (U,O))) else(some (.done K.2))
def f178(fuel:Nat)(p0:List Bu)(p1:Int)(p2:Int):Option ((List Bu)):= (As (p1+1)).bind fun K=> Option.bind (iter (I5 fuel p1 p2) fuel (K,p0)) fun O=> some O
theorem Sp{K:Nat}{U:Nat}{V:Nat}{a8:Array Value}{p0:List (Bu)}{p1:Int}{p2:Int}(hW:WL 133 Cw E K U V a8 p0){fuel:Nat}{r:(List Bu)}(br:f178 fuel p0 p1 p2=some r):AL J 178 [.slice (AZ K) V U,iV p1,iV p2,(fV 134)] E [(K,.cells a8 133 (0,0))] (fun w E' B'=>∃(bu:Array Value),w= .tuple #[]∧B'= [(K,.cells bu 133 (0,0))]∧WL 133 Cw E' K U V bu r):=by
 refine A4 func178 fun Q cY cs H bO bP=>?_;unfold f178 at br;obtain⟨cZ,bQ,bR⟩:=bs br;refine zg 3 rfl (Be bQ rfl rfl rfl ?_);obtain⟨bS,bT,bU⟩:=bs bR;refine zg 2 rfl (Br (fun L s=>∃(a9:LH) (f17:Array Value),Jn E H a9 [bX K f17 133] [] L s (WL 133 Cw a9 K U V f17 bS)) ?_ ?_)
 ·rintro _ _ ⟨a9,f17,rfl,rfl,bV,bW,bY⟩;obtain rfl:=oi bU;exact JL.fin (v:= .tuple #[]) rfl rfl (Cd.list func178 rfl (vs:= []) trivial) (bP bV rfl ⟨f17,rfl,(by first | rfl | simp | (simp [Value.cells])),bY⟩ bW)
 ·intro bZ;refine JL.block (CN bT (fun L s am=>∃(al:LH) (f25:Array Value),Jn E H al [bX K f25 133] [(0,.slice (AZ K) V U),(1,iV p1),(2,iV p2),(3,(fV 134)),(8,iV am.1)] L s (WL 133 Cw al K U V f25 am.2)) ⟨E,a8,rfl,rfl,Ar,bO,hW⟩ ?_);rintro _ _ am ⟨al,f25,rfl,rfl,bv,bw,bx⟩ b0 ⟨c0,bb⟩ b1;have bz:=bb;unfold I5 at bz;refine zg 7 rfl (AN bz (fun b2 b3=>?_) (fun b2 b4=>?_))
  ·obtain⟨bA,b5,b6⟩:=bs b3;refine zg 8 rfl (Br (fun L s=>∃(a4:LH) (f48:Array Value),Jn al H a4 [bX K f48 133] [(0,.slice (AZ K) V U),(1,iV p1),(2,iV p2),(3,(fV 134)),(8,iV am.1)] L s (WL 133 Cw a4 K U V f48 bA)) ?_ ?_)
   ·rintro _ _ ⟨a4,f48,rfl,rfl,b7,b8,b9⟩;obtain⟨ca,cb,cc⟩:=bs b6;refine zg 3 rfl (Be cb rfl rfl rfl ?_);refine zg 2 rfl ?_;obtain rfl:=oi cc;exact Ay (b1 _ _ (ca,bA) ⟨a4,f48,rfl,rfl,(bv.Ac b7),b8,b9⟩ bb) rfl
   ·intro cd;refine JL.block (CN b5 (fun L s ag=>∃(a1:LH) (f58:Array Value),Jn al H a1 [bX K f58 133] [(0,.slice (AZ K) V U),(1,iV p1),(2,iV p2),(3,(fV 134)),(8,iV am.1),(9,iV ag.1)] L s (WL 133 Cw a1 K U V f58 ag.2)) ⟨al,f25,rfl,rfl,Ar,bw,bx⟩ ?_);rintro _ _ ag ⟨a1,f58,rfl,rfl,bB,a2,O⟩ ce ⟨c1,bd⟩ cf;have bC:=bd;unfold JJ at bC;refine zg 2 rfl (Di 17 [K] ⟨⟨0,_,rfl⟩,trivial⟩ a2 fun ht=>?_);refine A2 ht rfl [0,1,2,3] rfl ?_;obtain⟨cg,bD,ci⟩:=bs bC;refine EO 0 #[true,true,true,true,true,true,true,true,true,true,true,true,true,true,true,true,true] (fun L s=>∃(a5:LH),Jm a1 H a5 [bX K f58 133] [(0,.slice (AZ K) V U),(1,iV p1),(2,iV p2),(3,(fV 134)),(8,iV am.1),(9,iV ag.1),(34,.bool cg)] L s) ?_ ?_
    ·rintro _ _ ⟨a5,rfl,rfl,ap,a6⟩;refine AY.fin (by decide+kernel) (BF ci (fun ck cm=>?_) (fun ck cn=>?_))
     ·refine zg 3 rfl (G1 [15,17] [K] mixed rfl ?_);refine Bt 0 rfl rfl (Bt 1 rfl rfl ?_);refine Bt 2 rfl rfl (Bt 3 rfl rfl ?_);obtain⟨bE,co,cp⟩:=bs cm;refine GJ 4 true rfl rfl (fun ρ h s' hs=>C5 (h _ _ rfl) (h _ _ rfl) co) (Bt 5 rfl rfl ?_);refine Bt 6 rfl rfl ?_;obtain⟨c2,cq,cr⟩:=bs cp;refine GJ 7 true rfl rfl (fun ρ h s' hs=>C5 (h _ _ rfl) (h _ _ rfl) cq) ?_;obtain⟨Y,bF,ct⟩:=bs cr;obtain⟨_,⟨_,_,rfl,rfl,⟨_,_,rfl,rfl,⟨be,bi,rfl,cu⟩⟩⟩,cv⟩:=WL.at (O.Ah ap) bF;refine Cx 8 O.2 bF underlying130 AS ?_;refine Ec 9 [iV Y.1,iV Y.2.1,sV be Y.2.2 bi] 0 a6 cv Cr AS ?_;refine Bt 10 rfl rfl (Bt 11 rfl rfl ?_);obtain⟨Z,a7,cw⟩:=bs ct;obtain⟨_,⟨_,_,rfl,rfl,⟨_,_,rfl,rfl,⟨bn,bo,rfl,cy⟩⟩⟩,cz⟩:=WL.at (O.Ah ap) a7;refine Cx 12 O.2 a7 underlying130 AS ?_;refine Ec 13 [iV Z.1,iV Z.2.1,sV bn Z.2.2 bo] 0 a6 cz Cr AS ?_;refine Cx 14 O.2 a7 underlying130 AS ?_;have a3:=WL.put (x':=Y) (ws':= [iV Y.1,iV Y.2.1,sV be Y.2.2 bi]) (O.Ah ap) O.2 a7 ⟨_,_,rfl,rfl,⟨_,_,rfl,rfl,⟨_,_,rfl,cu⟩⟩⟩;refine Ed 15 0 a6 AS a3.2 fun cA=>?_;obtain⟨c3,bp,cB⟩:=bs cw;obtain⟨_,⟨_,_,rfl,rfl,⟨_,_,rfl,rfl,⟨c4,c5,rfl,c6⟩⟩⟩,c7⟩:=WL.at a3.1 bp;refine Cx 16 (a3.1).2 bp underlying130 AS ?_;have bG:=WL.put (x':=Z) (ws':= [iV Z.1,iV Z.2.1,sV bn Z.2.2 bo]) a3.1 (a3.1).2 bp ⟨_,_,rfl,rfl,⟨_,_,rfl,rfl,⟨_,_,rfl,cy⟩⟩⟩;refine Ed 17 0 cA AS bG.2 fun cC=>?_;refine JB.fin (by decide+kernel) ?_;obtain⟨cD,cE,cF⟩:=bs cB;refine zg 3 rfl (Ci cE rfl rfl rfl ?_);refine zg 2 rfl ?_;obtain rfl:=oi cF;exact Ay (cf _ _ (cD,((ag.2.set (Int.toNat ag.1) Y).set (Int.toNat bE) Z)) ⟨a5,(AX (AX f58 (Int.toNat (ag.1)*3) [iV Y.1,iV Y.2.1,sV be Y.2.2 bi]) (Int.toNat (bE)*3) [iV Z.1,iV Z.2.1,sV bn Z.2.2 bo]),rfl,rfl,(bB.Ac ap),cC,bG.1⟩ bd) rfl
     ·refine JL.exit rfl ?_;obtain rfl:=oi cn;obtain rfl:=ce _ bd;exact Ay (cd _ _ ⟨a5,f58,rfl,rfl,(bB.Ac ap),a6,(O.Ah ap)⟩) rfl
    ·intro bH;refine FI (q:=p1<ag.1) (i:=21) rfl (fun bq=>?_) (fun bq=>?_)
     ·have cG:=ip bD bq;refine A2 ht rfl [4,5,6] rfl ?_;obtain⟨av,bI,cH⟩:=bs cG;obtain⟨_,⟨_,_,rfl,rfl,⟨_,_,rfl,rfl,⟨bJ,bK,rfl,cI⟩⟩⟩,cJ⟩:=WL.at O bI;refine F7 7 ht (O).2 bI underlying130 AS ?_;refine DZ 8 ht [iV av.1,iV av.2.1,sV bJ av.2.2 bK] 0 a2 cJ Cr AS ?_;refine A2 ht rfl [9,10] rfl ?_;obtain⟨c8,cK,cM⟩:=bs cH;refine Bx 11 ht rfl rfl (fun ρ h s' hs=>C5 (h _ _ rfl) (h _ _ rfl) cK) ?_;obtain⟨a0,bL,cN⟩:=bs cM;obtain⟨_,⟨_,_,rfl,rfl,⟨_,_,rfl,rfl,⟨bM,bN,rfl,cO⟩⟩⟩,cP⟩:=WL.at O bL;refine F7 12 ht (O).2 bL underlying130 AS ?_;refine DZ 13 ht [iV a0.1,iV a0.2.1,sV bM a0.2.2 bN] 0 a2 cP Cr AS ?_;obtain⟨c9,cQ,cR⟩:=bs cN;refine HO (i:=14) ⟨⟨0,_,rfl⟩,trivial⟩ (vs:= [.agg #[iV av.1,iV av.2.1,sV bJ av.2.2 bK],.agg #[iV a0.1,iV a0.2.1,sV bM a0.2.2 bN]]) (G4 cI cO cQ) (by decide+kernel) rfl rfl rfl rfl GU rfl a2 ?_;rintro _ cT _ cV ⟨rfl,rfl⟩ cW;refine A2 ht rfl [15,16] rfl ?_;obtain rfl:=oi cR;refine C4 ?_ (bH _ _ ⟨cT,rfl,rfl,cV,cW⟩);exact⟨rfl,rfl,rfl,rfl,rfl,rfl,rfl,trivial⟩
     ·have cX:=im bD bq;refine A2 ht rfl [4,5,6,7,8,9,10,11,12,13,14,15,16] rfl ?_;obtain rfl:=oi cX;refine C4 ?_ (bH _ _ ⟨a1,rfl,rfl,Ar,a2⟩);exact⟨rfl,rfl,rfl,rfl,rfl,rfl,rfl,trivial⟩
  ·refine JL.exit rfl ?_;obtain rfl:=oi b4;obtain rfl:=b0 _ bb;exact Ay (bZ _ _ ⟨al,f25,rfl,rfl,bv,bw,bx⟩) rfl
def f200(fuel:Nat)(p0:List Bu)(p1:Int)(p2:Int)(p3:Int):Option (Int×Int×Int):= (ix p0 p2).bind fun K=> (ix p0 p1).bind fun O=> (f134 fuel K O).bind fun U=> if U<0 then((As (p3+1)).bind fun V=> some (p2,p1,V)) else(some (p1,p2,p3))
theorem O1{K:Nat}{ag:Nat}{al:Nat}{Y:Array Value}{bk:Nat}{p0:List (Bu)}{p1:Int}{p2:Int}{p3:Int}(hW:WL 133 Cw E K ag al Y p0){fuel:Nat}{r:Int×Int×Int}(am:f200 fuel p0 p1 p2 p3=some r):AL J 200 [.slice (AZ K) al ag,iV p1,iV p2,pV bk 0,(fV 134)] E ([(bk,.cells #[iV p3] 3 (0,0))]++ [(K,.cells Y 133 (0,0))]) (fun w E' B'=>w= .tuple #[iV r.1,iV r.2.1]∧B'= [(bk,.cells #[iV r.2.2] 3 (0,0))]++ [(K,.cells Y 133 (0,0))]):=by
 refine A4 func200 fun Q bu cs H O ap=>?_;unfold f200 at am;refine DI (S':= [[(bk,.cells #[iV p3] 3 (0,0))],[(K,.cells Y 133 (0,0))]]) (by simp) O fun O=>zg 7 rfl (Di 9 [K] ⟨⟨1,_,rfl⟩,trivial⟩ O fun ht=>?_);refine A2 ht rfl [0,1,2] rfl ?_;obtain⟨U,av,a5⟩:=bs am;obtain⟨_,⟨_,_,rfl,rfl,⟨_,_,rfl,rfl,⟨a0,c4,rfl,a6⟩⟩⟩,a7⟩:=WL.at hW av;refine F7 3 ht (hW).2 av underlying130 AS ?_;refine DZ 4 ht [iV U.1,iV U.2.1,sV a0 U.2.2 c4] 1 O a7 Cr AS ?_;refine A2 ht rfl [5,6] rfl ?_;obtain⟨V,a1,a8⟩:=bs a5;obtain⟨_,⟨_,_,rfl,rfl,⟨_,_,rfl,rfl,⟨a2,a3,rfl,a9⟩⟩⟩,bb⟩:=WL.at hW a1;refine F7 7 ht (hW).2 a1 underlying130 AS ?_;refine DZ 8 ht [iV V.1,iV V.2.1,sV a2 V.2.2 a3] 1 O bb Cr AS ?_;refine Cg [9,10] ?_;obtain⟨bv,bd,be⟩:=bs a8;refine KF (vs:= [.agg #[iV U.1,iV U.2.1,sV a0 U.2.2 c4],.agg #[iV V.1,iV V.2.1,sV a2 V.2.2 a3]]) (G4 a6 a9 bd) rfl rfl rfl rfl GU rfl O ?_;rintro _ bw _ a4 ⟨rfl,rfl⟩ Z;refine zg 2 rfl (AN be (fun bi bn=>?_) (fun bi bo=>?_))
 ·refine zg 4 rfl (AB (v:=iV p3) rfl (fun ρ h=>Yl.load Bv (h _ _ rfl) (DW (j:=0) (off:=0) Z rfl rfl)) ?_);obtain⟨bx,bp,bq⟩:=bs bn;refine Be bp rfl rfl rfl (zg 1 rfl ?_);refine BM 0 Z AU fun br=>?_;refine zg 8 rfl ?_;obtain rfl:=oi bq;exact AD func200 rfl rfl (ap a4 rfl ⟨rfl,(by first | rfl | simp | (simp [Value.cells]))⟩ br)
 ·refine zg 8 rfl ?_;obtain rfl:=oi bo;exact AD func200 rfl rfl (ap a4 rfl ⟨rfl,(by first | rfl | simp | (simp [Value.cells]))⟩ Z)
def f197(fuel:Nat)(p0:List Bu)(p1:Int)(p2:Int)(p3:Int)(p4:Int):Option (Int×Int):= (f200 fuel p0 p1 p2 p4).bind fun K=> (f200 fuel p0 K.2.1 p3 K.2.2).bind fun O=> (f200 fuel p0 K.1 O.1 O.2.2).bind fun U=> some U.2
theorem ZN{K:Nat}{Y:Nat}{Z:Nat}{O:Array Value}{bk:Nat}{p0:List (Bu)}{p1:Int}{p2:Int}{p3:Int}{p4:Int}(hW:WL 133 Cw E K Y Z O p0){fuel:Nat}{r:Int×Int}(ag:f197 fuel p0 p1 p2 p3 p4=some r):AL J 197 [.slice (AZ K) Z Y,iV p1,iV p2,iV p3,pV bk 0,(fV 134)] E ([(bk,.cells #[iV p4] 3 (0,0))]++ [(K,.cells O 133 (0,0))]) (fun w E' B'=>w=iV r.1∧B'= [(bk,.cells #[iV r.2] 3 (0,0))]++ [(K,.cells O 133 (0,0))]):=by
 refine A4 func197 fun Q bw cs H U ap=>?_;unfold f197 at ag;refine DI (S':= [[(bk,.cells #[iV p4] 3 (0,0))],[(K,.cells O 133 (0,0))]]) (by simp) U fun U=>?_;obtain⟨av,a0,a1⟩:=bs ag;refine zg 11 rfl (KH 0 1 rfl rfl U fun a2=>?_);refine B6 0 (O1 hW a0) rfl rfl N4 a2 rfl ?_;rintro _ bx _ V ⟨rfl,rfl⟩ a3;refine EP 0 rfl a3 fun a4=>Cs (S':= [[(bk,.cells #[iV av.2.2] 3 (0,0))],[],[(K,.cells O 133 (0,0))]]) rfl a4 fun a5=>?_;obtain⟨a6,a7,a8⟩:=bs a1;refine zg 13 rfl (KH 0 2 rfl rfl a5 fun a9=>?_);refine B6 0 (O1 (hW.Ah V) a7) rfl rfl N4 a9 rfl ?_;rintro _ bz _ al ⟨rfl,rfl⟩ bb;refine EP 0 rfl bb fun bd=>Cs (S':= [[(bk,.cells #[iV a6.2.2] 3 (0,0))],[],[],[(K,.cells O 133 (0,0))]]) rfl bd fun be=>?_;obtain⟨am,bi,bn⟩:=bs a8;refine zg 13 rfl (KH 0 3 rfl rfl be fun bo=>?_);refine B6 0 (O1 (hW.Ah (V.Ac al)) bi) rfl rfl N4 bo rfl ?_;rintro _ bA _ bp ⟨rfl,rfl⟩ bq;refine EP 0 rfl bq fun br=>Cs (S':= [[(bk,.cells #[iV am.2.2] 3 (0,0))],[],[],[],[(K,.cells O 133 (0,0))]]) rfl br fun bu=>zg 11 rfl (Cs (S':= [[(bk,.cells #[iV am.2.2] 3 (0,0))],[],[],[],[(K,.cells O 133 (0,0))]]) rfl bu fun bv=>?_);obtain rfl:=oi bn;exact AD func197 rfl rfl (ap ((V.Ac al).Ac bp) rfl ⟨rfl,(by first | rfl | simp | (simp [Value.cells]))⟩ bv)
def f181(fuel:Nat)(p0:List Bu)(p1:Int)(p2:Int):Option (Int×Int):= (As (p2 - p1)).bind fun K=> (Hz K (4)).bind fun V=> (As (V*1)).bind fun Y=> (As (p1+Y)).bind fun Z=> (Hz K (4)).bind fun ag=> (As (ag*2)).bind fun al=> (As (p1+al)).bind fun U=> (Hz K (4)).bind fun am=> (As (am*3)).bind fun ap=> (As (p1+ap)).bind fun av=> Option.bind (if 8≤K then(Option.bind (if 50≤K then(none) else(some ())) fun a1=> (f197 fuel p0 Z U av 0).bind fun a0=> some a0) else(some (U,0))) fun O=> if O.2=0 then(some (O.1,1)) else(if O.2=12 then(some (O.1,2)) else(some (O.1,0)))
theorem SD{K:Nat}{Y:Nat}{Z:Nat}{O:Array Value}{p0:List (Bu)}{p1:Int}{p2:Int}(hW:WL 133 Cw E K Y Z O p0){fuel:Nat}{r:Int×Int}(ap:f181 fuel p0 p1 p2=some r):AL J 181 [.slice (AZ K) Z Y,iV p1,iV p2,(fV 134)] E [(K,.cells O 133 (0,0))] (fun w E' B'=>w= .tuple #[iV r.1,iV r.2]∧B'= [(K,.cells O 133 (0,0))]):=by
 refine A4 func181 fun Q ca cs H a2 ag=>?_;unfold f181 at ap;obtain⟨cb,a3,a4⟩:=bs ap;refine zg 9 rfl (Ci a3 rfl rfl rfl ?_);refine zg 4 rfl (Cz a2 CM fun U av=>?_);obtain⟨a5,a6,a7⟩:=bs a4;refine zg 5 rfl (AB (v:=iV a5) rfl (fun ρ h=>K1 (h _ _ rfl) (h _ _ rfl) a6) ?_);obtain⟨cc,a8,a9⟩:=bs a7;refine AB rfl (fun ρ h=>K7 (h _ _ rfl) (h _ _ rfl) a8) ?_;obtain⟨bb,bd,be⟩:=bs a9;refine Be bd rfl rfl rfl ?_;obtain⟨bi,bn,bo⟩:=bs be;refine zg 6 rfl (AB (v:=iV bi) rfl (fun ρ h=>K1 (h _ _ rfl) (h _ _ rfl) bn) ?_);obtain⟨cd,bp,bq⟩:=bs bo;refine AB rfl (fun ρ h=>K7 (h _ _ rfl) (h _ _ rfl) bp) ?_;obtain⟨br,bu,bv⟩:=bs bq;refine Be bu rfl rfl rfl ?_;obtain⟨bw,bx,bz⟩:=bs bv;refine zg 6 rfl (AB (v:=iV bw) rfl (fun ρ h=>K1 (h _ _ rfl) (h _ _ rfl) bx) ?_);obtain⟨ce,bA,bB⟩:=bs bz;refine AB rfl (fun ρ h=>K7 (h _ _ rfl) (h _ _ rfl) bA) ?_;obtain⟨bC,bD,bE⟩:=bs bB;refine Be bD rfl rfl rfl ?_;obtain⟨al,bF,bG⟩:=bs bE;refine zg 8 rfl (C7 [bX K O 133,bX U #[iV al.2] 3] [(11,pV U 0),(13,iV al.1)] (fun cf am V=>?_) (fun a0=>?_))
 ·refine zg 2 rfl (AB (v:=iV al.2) rfl (fun ρ h=>Yl.load Bv (h _ _ rfl) (DW (j:=1) (off:=0) V rfl rfl)) ?_);refine zg 7 rfl (AN bG (fun bH bI=>?_) (fun bH bJ=>?_))
  ·refine zg 6 rfl (JS.drop 1 V rfl fun bK=>?_);obtain rfl:=oi bI;exact AD func181 rfl rfl (ag am rfl ⟨rfl,(by first | rfl | simp | (simp [Value.cells]))⟩ bK)
  ·refine zg 5 rfl (AN bJ (fun bL bM=>?_) (fun bL bN=>?_))
   ·refine zg 6 rfl (JS.drop 1 V rfl fun bO=>?_);obtain rfl:=oi bM;exact AD func181 rfl rfl (ag am rfl ⟨rfl,(by first | rfl | simp | (simp [Value.cells]))⟩ bO)
   ·refine zg 6 rfl (JS.drop 1 V rfl fun bP=>?_);obtain rfl:=oi bN;exact AD func181 rfl rfl (ag am rfl ⟨rfl,(by first | rfl | simp | (simp [Value.cells]))⟩ bP)
 ·refine AN bF (fun bQ bR=>?_) (fun bQ bS=>?_)
  ·obtain⟨cg,bT,bU⟩:=bs bR;refine zg 6 rfl (C7 [bX K O 133,bX U #[iV 0] 3] [(0,.slice (AZ K) Z Y),(3,(fV 134)),(8,iV 0),(9,iV 0),(11,pV U 0),(12,iV bb),(13,iV br),(14,iV bC)] (fun ci a1 bV=>?_) (fun bW=>?_))
   ·obtain⟨bY,bZ,b0⟩:=bs bU;refine zg 6 rfl (KH 1 0 rfl rfl bV fun b1=>?_);refine B6 1 (ZN (hW.Ah a1) bZ) rfl rfl (AR func197 rfl) b1 rfl ?_;rintro _ ck _ b2 ⟨rfl,rfl⟩ b3;refine EP 1 rfl b3 fun b4=>Cs (S':= [[],[(U,.cells #[iV bY.2] 3 (0,0))],[(K,.cells O 133 (0,0))]]) rfl b4 fun b5=>zg 2 rfl (JS.swap 1 2 rfl rfl rfl b5 fun b6=>?_);obtain rfl:=oi b0;exact a0 (a1.Ac b2) b6 rfl
   ·refine AN bT (fun b7 b8=>?_) (fun b7 b9=>?_)
    ·refine zg 5 rfl ?_;cases b8
    ·refine JL.skip ?_;obtain rfl:=oi b9;exact bW Ar av rfl
  ·refine JL.skip ?_;obtain rfl:=oi bS;exact a0 Ar av rfl
end Pal
namespace Pal
open Go Go.Conc Go.Proofs
open Go.Proofs.Tryz
variable {J:Judge Tryz.prog}{E:LH}
def HQ(fuel:Nat)(K:Int×Int×(List Bu)):Option (Bi (Int×Int×(List Bu)) ((List Bu))):= if K.1<K.2.1 then((ix K.2.2 K.2.1).bind fun O=> (ix K.2.2 K.1).bind fun U=> (As (K.1+1)).bind fun V=> (As (K.2.1 - 1)).bind fun Y=> some (.more (V,Y,((K.2.2.set (Int.toNat K.1) O).set (Int.toNat K.2.1) U)))) else(some (.done K.2.2))
def f182(fuel:Nat)(p0:List Bu)(p1:Int)(p2:Int):Option ((List Bu)):= (As (p2 - 1)).bind fun K=> Option.bind (iter (HQ fuel) fuel (p1,K,p0)) fun O=> some O
theorem SM{K:Nat}{Z:Nat}{ag:Nat}{a0:Array Value}{p0:List (Bu)}{p1:Int}{p2:Int}(hW:WL 133 Cw E K Z ag a0 p0){fuel:Nat}{r:(List Bu)}(a7:f182 fuel p0 p1 p2=some r):AL J 182 [.slice (AZ K) ag Z,iV p1,iV p2,(fV 134)] E [(K,.cells a0 133 (0,0))] (fun w E' B'=>∃(a8:Array Value),w= .tuple #[]∧B'= [(K,.cells a8 133 (0,0))]∧WL 133 Cw E' K Z ag a8 r):=by
 refine A4 func182 fun Q bT cs H bi bn=>?_;unfold f182 at a7;obtain⟨bU,bo,bp⟩:=bs a7;refine zg 8 rfl (Ci bo rfl rfl rfl ?_);obtain⟨bq,br,bu⟩:=bs bp;refine zg 2 rfl (Br (fun L s=>∃(a1:LH) (f17:Array Value),Jn E H a1 [bX K f17 133] [] L s (WL 133 Cw a1 K Z ag f17 bq)) ?_ ?_)
 ·rintro _ _ ⟨a1,f17,rfl,rfl,bv,bw,bx⟩;obtain rfl:=oi bu;exact JL.fin (v:= .tuple #[]) rfl rfl (Cd.list func182 rfl (vs:= []) trivial) (bn bv rfl ⟨f17,rfl,(by first | rfl | simp | (simp [Value.cells])),bx⟩ bw)
 ·intro bz;refine JL.block (CN br (fun L s Y=>∃(al:LH) (f25:Array Value),Jn E H al [bX K f25 133] [(0,.slice (AZ K) ag Z),(8,iV Y.1),(9,iV Y.2.1)] L s (WL 133 Cw al K Z ag f25 Y.2.2)) ⟨E,a0,rfl,rfl,Ar,bi,hW⟩ ?_);rintro _ _ Y ⟨al,f25,rfl,rfl,a9,am,V⟩ bA ⟨bV,a2⟩ bB;have bb:=a2;unfold HQ at bb;refine zg 7 rfl (AN bb (fun bC bD=>?_) (fun bC bE=>?_))
  ·refine zg 3 rfl (G1 [13,15] [K] mixed rfl ?_);refine Bt 0 rfl rfl (Bt 1 rfl rfl ?_);refine Bt 2 rfl rfl (Bt 3 rfl rfl ?_);refine Bt 4 rfl rfl (Bt 5 rfl rfl ?_);obtain⟨O,ap,bF⟩:=bs bD;obtain⟨_,⟨_,_,rfl,rfl,⟨_,_,rfl,rfl,⟨a3,a4,rfl,bG⟩⟩⟩,bH⟩:=WL.at V ap;refine Cx 6 V.2 ap underlying130 AS ?_;refine Ec 7 [iV O.1,iV O.2.1,sV a3 O.2.2 a4] 0 am bH Cr AS ?_;refine Bt 8 rfl rfl (Bt 9 rfl rfl ?_);obtain⟨U,av,bI⟩:=bs bF;obtain⟨_,⟨_,_,rfl,rfl,⟨_,_,rfl,rfl,⟨a5,a6,rfl,bJ⟩⟩⟩,bK⟩:=WL.at V av;refine Cx 10 V.2 av underlying130 AS ?_;refine Ec 11 [iV U.1,iV U.2.1,sV a5 U.2.2 a6] 0 am bK Cr AS ?_;refine Cx 12 V.2 av underlying130 AS ?_;have bd:=WL.put (x':=O) (ws':= [iV O.1,iV O.2.1,sV a3 O.2.2 a4]) V V.2 av ⟨_,_,rfl,rfl,⟨_,_,rfl,rfl,⟨_,_,rfl,bG⟩⟩⟩;refine Ed 13 0 am AS bd.2 fun bL=>?_;refine Cx 14 V.2 ap underlying130 AS ?_;have be:=WL.put (x':=U) (ws':= [iV U.1,iV U.2.1,sV a5 U.2.2 a6]) bd.1 V.2 ap ⟨_,_,rfl,rfl,⟨_,_,rfl,rfl,⟨_,_,rfl,bJ⟩⟩⟩;refine Ed 15 0 bL AS be.2 fun bM=>?_;refine JB.fin (by decide+kernel) ?_;obtain⟨bN,bO,bP⟩:=bs bI;refine zg 3 rfl (Be bO rfl rfl rfl ?_);obtain⟨bQ,bR,bS⟩:=bs bP;refine zg 4 rfl (Ci bR rfl rfl rfl ?_);refine zg 3 rfl ?_;obtain rfl:=oi bS;exact Ay (bB _ _ (bN,bQ,((Y.2.2.set (Int.toNat Y.1) O).set (Int.toNat Y.2.1) U)) ⟨al,(AX (AX f25 (Int.toNat (Y.1)*3) [iV O.1,iV O.2.1,sV a3 O.2.2 a4]) (Int.toNat (Y.2.1)*3) [iV U.1,iV U.2.1,sV a5 U.2.2 a6]),rfl,rfl,a9,bM,be.1⟩ a2) rfl
  ·refine JL.exit rfl ?_;obtain rfl:=oi bE;obtain rfl:=bA _ a2;exact Ay (bz _ _ ⟨al,f25,rfl,rfl,a9,am,V⟩) rfl
def I6(fuel:Nat)(p2:Int)(O:Int×Int×(List Bu))(K:Int):Option (Bi Int Int):= Option.bind (if K<p2 then((ix O.2.2 K).bind fun U=> (As (K - 1)).bind fun V=> (ix O.2.2 V).bind fun Y=> (f134 fuel U Y).bind fun Z=> some (decide (¬(Z<0)))) else(some false)) fun ag=> if ag=true then((As (K+1)).bind fun al=> some (.more al)) else(some (.done K))
def Rz(fuel:Nat)(K:Int×(List Bu)):Option (Bi (Int×(List Bu)) ((List Bu))):= if 1≤K.1 then((ix K.2 K.1).bind fun O=> (As (K.1 - 1)).bind fun Y=> (ix K.2 Y).bind fun Z=> (f134 fuel O Z).bind fun ag=> if ¬(ag<0) then(some (.done K.2)) else((As (K.1 - 1)).bind fun U=> (As (K.1 - 1)).bind fun al=> (ix K.2 al).bind fun V=> (ix (K.2.set (Int.toNat K.1) V) U).bind fun ap=> (As (K.1 - 1)).bind fun am=> some (.more (am,((K.2.set (Int.toNat K.1) V).set (Int.toNat U) O))))) else(some (.done K.2))
def Sc(fuel:Nat)(p2:Int)(K:Int×(List Bu)):Option (Bi (Int×(List Bu)) ((List Bu))):= if K.1<p2 then((ix K.2 K.1).bind fun O=> (As (K.1 - 1)).bind fun Y=> (ix K.2 Y).bind fun Z=> (f134 fuel O Z).bind fun ag=> if ¬(ag<0) then(some (.done K.2)) else((As (K.1 - 1)).bind fun U=> (As (K.1 - 1)).bind fun al=> (ix K.2 al).bind fun V=> (ix (K.2.set (Int.toNat K.1) V) U).bind fun ap=> (As (K.1+1)).bind fun am=> some (.more (am,((K.2.set (Int.toNat K.1) V).set (Int.toNat U) O))))) else(some (.done K.2))
def MZ(fuel:Nat)(p1:Int)(p2:Int)(K:Int×Int×(List Bu)):Option (Bi (Int×Int×(List Bu)) ((Bool×(List Bu))⊕((List Bu)))):= if K.2.1<5 then(Option.bind (iter (I6 fuel p2 K) fuel K.1) fun O=> if O=p2 then(some (.done (Sum.inl (true,K.2.2)))) else((As (p2 - p1)).bind fun ag=> if ag<50 then(some (.done (Sum.inl (false,K.2.2)))) else((As (O - 1)).bind fun U=> (As (O - 1)).bind fun al=> (ix K.2.2 al).bind fun V=> (ix K.2.2 O).bind fun Y=> (ix (K.2.2.set (Int.toNat O) V) U).bind fun a5=> (As (O - p1)).bind fun am=> Option.bind (if 2≤am then((As (O - 1)).bind fun ap=> Option.bind (iter (Rz fuel) fuel (ap,((K.2.2.set (Int.toNat O) V).set (Int.toNat U) Y))) fun av=> some av) else(some ((K.2.2.set (Int.toNat O) V).set (Int.toNat U) Y))) fun Z=> (As (p2 - O)).bind fun a0=> Option.bind (if 2≤a0 then((As (O+1)).bind fun a1=> Option.bind (iter (Sc fuel p2) fuel (a1,Z)) fun a2=> some a2) else(some Z)) fun a3=> (As (K.2.1+1)).bind fun a4=> some (.more (O,a4,a3))))) else(some (.done (Sum.inr K.2.2)))
def f183(fuel:Nat)(p0:List Bu)(p1:Int)(p2:Int):Option (Bool×(List Bu)):= (As (p1+1)).bind fun K=> Option.bind (iter (MZ fuel p1 p2) fuel (K,0,p0)) fun O=> Sum.elim (fun r=>some r) (fun U=> some (false,U)) O
theorem S1{K:Nat}{O:Nat}{U:Nat}{bW:Array Value}{p0:List (Bu)}{p1:Int}{p2:Int}(hW:WL 133 Cw E K O U bW p0){fuel:Nat}{r:Bool×(List Bu)}(cf:f183 fuel p0 p1 p2=some r):AL J 183 [.slice (AZ K) U O,iV p1,iV p2,(fV 134)] E [(K,.cells bW 133 (0,0))] (fun w E' B'=>∃(cg:Array Value),w= .bool r.1∧B'= [(K,.cells cg 133 (0,0))]∧WL 133 Cw E' K O U cg r.2):=by
 refine A4 func183 fun Q gg cs H db bY=>?_;unfold f183 at cf;obtain⟨gh,dc,dd⟩:=bs cf;refine zg 7 rfl (Be dc rfl rfl rfl ?_);obtain⟨ci,de,bZ⟩:=bs dd;refine zg 7 rfl (Br (fun L s=>∃(b0:(List Bu)) (b1:LH) (f18:Array Value),ci=Sum.inr b0∧Jn E H b1 [bX K f18 133] [] L s (WL 133 Cw b1 K O U f18 b0)) ?_ ?_)
 ·rintro _ _ ⟨b0,b1,f18,rfl,rfl,rfl,df,dg,dh⟩;have di:=elim_inr bZ;refine zg 4 rfl ?_;obtain rfl:=oi di;exact AD func183 rfl rfl (bY df rfl ⟨f18,rfl,(by first | rfl | simp | (simp [Value.cells])),dh⟩ dg)
 ·intro dj;refine JL.block (CN de (fun L s Z=>∃(bG:LH) (f27:Array Value),Jn E H bG [bX K f27 133] [(0,.slice (AZ K) U O),(1,iV p1),(2,iV p2),(3,(fV 134)),(9,iV Z.1),(10,iV Z.2.1)] L s (WL 133 Cw bG K O U f27 Z.2.2)) ⟨E,bW,rfl,rfl,Ar,db,hW⟩ ?_);rintro _ _ Z ⟨bG,f27,rfl,rfl,bH,ck,ag⟩ b2 ⟨gi,bn⟩ dk;have cm:=bn;unfold MZ at cm;refine zg 6 rfl (AN cm (fun dl dm=>?_) (fun dl dn=>?_))
  ·obtain⟨a2,dp,dq⟩:=bs dm;refine zg 4 rfl (C7 [bX K f27 133] [(0,.slice (AZ K) U O),(1,iV p1),(2,iV p2),(3,(fV 134)),(9,iV a2),(10,iV Z.2.1)] (fun bo a3 bp=>?_) (fun dr=>?_))
   ·refine zg 7 rfl (AN dq (fun dt du=>?_) (fun dt dv=>?_))
    ·refine zg 4 rfl ?_;obtain rfl:=oi du;obtain rfl:=b2 _ bn;have dw:=elim_inl bZ;obtain rfl:=oi dw;exact AD func183 rfl rfl (bY (bH.Ac a3) rfl ⟨f27,rfl,(by first | rfl | simp | (simp [Value.cells])),(ag.Ah a3)⟩ bp)
    ·obtain⟨gj,dx,dy⟩:=bs dv;refine zg 6 rfl (Ci dx rfl rfl rfl ?_);refine zg 2 rfl (AN dy (fun dz dA=>?_) (fun dz dB=>?_))
     ·refine zg 4 rfl ?_;obtain rfl:=oi dA;obtain rfl:=b2 _ bn;have dC:=elim_inl bZ;obtain rfl:=oi dC;exact AD func183 rfl rfl (bY (bH.Ac a3) rfl ⟨f27,rfl,(by first | rfl | simp | (simp [Value.cells])),(ag.Ah a3)⟩ bp)
     ·refine zg 2 rfl (G1 [15,17] [K] mixed rfl ?_);refine Bt 0 rfl rfl (Bt 1 rfl rfl ?_);refine Bt 2 rfl rfl (Bt 3 rfl rfl ?_);obtain⟨cn,dD,dE⟩:=bs dB;refine GJ 4 true rfl rfl (fun ρ h s' hs=>C5 (h _ _ rfl) (h _ _ rfl) dD) (Bt 5 rfl rfl ?_);refine Bt 6 rfl rfl ?_;obtain⟨gk,dF,dG⟩:=bs dE;refine GJ 7 true rfl rfl (fun ρ h s' hs=>C5 (h _ _ rfl) (h _ _ rfl) dF) ?_;obtain⟨al,co,dH⟩:=bs dG;obtain⟨_,⟨_,_,rfl,rfl,⟨_,_,rfl,rfl,⟨bI,bJ,rfl,dI⟩⟩⟩,dJ⟩:=WL.at (ag.Ah a3) co;refine Cx 8 ag.2 co underlying130 AS ?_;refine Ec 9 [iV al.1,iV al.2.1,sV bI al.2.2 bJ] 0 bp dJ Cr AS ?_;refine Bt 10 rfl rfl (Bt 11 rfl rfl ?_);obtain⟨am,bK,dK⟩:=bs dH;obtain⟨_,⟨_,_,rfl,rfl,⟨_,_,rfl,rfl,⟨bL,bM,rfl,dL⟩⟩⟩,dM⟩:=WL.at (ag.Ah a3) bK;refine Cx 12 ag.2 bK underlying130 AS ?_;refine Ec 13 [iV am.1,iV am.2.1,sV bL am.2.2 bM] 0 bp dM Cr AS ?_;refine Cx 14 ag.2 bK underlying130 AS ?_;have bq:=WL.put (x':=al) (ws':= [iV al.1,iV al.2.1,sV bI al.2.2 bJ]) (ag.Ah a3) ag.2 bK ⟨_,_,rfl,rfl,⟨_,_,rfl,rfl,⟨_,_,rfl,dI⟩⟩⟩;refine Ed 15 0 bp AS bq.2 fun dN=>?_;obtain⟨gl,b3,dO⟩:=bs dK;obtain⟨_,⟨_,_,rfl,rfl,⟨_,_,rfl,rfl,⟨gm,gn,rfl,gp⟩⟩⟩,gq⟩:=WL.at bq.1 b3;refine Cx 16 (bq.1).2 b3 underlying130 AS ?_;have b4:=WL.put (x':=am) (ws':= [iV am.1,iV am.2.1,sV bL am.2.2 bM]) bq.1 (bq.1).2 b3 ⟨_,_,rfl,rfl,⟨_,_,rfl,rfl,⟨_,_,rfl,dL⟩⟩⟩;refine Ed 17 0 dN AS b4.2 fun cp=>?_;refine JB.fin (by decide+kernel) ?_;obtain⟨gr,dP,dQ⟩:=bs dO;refine zg 5 rfl (Ci dP rfl rfl rfl ?_);obtain⟨dR,dS,dT⟩:=bs dQ;refine zg 2 rfl (Br (fun L s=>∃(a4:LH) (f99:Array Value),Jn bo H a4 [bX K f99 133] [(0,.slice (AZ K) U O),(1,iV p1),(2,iV p2),(3,(fV 134)),(9,iV a2),(10,iV Z.2.1)] L s (WL 133 Cw a4 K O U f99 dR)) ?_ ?_)
      ·rintro _ _ ⟨a4,f99,rfl,rfl,dU,cq,cr⟩;obtain⟨gt,dV,dW⟩:=bs dT;refine zg 4 rfl (Ci dV rfl rfl rfl ?_);obtain⟨ct,dX,dY⟩:=bs dW;refine zg 2 rfl (Br (fun L s=>∃(bN:LH) (f109:Array Value),Jn a4 H bN [bX K f109 133] [(0,.slice (AZ K) U O),(1,iV p1),(2,iV p2),(3,(fV 134)),(9,iV a2),(10,iV Z.2.1)] L s (WL 133 Cw bN K O U f109 ct)) ?_ ?_)
       ·rintro _ _ ⟨bN,f109,rfl,rfl,dZ,ea,eb⟩;obtain⟨ec,ed,ee⟩:=bs dY;refine zg 3 rfl (Be ed rfl rfl rfl ?_);refine zg 2 rfl ?_;obtain rfl:=oi ee;exact Ay (dk _ _ (a2,ec,ct) ⟨bN,f109,rfl,rfl,(((bH.Ac a3).Ac dU).Ac dZ),ea,eb⟩ bn) rfl
       ·intro cu;refine AN dX (fun ef eg=>?_) (fun ef eh=>?_)
        ·obtain⟨gu,ei,ej⟩:=bs eg;refine zg 3 rfl (Be ei rfl rfl rfl ?_);obtain⟨ek,el,em⟩:=bs ej;refine zg 2 rfl (Br (fun L s=>∃(bO:LH) (f134:Array Value),Jn a4 H bO [bX K f134 133] [(0,.slice (AZ K) U O),(1,iV p1),(2,iV p2),(3,(fV 134)),(9,iV a2),(10,iV Z.2.1)] L s (WL 133 Cw bO K O U f134 ek)) ?_ ?_)
         ·rintro _ _ ⟨bO,f134,rfl,rfl,en,eo,ep⟩;obtain rfl:=oi em;exact Ay (cu _ _ ⟨bO,f134,rfl,rfl,en,eo,ep⟩) rfl
         ·intro cv;refine JL.block (CN el (fun L s a5=>∃(bP:LH) (f142:Array Value),Jn a4 H bP [bX K f142 133] [(0,.slice (AZ K) U O),(1,iV p1),(2,iV p2),(3,(fV 134)),(9,iV a2),(10,iV Z.2.1),(12,iV a5.1)] L s (WL 133 Cw bP K O U f142 a5.2)) ⟨a4,f99,rfl,rfl,Ar,cq,cr⟩ ?_);rintro _ _ a5 ⟨bP,f142,rfl,rfl,b5,br,ap⟩ cw ⟨gv,bQ⟩ eq;have cy:=bQ;unfold Sc at cy;refine zg 7 rfl (AN cy (fun er et=>?_) (fun er eu=>?_))
          ·refine zg 5 rfl (Di 10 [K] ⟨⟨0,_,rfl⟩,trivial⟩ br fun ht=>?_);refine A2 ht rfl [0,1,2] rfl ?_;obtain⟨V,bu,ew⟩:=bs et;obtain⟨_,⟨_,_,rfl,rfl,⟨_,_,rfl,rfl,⟨bv,bw,rfl,cz⟩⟩⟩,cA⟩:=WL.at ap bu;refine F7 3 ht (ap).2 bu underlying130 AS ?_;refine DZ 4 ht [iV V.1,iV V.2.1,sV bv V.2.2 bw] 0 br cA Cr AS ?_;refine A2 ht rfl [5,6] rfl ?_;obtain⟨gw,ex,ey⟩:=bs ew;refine Bx 7 ht rfl rfl (fun ρ h s' hs=>C5 (h _ _ rfl) (h _ _ rfl) ex) ?_;obtain⟨a6,cB,ez⟩:=bs ey;obtain⟨_,⟨_,_,rfl,rfl,⟨_,_,rfl,rfl,⟨cC,cD,rfl,eA⟩⟩⟩,eB⟩:=WL.at ap cB;refine F7 8 ht (ap).2 cB underlying130 AS ?_;refine DZ 9 ht [iV a6.1,iV a6.2.1,sV cC a6.2.2 cD] 0 br eB Cr AS ?_;refine Cg [10,11,12] ?_;obtain⟨eC,eD,eE⟩:=bs ez;refine KF (vs:= [.agg #[iV V.1,iV V.2.1,sV bv V.2.2 bw],.agg #[iV a6.1,iV a6.2.1,sV cC a6.2.2 cD]]) (G4 cz eA eD) rfl rfl rfl rfl GU rfl br ?_;rintro _ cE _ a7 ⟨rfl,rfl⟩ bR;refine zg 1 rfl (AB (v:= .bool (decide (¬(eC<0)))) rfl (fun ρ h=>I3 (h _ _ rfl)) ?_);refine JL.done (AN eE (fun eF eG=>?_) (fun eF eH=>?_))
           ·refine JL.exit rfl ?_;obtain rfl:=oi eG;obtain rfl:=cw _ bQ;exact Ay (cv _ _ ⟨cE,f142,rfl,rfl,(b5.Ac a7),bR,(ap.Ah a7)⟩) rfl
           ·refine JL.skip (G1 [15,17] [K] mixed rfl ?_);refine Bt 0 rfl rfl (Bt 1 rfl rfl ?_);refine Bt 2 rfl rfl (Bt 3 rfl rfl ?_);obtain⟨cF,eI,eJ⟩:=bs eH;refine GJ 4 true rfl rfl (fun ρ h s' hs=>C5 (h _ _ rfl) (h _ _ rfl) eI) (Bt 5 rfl rfl ?_);refine Bt 6 rfl rfl ?_;obtain⟨gx,eK,eL⟩:=bs eJ;refine GJ 7 true rfl rfl (fun ρ h s' hs=>C5 (h _ _ rfl) (h _ _ rfl) eK) ?_;obtain⟨a0,cG,eM⟩:=bs eL;obtain⟨_,⟨_,_,rfl,rfl,⟨_,_,rfl,rfl,⟨b6,b7,rfl,eN⟩⟩⟩,eO⟩:=WL.at (ap.Ah a7) cG;refine Cx 8 ap.2 cG underlying130 AS ?_;refine Ec 9 [iV a0.1,iV a0.2.1,sV b6 a0.2.2 b7] 0 bR eO Cr AS ?_;refine Bt 10 rfl rfl (Bt 11 rfl rfl ?_);refine Cx 12 ap.2 bu underlying130 AS ?_;refine Ec 13 [iV V.1,iV V.2.1,sV bv V.2.2 bw] 0 bR cA Cr AS ?_;refine Cx 14 ap.2 bu underlying130 AS ?_;have bx:=WL.put (x':=a0) (ws':= [iV a0.1,iV a0.2.1,sV b6 a0.2.2 b7]) (ap.Ah a7) ap.2 bu ⟨_,_,rfl,rfl,⟨_,_,rfl,rfl,⟨_,_,rfl,eN⟩⟩⟩;refine Ed 15 0 bR AS bx.2 fun eP=>?_;obtain⟨gy,b8,eQ⟩:=bs eM;obtain⟨_,⟨_,_,rfl,rfl,⟨_,_,rfl,rfl,⟨gz,gA,rfl,gB⟩⟩⟩,gC⟩:=WL.at bx.1 b8;refine Cx 16 (bx.1).2 b8 underlying130 AS ?_;have cH:=WL.put (x':=V) (ws':= [iV V.1,iV V.2.1,sV bv V.2.2 bw]) bx.1 (bx.1).2 b8 ⟨_,_,rfl,rfl,⟨_,_,rfl,rfl,⟨_,_,rfl,(cz.Ah a7)⟩⟩⟩;refine Ed 17 0 eP AS cH.2 fun eR=>?_;refine JB.fin (by decide+kernel) ?_;obtain⟨eS,eT,eU⟩:=bs eQ;refine zg 3 rfl (Be eT rfl rfl rfl ?_);refine zg 2 rfl ?_;obtain rfl:=oi eU;exact Ay (eq _ _ (eS,((a5.2.set (Int.toNat a5.1) a0).set (Int.toNat cF) V)) ⟨cE,(AX (AX f142 (Int.toNat (a5.1)*3) [iV a0.1,iV a0.2.1,sV b6 a0.2.2 b7]) (Int.toNat (cF)*3) [iV V.1,iV V.2.1,sV bv V.2.2 bw]),rfl,rfl,(b5.Ac a7),eR,cH.1⟩ bQ) rfl
          ·refine JL.exit rfl ?_;obtain rfl:=oi eu;obtain rfl:=cw _ bQ;exact Ay (cv _ _ ⟨bP,f142,rfl,rfl,b5,br,ap⟩) rfl
        ·refine JL.skip ?_;obtain rfl:=oi eh;exact Ay (cu _ _ ⟨a4,f99,rfl,rfl,Ar,cq,cr⟩) rfl
      ·intro cI;refine AN dS (fun eV eW=>?_) (fun eV eX=>?_)
       ·obtain⟨gD,eY,eZ⟩:=bs eW;refine zg 3 rfl (Ci eY rfl rfl rfl ?_);obtain⟨e0,e1,e2⟩:=bs eZ;refine zg 2 rfl (Br (fun L s=>∃(bS:LH) (f224:Array Value),Jn bo H bS [bX K f224 133] [(0,.slice (AZ K) U O),(1,iV p1),(2,iV p2),(3,(fV 134)),(9,iV a2),(10,iV Z.2.1)] L s (WL 133 Cw bS K O U f224 e0)) ?_ ?_)
        ·rintro _ _ ⟨bS,f224,rfl,rfl,e3,e4,e5⟩;obtain rfl:=oi e2;exact Ay (cI _ _ ⟨bS,f224,rfl,rfl,e3,e4,e5⟩) rfl
        ·intro cJ;refine JL.block (CN e1 (fun L s a8=>∃(bT:LH) (f232:Array Value),Jn bo H bT [bX K f232 133] [(0,.slice (AZ K) U O),(1,iV p1),(2,iV p2),(3,(fV 134)),(9,iV a2),(10,iV Z.2.1),(11,iV a8.1)] L s (WL 133 Cw bT K O U f232 a8.2)) ⟨bo,(AX (AX f27 (Int.toNat (a2)*3) [iV al.1,iV al.2.1,sV bI al.2.2 bJ]) (Int.toNat (cn)*3) [iV am.1,iV am.2.1,sV bL am.2.2 bM]),rfl,rfl,Ar,cp,b4.1⟩ ?_);rintro _ _ a8 ⟨bT,f232,rfl,rfl,b9,bz,av⟩ cK ⟨gE,bU⟩ e6;have cM:=bU;unfold Rz at cM;refine zg 6 rfl (AN cM (fun e7 e8=>?_) (fun e7 e9=>?_))
         ·refine zg 5 rfl (Di 10 [K] ⟨⟨0,_,rfl⟩,trivial⟩ bz fun ht=>?_);refine A2 ht rfl [0,1,2] rfl ?_;obtain⟨Y,bA,fa⟩:=bs e8;obtain⟨_,⟨_,_,rfl,rfl,⟨_,_,rfl,rfl,⟨bB,bC,rfl,cN⟩⟩⟩,cO⟩:=WL.at av bA;refine F7 3 ht (av).2 bA underlying130 AS ?_;refine DZ 4 ht [iV Y.1,iV Y.2.1,sV bB Y.2.2 bC] 0 bz cO Cr AS ?_;refine A2 ht rfl [5,6] rfl ?_;obtain⟨gF,fb,fc⟩:=bs fa;refine Bx 7 ht rfl rfl (fun ρ h s' hs=>C5 (h _ _ rfl) (h _ _ rfl) fb) ?_;obtain⟨a9,cP,fd⟩:=bs fc;obtain⟨_,⟨_,_,rfl,rfl,⟨_,_,rfl,rfl,⟨cQ,cR,rfl,fe⟩⟩⟩,ff⟩:=WL.at av cP;refine F7 8 ht (av).2 cP underlying130 AS ?_;refine DZ 9 ht [iV a9.1,iV a9.2.1,sV cQ a9.2.2 cR] 0 bz ff Cr AS ?_;refine Cg [10,11,12] ?_;obtain⟨fg,fh,fj⟩:=bs fd;refine KF (vs:= [.agg #[iV Y.1,iV Y.2.1,sV bB Y.2.2 bC],.agg #[iV a9.1,iV a9.2.1,sV cQ a9.2.2 cR]]) (G4 cN fe fh) rfl rfl rfl rfl GU rfl bz ?_;rintro _ cT _ bb ⟨rfl,rfl⟩ bV;refine zg 1 rfl (AB (v:= .bool (decide (¬(fg<0)))) rfl (fun ρ h=>I3 (h _ _ rfl)) ?_);refine JL.done (AN fj (fun fk fm=>?_) (fun fk fo=>?_))
          ·refine JL.exit rfl ?_;obtain rfl:=oi fm;obtain rfl:=cK _ bU;exact Ay (cJ _ _ ⟨cT,f232,rfl,rfl,(b9.Ac bb),bV,(av.Ah bb)⟩) rfl
          ·refine JL.skip (G1 [15,17] [K] mixed rfl ?_);refine Bt 0 rfl rfl (Bt 1 rfl rfl ?_);refine Bt 2 rfl rfl (Bt 3 rfl rfl ?_);obtain⟨cV,fp,fq⟩:=bs fo;refine GJ 4 true rfl rfl (fun ρ h s' hs=>C5 (h _ _ rfl) (h _ _ rfl) fp) (Bt 5 rfl rfl ?_);refine Bt 6 rfl rfl ?_;obtain⟨gG,fs,fu⟩:=bs fq;refine GJ 7 true rfl rfl (fun ρ h s' hs=>C5 (h _ _ rfl) (h _ _ rfl) fs) ?_;obtain⟨a1,cW,fv⟩:=bs fu;obtain⟨_,⟨_,_,rfl,rfl,⟨_,_,rfl,rfl,⟨ca,cb,rfl,fw⟩⟩⟩,fx⟩:=WL.at (av.Ah bb) cW;refine Cx 8 av.2 cW underlying130 AS ?_;refine Ec 9 [iV a1.1,iV a1.2.1,sV ca a1.2.2 cb] 0 bV fx Cr AS ?_;refine Bt 10 rfl rfl (Bt 11 rfl rfl ?_);refine Cx 12 av.2 bA underlying130 AS ?_;refine Ec 13 [iV Y.1,iV Y.2.1,sV bB Y.2.2 bC] 0 bV cO Cr AS ?_;refine Cx 14 av.2 bA underlying130 AS ?_;have bD:=WL.put (x':=a1) (ws':= [iV a1.1,iV a1.2.1,sV ca a1.2.2 cb]) (av.Ah bb) av.2 bA ⟨_,_,rfl,rfl,⟨_,_,rfl,rfl,⟨_,_,rfl,fw⟩⟩⟩;refine Ed 15 0 bV AS bD.2 fun fy=>?_;obtain⟨gH,cc,fz⟩:=bs fv;obtain⟨_,⟨_,_,rfl,rfl,⟨_,_,rfl,rfl,⟨gI,gJ,rfl,gK⟩⟩⟩,gL⟩:=WL.at bD.1 cc;refine Cx 16 (bD.1).2 cc underlying130 AS ?_;have cX:=WL.put (x':=Y) (ws':= [iV Y.1,iV Y.2.1,sV bB Y.2.2 bC]) bD.1 (bD.1).2 cc ⟨_,_,rfl,rfl,⟨_,_,rfl,rfl,⟨_,_,rfl,(cN.Ah bb)⟩⟩⟩;refine Ed 17 0 fy AS cX.2 fun fA=>?_;refine JB.fin (by decide+kernel) ?_;obtain⟨fB,fC,fD⟩:=bs fz;refine zg 3 rfl (Ci fC rfl rfl rfl ?_);refine zg 2 rfl ?_;obtain rfl:=oi fD;exact Ay (e6 _ _ (fB,((a8.2.set (Int.toNat a8.1) a1).set (Int.toNat cV) Y)) ⟨cT,(AX (AX f232 (Int.toNat (a8.1)*3) [iV a1.1,iV a1.2.1,sV ca a1.2.2 cb]) (Int.toNat (cV)*3) [iV Y.1,iV Y.2.1,sV bB Y.2.2 bC]),rfl,rfl,(b9.Ac bb),fA,cX.1⟩ bU) rfl
         ·refine JL.exit rfl ?_;obtain rfl:=oi e9;obtain rfl:=cK _ bU;exact Ay (cJ _ _ ⟨bT,f232,rfl,rfl,b9,bz,av⟩) rfl
       ·refine JL.skip ?_;obtain rfl:=oi eX;exact Ay (cI _ _ ⟨bo,(AX (AX f27 (Int.toNat (a2)*3) [iV al.1,iV al.2.1,sV bI al.2.2 bJ]) (Int.toNat (cn)*3) [iV am.1,iV am.2.1,sV bL am.2.2 bM]),rfl,rfl,Ar,cp,b4.1⟩) rfl
   ·refine JL.block (Cy dp (fun bE=> [bX K f27 133]) (fun bE=> [(0,.slice (AZ K) U O),(1,iV p1),(2,iV p2),(3,(fV 134)),(9,iV bE),(10,iV Z.2.1)]) Ar ck ?_);rintro bE cY bd bF fE ⟨gM,cd⟩ fF;have cZ:=cd;unfold I6 at cZ;refine zg 2 rfl (Di 18 [K] ⟨⟨0,_,rfl⟩,trivial⟩ bF fun ht=>?_);refine A2 ht rfl [0,1,2,3] rfl ?_;obtain⟨fG,c0,fH⟩:=bs cZ;refine EO 0 #[true,true,true,true,true,true,true,true,true,true,true,true,true,true,true,true,true,true] (fun L s=>∃(c1:LH),Jm cY H c1 [bX K f27 133] [(0,.slice (AZ K) U O),(1,iV p1),(2,iV p2),(3,(fV 134)),(9,iV bE),(10,iV Z.2.1),(36,.bool fG)] L s) ?_ ?_
    ·rintro _ _ ⟨c1,rfl,rfl,c2,c3⟩;refine AY.fin (by decide+kernel) (BF fH (fun fI fJ=>?_) (fun fI fK=>?_))
     ·obtain⟨fL,fM,fN⟩:=bs fJ;refine zg 4 rfl (Be fM rfl rfl rfl ?_);refine zg 3 rfl ?_;obtain rfl:=oi fN;exact fF fL (bd.Ac c2) c3 rfl cd
     ·refine JL.exit rfl ?_;obtain rfl:=oi fK;obtain rfl:=fE _ cd;exact dr (bd.Ac c2) c3 rfl
    ·intro c4;refine FI (q:=bE<p2) (i:=22) rfl (fun ce=>?_) (fun ce=>?_)
     ·have fO:=ip c0 ce;refine A2 ht rfl [4,5,6] rfl ?_;obtain⟨be,c5,fP⟩:=bs fO;obtain⟨_,⟨_,_,rfl,rfl,⟨_,_,rfl,rfl,⟨c6,c7,rfl,fQ⟩⟩⟩,fR⟩:=WL.at (ag.Ah bd) c5;refine Bx 7 ht rfl rfl (fun ρ h s' hs=>Gw ((ag.Ah bd)).2 c5 underlying130 AS (h _ _ rfl) (h _ _ rfl)) ?_;refine DZ 8 ht [iV be.1,iV be.2.1,sV c6 be.2.2 c7] 0 bF fR Cr AS ?_;refine A2 ht rfl [9,10] rfl ?_;obtain⟨gN,fS,fT⟩:=bs fP;refine Bx 11 ht rfl rfl (fun ρ h s' hs=>C5 (h _ _ rfl) (h _ _ rfl) fS) ?_;obtain⟨bi,c8,fU⟩:=bs fT;obtain⟨_,⟨_,_,rfl,rfl,⟨_,_,rfl,rfl,⟨c9,da,rfl,fW⟩⟩⟩,fX⟩:=WL.at (ag.Ah bd) c8;refine Bx 12 ht rfl rfl (fun ρ h s' hs=>Gw ((ag.Ah bd)).2 c8 underlying130 AS (h _ _ rfl) (h _ _ rfl)) ?_;refine DZ 13 ht [iV bi.1,iV bi.2.1,sV c9 bi.2.2 da] 0 bF fX Cr AS ?_;obtain⟨fY,fZ,ga⟩:=bs fU;refine HO (i:=14) ⟨⟨0,_,rfl⟩,trivial⟩ (vs:= [.agg #[iV be.1,iV be.2.1,sV c6 be.2.2 c7],.agg #[iV bi.1,iV bi.2.1,sV c9 bi.2.2 da]]) (G4 fQ fW fZ) (by decide+kernel) rfl rfl rfl rfl GU rfl bF ?_;rintro _ gb _ gc ⟨rfl,rfl⟩ gd;refine Ch 15 ht rfl rfl ?_;refine Bx (v:= .bool (decide (¬(fY<0)))) 16 ht rfl rfl (fun ρ h s' hs=>I3 (h _ _ rfl)) ?_;refine Ch 17 ht rfl rfl ?_;obtain rfl:=oi ga;refine C4 ?_ (c4 _ _ ⟨gb,rfl,rfl,gc,gd⟩);exact⟨rfl,rfl,rfl,rfl,rfl,rfl,rfl,trivial⟩
     ·have ge:=im c0 ce;refine A2 ht rfl [4,5,6,7,8,9,10,11,12,13,14,15,16,17] rfl ?_;obtain rfl:=oi ge;refine C4 ?_ (c4 _ _ ⟨cY,rfl,rfl,Ar,bF⟩);exact⟨rfl,rfl,rfl,rfl,rfl,rfl,rfl,trivial⟩
  ·refine JL.exit rfl ?_;obtain rfl:=oi dn;have gf:ci=(Sum.inr Z.2.2):=(b2 _ bn).symm;exact Ay (dj _ _ ⟨Z.2.2,bG,f27,gf,rfl,rfl,bH,ck,ag⟩) rfl
def KT(fuel:Nat)(p0:List Bu)(p1:Int)(p3:Int)(O:Bu)(U:Bu)(V:Int)(K:Int):Option (Bi Int Int):= Option.bind (if K≤V then((ix ((p0.set (Int.toNat p1) O).set (Int.toNat p3) U) K).bind fun Y=> (ix ((p0.set (Int.toNat p1) O).set (Int.toNat p3) U) p1).bind fun Z=> (f134 fuel Y Z).bind fun ag=> some (decide (ag<0))) else(some false)) fun al=> if al=true then((As (K+1)).bind fun am=> some (.more am)) else(some (.done K))
def KX(fuel:Nat)(p0:List Bu)(p1:Int)(p3:Int)(O:Bu)(U:Bu)(V:Int)(K:Int):Option (Bi Int Int):= Option.bind (if V≤K then((ix ((p0.set (Int.toNat p1) O).set (Int.toNat p3) U) K).bind fun Y=> (ix ((p0.set (Int.toNat p1) O).set (Int.toNat p3) U) p1).bind fun Z=> (f134 fuel Y Z).bind fun ag=> some (decide (¬(ag<0)))) else(some false)) fun al=> if al=true then((As (K - 1)).bind fun am=> some (.more am)) else(some (.done K))
def JN(fuel:Nat)(p1:Int)(O:Int×Int×(List Bu))(K:Int):Option (Bi Int Int):= Option.bind (if K≤O.2.1 then((ix O.2.2 K).bind fun U=> (ix O.2.2 p1).bind fun V=> (f134 fuel U V).bind fun Y=> some (decide (Y<0))) else(some false)) fun Z=> if Z=true then((As (K+1)).bind fun ag=> some (.more ag)) else(some (.done K))
def JP(fuel:Nat)(p1:Int)(O:Int×Int×(List Bu))(U:Int)(K:Int):Option (Bi Int Int):= Option.bind (if U≤K then((ix O.2.2 K).bind fun V=> (ix O.2.2 p1).bind fun Y=> (f134 fuel V Y).bind fun Z=> some (decide (¬(Z<0)))) else(some false)) fun ag=> if ag=true then((As (K - 1)).bind fun al=> some (.more al)) else(some (.done K))
def I7(fuel:Nat)(p1:Int)(K:Int×Int×(List Bu)):Option (Bi (Int×Int×(List Bu)) (Int×(List Bu))):= Option.bind (iter (JN fuel p1 K) fuel K.1) fun O=> Option.bind (iter (JP fuel p1 K O) fuel K.2.1) fun U=> if U<O then(some (.done (U,K.2.2))) else((ix K.2.2 U).bind fun V=> (ix K.2.2 O).bind fun Y=> (As (O+1)).bind fun Z=> (As (U - 1)).bind fun ag=> some (.more (Z,ag,((K.2.2.set (Int.toNat O) V).set (Int.toNat U) Y))))
def f185(fuel:Nat)(p0:List Bu)(p1:Int)(p2:Int)(p3:Int):Option (Int×Bool×(List Bu)):= (ix p0 p3).bind fun K=> (ix p0 p1).bind fun O=> (As (p1+1)).bind fun ag=> (As (p2 - 1)).bind fun Z=> Option.bind (iter (KT fuel p0 p1 p3 K O Z) fuel ag) fun Y=> Option.bind (iter (KX fuel p0 p1 p3 K O Y) fuel Z) fun U=> if U<Y then((ix ((p0.set (Int.toNat p1) K).set (Int.toNat p3) O) p1).bind fun al=> (ix ((p0.set (Int.toNat p1) K).set (Int.toNat p3) O) U).bind fun am=> some (U,true,((((p0.set (Int.toNat p1) K).set (Int.toNat p3) O).set (Int.toNat U) al).set (Int.toNat p1) am))) else((ix ((p0.set (Int.toNat p1) K).set (Int.toNat p3) O) U).bind fun ap=> (ix ((p0.set (Int.toNat p1) K).set (Int.toNat p3) O) Y).bind fun av=> (As (Y+1)).bind fun a0=> (As (U - 1)).bind fun a1=> Option.bind (iter (I7 fuel p1) fuel (a0,a1,((((p0.set (Int.toNat p1) K).set (Int.toNat p3) O).set (Int.toNat Y) ap).set (Int.toNat U) av))) fun V=> (ix V.2 p1).bind fun a2=> (ix V.2 V.1).bind fun a3=> some (V.1,false,((V.2.set (Int.toNat V.1) a2).set (Int.toNat p1) a3)))
theorem Sm{K:Nat}{Y:Nat}{Z:Nat}{av:Array Value}{p0:List (Bu)}{p1:Int}{p2:Int}{p3:Int}(hW:WL 133 Cw E K Y Z av p0){fuel:Nat}{r:Int×Bool×(List Bu)}(cC:f185 fuel p0 p1 p2 p3=some r):AL J 185 [.slice (AZ K) Z Y,iV p1,iV p2,iV p3,(fV 134)] E [(K,.cells av 133 (0,0))] (fun w E' B'=>∃(cD:Array Value),w= .tuple #[iV r.1,.bool r.2.1]∧B'= [(K,.cells cD 133 (0,0))]∧WL 133 Cw E' K Y Z cD r.2.2):=by
 refine A4 func185 fun Q g7 cs H bZ cE=>?_;unfold f185 at cC;refine zg 6 rfl (G1 [13,15] [K] mixed rfl ?_);refine Bt 0 rfl rfl (Bt 1 rfl rfl ?_);refine Bt 2 rfl rfl (Bt 3 rfl rfl ?_);refine Bt 4 rfl rfl (Bt 5 rfl rfl ?_);obtain⟨O,bO,dN⟩:=bs cC;obtain⟨_,⟨_,_,rfl,rfl,⟨_,_,rfl,rfl,⟨a0,c4,rfl,dO⟩⟩⟩,dP⟩:=WL.at hW bO;refine Cx 6 hW.2 bO underlying130 AS ?_;refine Ec 7 [iV O.1,iV O.2.1,sV a0 O.2.2 c4] 0 bZ dP Cr AS ?_;refine Bt 8 rfl rfl (Bt 9 rfl rfl ?_);obtain⟨U,bF,dQ⟩:=bs dN;obtain⟨_,⟨_,_,rfl,rfl,⟨_,_,rfl,rfl,⟨a1,a2,rfl,dR⟩⟩⟩,dS⟩:=WL.at hW bF;refine Cx 10 hW.2 bF underlying130 AS ?_;refine Ec 11 [iV U.1,iV U.2.1,sV a1 U.2.2 a2] 0 bZ dS Cr AS ?_;refine Cx 12 hW.2 bF underlying130 AS ?_;have cF:=WL.put (x':=O) (ws':= [iV O.1,iV O.2.1,sV a0 O.2.2 c4]) hW hW.2 bF ⟨_,_,rfl,rfl,⟨_,_,rfl,rfl,⟨_,_,rfl,dO⟩⟩⟩;refine Ed 13 0 bZ AS cF.2 fun dT=>?_;refine Cx 14 hW.2 bO underlying130 AS ?_;have V:=WL.put (x':=U) (ws':= [iV U.1,iV U.2.1,sV a1 U.2.2 a2]) cF.1 hW.2 bO ⟨_,_,rfl,rfl,⟨_,_,rfl,rfl,⟨_,_,rfl,dR⟩⟩⟩;refine Ed 15 0 dT AS V.2 fun dU=>?_;refine JB.fin (by decide+kernel) ?_;obtain⟨g8,dV,dW⟩:=bs dQ;refine zg 3 rfl (Be dV rfl rfl rfl ?_);obtain⟨bP,dX,dY⟩:=bs dW;refine zg 1 rfl (Ci dX rfl rfl rfl ?_);obtain⟨bn,dZ,ea⟩:=bs dY;refine zg 4 rfl (C7 [bX K (AX (AX av (Int.toNat (p1)*3) [iV O.1,iV O.2.1,sV a0 O.2.2 c4]) (Int.toNat (p3)*3) [iV U.1,iV U.2.1,sV a1 U.2.2 a2]) 133] [(0,.slice (AZ K) Z Y),(1,iV p1),(4,(fV 134)),(12,iV bn),(13,iV bP)] (fun g9 al eb=>?_) (fun ec=>?_))
 ·obtain⟨b0,ed,ee⟩:=bs ea;refine JL.seq (C7 [bX K (AX (AX av (Int.toNat (p1)*3) [iV O.1,iV O.2.1,sV a0 O.2.2 c4]) (Int.toNat (p3)*3) [iV U.1,iV U.2.1,sV a1 U.2.2 a2]) 133] [(0,.slice (AZ K) Z Y),(1,iV p1),(4,(fV 134)),(12,iV bn),(13,iV b0)] (fun b1 be bo=>?_) (fun ef=>?_))
  ·refine zg 7 rfl (AN ee (fun eg eh=>?_) (fun eg ei=>?_))
   ·refine JL.seq (G1 [13,15] [K] mixed rfl ?_);refine Bt 0 rfl rfl (Bt 1 rfl rfl ?_);refine Bt 2 rfl rfl (Bt 3 rfl rfl ?_);refine Bt 4 rfl rfl (Bt 5 rfl rfl ?_);refine Cx 6 hW.2 bF underlying130 AS ?_;obtain⟨a3,b2,ej⟩:=bs eh;obtain⟨_,⟨_,_,rfl,rfl,⟨_,_,rfl,rfl,⟨b3,b4,rfl,ek⟩⟩⟩,el⟩:=WL.at (V.1.Ah (al.Ac be)) b2;refine Ec 7 [iV a3.1,iV a3.2.1,sV b3 a3.2.2 b4] 0 bo el Cr AS ?_;refine Bt 8 rfl rfl (Bt 9 rfl rfl ?_);obtain⟨a4,bQ,em⟩:=bs ej;obtain⟨_,⟨_,_,rfl,rfl,⟨_,_,rfl,rfl,⟨b5,b6,rfl,en⟩⟩⟩,eo⟩:=WL.at (V.1.Ah (al.Ac be)) bQ;refine Cx 10 (V.1).2 bQ underlying130 AS ?_;refine Ec 11 [iV a4.1,iV a4.2.1,sV b5 a4.2.2 b6] 0 bo eo Cr AS ?_;refine Cx 12 (V.1).2 bQ underlying130 AS ?_;have cG:=WL.put (x':=a3) (ws':= [iV a3.1,iV a3.2.1,sV b3 a3.2.2 b4]) (V.1.Ah (al.Ac be)) (V.1).2 bQ ⟨_,_,rfl,rfl,⟨_,_,rfl,rfl,⟨_,_,rfl,ek⟩⟩⟩;refine Ed 13 0 bo AS cG.2 fun ep=>?_;refine Cx 14 (V.1).2 b2 underlying130 AS ?_;have cH:=WL.put (x':=a4) (ws':= [iV a4.1,iV a4.2.1,sV b5 a4.2.2 b6]) cG.1 (V.1).2 b2 ⟨_,_,rfl,rfl,⟨_,_,rfl,rfl,⟨_,_,rfl,en⟩⟩⟩;refine Ed 15 0 ep AS cH.2 fun eq=>?_;refine JB.fin (by decide+kernel) (zg 6 rfl ?_);obtain rfl:=oi em;exact AD func185 rfl rfl (cE (al.Ac be) rfl ⟨(AX (AX (AX (AX av (Int.toNat (p1)*3) [iV O.1,iV O.2.1,sV a0 O.2.2 c4]) (Int.toNat (p3)*3) [iV U.1,iV U.2.1,sV a1 U.2.2 a2]) (Int.toNat (b0)*3) [iV a3.1,iV a3.2.1,sV b3 a3.2.2 b4]) (Int.toNat (p1)*3) [iV a4.1,iV a4.2.1,sV b5 a4.2.2 b6]),rfl,(by first | rfl | simp | (simp [Value.cells])),cH.1⟩ eq)
   ·refine zg 2 rfl (G1 [13,15] [K] mixed rfl ?_);refine Bt 0 rfl rfl (Bt 1 rfl rfl ?_);refine Bt 2 rfl rfl (Bt 3 rfl rfl ?_);refine Bt 4 rfl rfl (Bt 5 rfl rfl ?_);obtain⟨a5,bR,er⟩:=bs ei;obtain⟨_,⟨_,_,rfl,rfl,⟨_,_,rfl,rfl,⟨b7,b8,rfl,et⟩⟩⟩,eu⟩:=WL.at (V.1.Ah (al.Ac be)) bR;refine Cx 6 (V.1).2 bR underlying130 AS ?_;refine Ec 7 [iV a5.1,iV a5.2.1,sV b7 a5.2.2 b8] 0 bo eu Cr AS ?_;refine Bt 8 rfl rfl (Bt 9 rfl rfl ?_);obtain⟨a6,bS,ew⟩:=bs er;obtain⟨_,⟨_,_,rfl,rfl,⟨_,_,rfl,rfl,⟨b9,ca,rfl,ex⟩⟩⟩,ey⟩:=WL.at (V.1.Ah (al.Ac be)) bS;refine Cx 10 (V.1).2 bS underlying130 AS ?_;refine Ec 11 [iV a6.1,iV a6.2.1,sV b9 a6.2.2 ca] 0 bo ey Cr AS ?_;refine Cx 12 (V.1).2 bS underlying130 AS ?_;have cI:=WL.put (x':=a5) (ws':= [iV a5.1,iV a5.2.1,sV b7 a5.2.2 b8]) (V.1.Ah (al.Ac be)) (V.1).2 bS ⟨_,_,rfl,rfl,⟨_,_,rfl,rfl,⟨_,_,rfl,et⟩⟩⟩;refine Ed 13 0 bo AS cI.2 fun ez=>?_;refine Cx 14 (V.1).2 bR underlying130 AS ?_;have cJ:=WL.put (x':=a6) (ws':= [iV a6.1,iV a6.2.1,sV b9 a6.2.2 ca]) cI.1 (V.1).2 bR ⟨_,_,rfl,rfl,⟨_,_,rfl,rfl,⟨_,_,rfl,ex⟩⟩⟩;refine Ed 15 0 ez AS cJ.2 fun eA=>?_;refine JB.fin (by decide+kernel) ?_;obtain⟨ha,eB,eC⟩:=bs ew;refine zg 3 rfl (Be eB rfl rfl rfl ?_);obtain⟨hb,eD,eE⟩:=bs eC;refine zg 5 rfl (Ci eD rfl rfl rfl ?_);obtain⟨cb,eF,eG⟩:=bs eE;refine zg 3 rfl (Br (fun L s=>∃(cc:LH) (f102:Array Value),Jn b1 H cc [bX K f102 133] [(0,.slice (AZ K) Z Y),(1,iV p1),(13,iV cb.1)] L s (WL 133 Cw cc K Y Z f102 cb.2)) ?_ ?_)
    ·rintro _ _ ⟨cc,f102,rfl,rfl,eH,cd,bb⟩;refine JL.seq (G1 [13,15] [K] mixed rfl ?_);refine Bt 0 rfl rfl (Bt 1 rfl rfl ?_);refine Bt 2 rfl rfl (Bt 3 rfl rfl ?_);refine Bt 4 rfl rfl (Bt 5 rfl rfl ?_);obtain⟨a7,bT,eI⟩:=bs eG;obtain⟨_,⟨_,_,rfl,rfl,⟨_,_,rfl,rfl,⟨ce,cf,rfl,eJ⟩⟩⟩,eK⟩:=WL.at bb bT;refine Cx 6 bb.2 bT underlying130 AS ?_;refine Ec 7 [iV a7.1,iV a7.2.1,sV ce a7.2.2 cf] 0 cd eK Cr AS ?_;refine Bt 8 rfl rfl (Bt 9 rfl rfl ?_);obtain⟨a8,bU,eL⟩:=bs eI;obtain⟨_,⟨_,_,rfl,rfl,⟨_,_,rfl,rfl,⟨cg,ci,rfl,eM⟩⟩⟩,eN⟩:=WL.at bb bU;refine Cx 10 bb.2 bU underlying130 AS ?_;refine Ec 11 [iV a8.1,iV a8.2.1,sV cg a8.2.2 ci] 0 cd eN Cr AS ?_;refine Cx 12 bb.2 bU underlying130 AS ?_;have cK:=WL.put (x':=a7) (ws':= [iV a7.1,iV a7.2.1,sV ce a7.2.2 cf]) bb bb.2 bU ⟨_,_,rfl,rfl,⟨_,_,rfl,rfl,⟨_,_,rfl,eJ⟩⟩⟩;refine Ed 13 0 cd AS cK.2 fun eO=>?_;refine Cx 14 bb.2 bT underlying130 AS ?_;have cM:=WL.put (x':=a8) (ws':= [iV a8.1,iV a8.2.1,sV cg a8.2.2 ci]) cK.1 bb.2 bT ⟨_,_,rfl,rfl,⟨_,_,rfl,rfl,⟨_,_,rfl,eM⟩⟩⟩;refine Ed 15 0 eO AS cM.2 fun eP=>?_;refine JB.fin (by decide+kernel) (zg 6 rfl ?_);obtain rfl:=oi eL;exact AD func185 rfl rfl (cE ((al.Ac be).Ac eH) rfl ⟨(AX (AX f102 (Int.toNat (cb.1)*3) [iV a7.1,iV a7.2.1,sV ce a7.2.2 cf]) (Int.toNat (p1)*3) [iV a8.1,iV a8.2.1,sV cg a8.2.2 ci]),rfl,(by first | rfl | simp | (simp [Value.cells])),cM.1⟩ eP)
    ·intro eQ;refine JL.block (CN eF (fun L s bd=>∃(ck:LH) (f127:Array Value),Jn b1 H ck [bX K f127 133] [(0,.slice (AZ K) Z Y),(1,iV p1),(4,(fV 134)),(12,iV bd.1),(13,iV bd.2.1)] L s (WL 133 Cw ck K Y Z f127 bd.2.2)) ⟨b1,(AX (AX (AX (AX av (Int.toNat (p1)*3) [iV O.1,iV O.2.1,sV a0 O.2.2 c4]) (Int.toNat (p3)*3) [iV U.1,iV U.2.1,sV a1 U.2.2 a2]) (Int.toNat (bn)*3) [iV a5.1,iV a5.2.1,sV b7 a5.2.2 b8]) (Int.toNat (b0)*3) [iV a6.1,iV a6.2.1,sV b9 a6.2.2 ca]),rfl,rfl,Ar,eA,cJ.1⟩ ?_);rintro _ _ bd ⟨ck,f127,rfl,rfl,cN,eR,ag⟩ eS ⟨hc,cm⟩ eT;have cO:=cm;unfold I7 at cO;obtain⟨bi,eU,eV⟩:=bs cO;refine zg 2 rfl (C7 [bX K f127 133] [(0,.slice (AZ K) Z Y),(1,iV p1),(4,(fV 134)),(12,iV bi),(13,iV bd.2.1)] (fun hd a9 eW=>?_) (fun eX=>?_))
     ·obtain⟨cn,eY,eZ⟩:=bs eV;refine JL.seq (C7 [bX K f127 133] [(0,.slice (AZ K) Z Y),(1,iV p1),(4,(fV 134)),(12,iV bi),(13,iV cn)] (fun cP bp bV=>?_) (fun e0=>?_))
      ·refine zg 7 rfl (AN eZ (fun e1 e2=>?_) (fun e1 e3=>?_))
       ·refine JL.exit rfl ?_;obtain rfl:=oi e2;obtain rfl:=eS _ cm;exact Ay (eQ _ _ ⟨cP,f127,rfl,rfl,((cN.Ac a9).Ac bp),bV,(ag.Ah (a9.Ac bp))⟩) rfl
       ·refine zg 2 rfl (G1 [13,15] [K] mixed rfl ?_);refine Bt 0 rfl rfl (Bt 1 rfl rfl ?_);refine Bt 2 rfl rfl (Bt 3 rfl rfl ?_);refine Bt 4 rfl rfl (Bt 5 rfl rfl ?_);obtain⟨am,bW,e4⟩:=bs e3;obtain⟨_,⟨_,_,rfl,rfl,⟨_,_,rfl,rfl,⟨co,cp,rfl,e5⟩⟩⟩,e6⟩:=WL.at (ag.Ah (a9.Ac bp)) bW;refine Cx 6 ag.2 bW underlying130 AS ?_;refine Ec 7 [iV am.1,iV am.2.1,sV co am.2.2 cp] 0 bV e6 Cr AS ?_;refine Bt 8 rfl rfl (Bt 9 rfl rfl ?_);obtain⟨ap,bY,e7⟩:=bs e4;obtain⟨_,⟨_,_,rfl,rfl,⟨_,_,rfl,rfl,⟨cq,cr,rfl,e8⟩⟩⟩,e9⟩:=WL.at (ag.Ah (a9.Ac bp)) bY;refine Cx 10 ag.2 bY underlying130 AS ?_;refine Ec 11 [iV ap.1,iV ap.2.1,sV cq ap.2.2 cr] 0 bV e9 Cr AS ?_;refine Cx 12 ag.2 bY underlying130 AS ?_;have cQ:=WL.put (x':=am) (ws':= [iV am.1,iV am.2.1,sV co am.2.2 cp]) (ag.Ah (a9.Ac bp)) ag.2 bY ⟨_,_,rfl,rfl,⟨_,_,rfl,rfl,⟨_,_,rfl,e5⟩⟩⟩;refine Ed 13 0 bV AS cQ.2 fun fa=>?_;refine Cx 14 ag.2 bW underlying130 AS ?_;have cR:=WL.put (x':=ap) (ws':= [iV ap.1,iV ap.2.1,sV cq ap.2.2 cr]) cQ.1 ag.2 bW ⟨_,_,rfl,rfl,⟨_,_,rfl,rfl,⟨_,_,rfl,e8⟩⟩⟩;refine Ed 15 0 fa AS cR.2 fun fb=>?_;refine JB.fin (by decide+kernel) ?_;obtain⟨fc,fd,fe⟩:=bs e7;refine zg 3 rfl (Be fd rfl rfl rfl ?_);obtain⟨ff,fg,fh⟩:=bs fe;refine zg 4 rfl (Ci fg rfl rfl rfl ?_);refine zg 3 rfl ?_;obtain rfl:=oi fh;exact Ay (eT _ _ (fc,ff,((bd.2.2.set (Int.toNat bi) am).set (Int.toNat cn) ap)) ⟨cP,(AX (AX f127 (Int.toNat (bi)*3) [iV am.1,iV am.2.1,sV co am.2.2 cp]) (Int.toNat (cn)*3) [iV ap.1,iV ap.2.1,sV cq ap.2.2 cr]),rfl,rfl,((cN.Ac a9).Ac bp),fb,cR.1⟩ cm) rfl
      ·refine JL.block (Cy eY (fun bG=> [bX K f127 133]) (fun bG=> [(0,.slice (AZ K) Z Y),(1,iV p1),(4,(fV 134)),(12,iV bi),(13,iV bG)]) Ar eW ?_);rintro bG cT bq bH fj ⟨he,ct⟩ fk;have cV:=ct;unfold JP at cV;refine zg 2 rfl (Di 17 [K] ⟨⟨0,_,rfl⟩,trivial⟩ bH fun ht=>?_);refine A2 ht rfl [0,1,2,3] rfl ?_;obtain⟨fm,cW,fo⟩:=bs cV;refine EO 0 #[true,true,true,true,true,true,true,true,true,true,true,true,true,true,true,true,true] (fun L s=>∃(cX:LH),Jm cT H cX [bX K f127 133] [(0,.slice (AZ K) Z Y),(1,iV p1),(4,(fV 134)),(12,iV bi),(13,iV bG),(139,.bool fm)] L s) ?_ ?_
       ·rintro _ _ ⟨cX,rfl,rfl,cY,cZ⟩;refine AY.fin (by decide+kernel) (BF fo (fun fp fq=>?_) (fun fp fs=>?_))
        ·obtain⟨fu,fv,fw⟩:=bs fq;refine zg 4 rfl (Ci fv rfl rfl rfl ?_);refine zg 3 rfl ?_;obtain rfl:=oi fw;exact fk fu (bq.Ac cY) cZ rfl ct
        ·refine JL.exit rfl ?_;obtain rfl:=oi fs;obtain rfl:=fj _ ct;exact e0 (bq.Ac cY) cZ rfl
       ·intro c0;refine FI (q:=bi≤bG) (i:=126) rfl (fun cu=>?_) (fun cu=>?_)
        ·have fx:=ip cW cu;refine A2 ht rfl [4,5,6] rfl ?_;obtain⟨br,c1,fy⟩:=bs fx;obtain⟨_,⟨_,_,rfl,rfl,⟨_,_,rfl,rfl,⟨c2,c3,rfl,fz⟩⟩⟩,fA⟩:=WL.at (ag.Ah (a9.Ac bq)) c1;refine Bx 7 ht rfl rfl (fun ρ h s' hs=>Gw ((ag.Ah (a9.Ac bq))).2 c1 underlying130 AS (h _ _ rfl) (h _ _ rfl)) ?_;refine DZ 8 ht [iV br.1,iV br.2.1,sV c2 br.2.2 c3] 0 bH fA Cr AS ?_;refine A2 ht rfl [9,10] rfl ?_;obtain⟨bu,c5,fB⟩:=bs fy;obtain⟨_,⟨_,_,rfl,rfl,⟨_,_,rfl,rfl,⟨c6,c7,rfl,fC⟩⟩⟩,fD⟩:=WL.at (ag.Ah (a9.Ac bq)) c5;refine Bx 11 ht rfl rfl (fun ρ h s' hs=>Gw ((ag.Ah (a9.Ac bq))).2 c5 underlying130 AS (h _ _ rfl) (h _ _ rfl)) ?_;refine DZ 12 ht [iV bu.1,iV bu.2.1,sV c6 bu.2.2 c7] 0 bH fD Cr AS ?_;obtain⟨fE,fF,fG⟩:=bs fB;refine HO (i:=13) ⟨⟨0,_,rfl⟩,trivial⟩ (vs:= [.agg #[iV br.1,iV br.2.1,sV c2 br.2.2 c3],.agg #[iV bu.1,iV bu.2.1,sV c6 bu.2.2 c7]]) (G4 fz fC fF) (by decide+kernel) rfl rfl rfl rfl GU rfl bH ?_;rintro _ fH _ fI ⟨rfl,rfl⟩ fJ;refine Ch 14 ht rfl rfl ?_;refine Bx (v:= .bool (decide (¬(fE<0)))) 15 ht rfl rfl (fun ρ h s' hs=>I3 (h _ _ rfl)) ?_;refine Ch 16 ht rfl rfl ?_;obtain rfl:=oi fG;refine C4 ?_ (c0 _ _ ⟨fH,rfl,rfl,fI,fJ⟩);exact⟨rfl,rfl,rfl,rfl,rfl,rfl,trivial⟩
        ·have fK:=im cW cu;refine A2 ht rfl [4,5,6,7,8,9,10,11,12,13,14,15,16] rfl ?_;obtain rfl:=oi fK;refine C4 ?_ (c0 _ _ ⟨cT,rfl,rfl,Ar,bH⟩);exact⟨rfl,rfl,rfl,rfl,rfl,rfl,trivial⟩
     ·refine JL.block (Cy eU (fun bI=> [bX K f127 133]) (fun bI=> [(0,.slice (AZ K) Z Y),(1,iV p1),(4,(fV 134)),(12,iV bI),(13,iV bd.2.1)]) Ar eR ?_);rintro bI c8 bv bJ fL ⟨hf,cv⟩ fM;have c9:=cv;unfold JN at c9;refine zg 2 rfl (Di 16 [K] ⟨⟨0,_,rfl⟩,trivial⟩ bJ fun ht=>?_);refine A2 ht rfl [0,1,2,3] rfl ?_;obtain⟨fN,da,fO⟩:=bs c9;refine EO 0 #[true,true,true,true,true,true,true,true,true,true,true,true,true,true,true,true] (fun L s=>∃(db:LH),Jm c8 H db [bX K f127 133] [(0,.slice (AZ K) Z Y),(1,iV p1),(4,(fV 134)),(12,iV bI),(13,iV bd.2.1),(120,.bool fN)] L s) ?_ ?_
      ·rintro _ _ ⟨db,rfl,rfl,dc,dd⟩;refine AY.fin (by decide+kernel) (BF fO (fun fP fQ=>?_) (fun fP fR=>?_))
       ·obtain⟨fS,fT,fU⟩:=bs fQ;refine zg 4 rfl (Be fT rfl rfl rfl ?_);refine zg 3 rfl ?_;obtain rfl:=oi fU;exact fM fS (bv.Ac dc) dd rfl cv
       ·refine JL.exit rfl ?_;obtain rfl:=oi fR;obtain rfl:=fL _ cv;exact eX (bv.Ac dc) dd rfl
      ·intro de;refine FI (q:=bI≤bd.2.1) (i:=108) rfl (fun cw=>?_) (fun cw=>?_)
       ·have fW:=ip da cw;refine A2 ht rfl [4,5,6] rfl ?_;obtain⟨bw,df,fX⟩:=bs fW;obtain⟨_,⟨_,_,rfl,rfl,⟨_,_,rfl,rfl,⟨dg,dh,rfl,fY⟩⟩⟩,fZ⟩:=WL.at (ag.Ah bv) df;refine Bx 7 ht rfl rfl (fun ρ h s' hs=>Gw ((ag.Ah bv)).2 df underlying130 AS (h _ _ rfl) (h _ _ rfl)) ?_;refine DZ 8 ht [iV bw.1,iV bw.2.1,sV dg bw.2.2 dh] 0 bJ fZ Cr AS ?_;refine A2 ht rfl [9,10] rfl ?_;obtain⟨bx,di,ga⟩:=bs fX;obtain⟨_,⟨_,_,rfl,rfl,⟨_,_,rfl,rfl,⟨dj,dk,rfl,gb⟩⟩⟩,gc⟩:=WL.at (ag.Ah bv) di;refine Bx 11 ht rfl rfl (fun ρ h s' hs=>Gw ((ag.Ah bv)).2 di underlying130 AS (h _ _ rfl) (h _ _ rfl)) ?_;refine DZ 12 ht [iV bx.1,iV bx.2.1,sV dj bx.2.2 dk] 0 bJ gc Cr AS ?_;obtain⟨hj,gd,ge⟩:=bs ga;refine HO (i:=13) ⟨⟨0,_,rfl⟩,trivial⟩ (vs:= [.agg #[iV bw.1,iV bw.2.1,sV dg bw.2.2 dh],.agg #[iV bx.1,iV bx.2.1,sV dj bx.2.2 dk]]) (G4 fY gb gd) (by decide+kernel) rfl rfl rfl rfl GU rfl bJ ?_;rintro _ gf _ gg ⟨rfl,rfl⟩ gh;refine A2 ht rfl [14,15] rfl ?_;obtain rfl:=oi ge;refine C4 ?_ (de _ _ ⟨gf,rfl,rfl,gg,gh⟩);exact⟨rfl,rfl,rfl,rfl,rfl,rfl,trivial⟩
       ·have gi:=im da cw;refine A2 ht rfl [4,5,6,7,8,9,10,11,12,13,14,15] rfl ?_;obtain rfl:=oi gi;refine C4 ?_ (de _ _ ⟨c8,rfl,rfl,Ar,bJ⟩);exact⟨rfl,rfl,rfl,rfl,rfl,rfl,trivial⟩
  ·refine JL.block (Cy ed (fun bK=> [bX K (AX (AX av (Int.toNat (p1)*3) [iV O.1,iV O.2.1,sV a0 O.2.2 c4]) (Int.toNat (p3)*3) [iV U.1,iV U.2.1,sV a1 U.2.2 a2]) 133]) (fun bK=> [(0,.slice (AZ K) Z Y),(1,iV p1),(4,(fV 134)),(12,iV bn),(13,iV bK)]) Ar eb ?_);rintro bK dl bz bL gj ⟨hk,cy⟩ gk;have dm:=cy;unfold KX at dm;refine zg 2 rfl (Di 17 [K] ⟨⟨0,_,rfl⟩,trivial⟩ bL fun ht=>?_);refine A2 ht rfl [0,1,2,3] rfl ?_;obtain⟨gl,dn,gm⟩:=bs dm;refine EO 0 #[true,true,true,true,true,true,true,true,true,true,true,true,true,true,true,true,true] (fun L s=>∃(dp:LH),Jm dl H dp [bX K (AX (AX av (Int.toNat (p1)*3) [iV O.1,iV O.2.1,sV a0 O.2.2 c4]) (Int.toNat (p3)*3) [iV U.1,iV U.2.1,sV a1 U.2.2 a2]) 133] [(0,.slice (AZ K) Z Y),(1,iV p1),(4,(fV 134)),(12,iV bn),(13,iV bK),(66,.bool gl)] L s) ?_ ?_
   ·rintro _ _ ⟨dp,rfl,rfl,dq,dr⟩;refine AY.fin (by decide+kernel) (BF gm (fun gn gp=>?_) (fun gn gq=>?_))
    ·obtain⟨gr,gt,gu⟩:=bs gp;refine zg 4 rfl (Ci gt rfl rfl rfl ?_);refine zg 3 rfl ?_;obtain rfl:=oi gu;exact gk gr (bz.Ac dq) dr rfl cy
    ·refine JL.exit rfl ?_;obtain rfl:=oi gq;obtain rfl:=gj _ cy;exact ef (bz.Ac dq) dr rfl
   ·intro dt;refine FI (q:=bn≤bK) (i:=53) rfl (fun cz=>?_) (fun cz=>?_)
    ·have gv:=ip dn cz;refine A2 ht rfl [4,5,6] rfl ?_;obtain⟨bA,du,gw⟩:=bs gv;obtain⟨_,⟨_,_,rfl,rfl,⟨_,_,rfl,rfl,⟨dv,dw,rfl,gx⟩⟩⟩,gy⟩:=WL.at (V.1.Ah (al.Ac bz)) du;refine Bx 7 ht rfl rfl (fun ρ h s' hs=>Gw ((V.1.Ah (al.Ac bz))).2 du underlying130 AS (h _ _ rfl) (h _ _ rfl)) ?_;refine DZ 8 ht [iV bA.1,iV bA.2.1,sV dv bA.2.2 dw] 0 bL gy Cr AS ?_;refine A2 ht rfl [9,10] rfl ?_;obtain⟨bB,dx,gz⟩:=bs gw;obtain⟨_,⟨_,_,rfl,rfl,⟨_,_,rfl,rfl,⟨dy,dz,rfl,gA⟩⟩⟩,gB⟩:=WL.at (V.1.Ah (al.Ac bz)) dx;refine Bx 11 ht rfl rfl (fun ρ h s' hs=>Gw ((V.1.Ah (al.Ac bz))).2 dx underlying130 AS (h _ _ rfl) (h _ _ rfl)) ?_;refine DZ 12 ht [iV bB.1,iV bB.2.1,sV dy bB.2.2 dz] 0 bL gB Cr AS ?_;obtain⟨gC,gD,gE⟩:=bs gz;refine HO (i:=13) ⟨⟨0,_,rfl⟩,trivial⟩ (vs:= [.agg #[iV bA.1,iV bA.2.1,sV dv bA.2.2 dw],.agg #[iV bB.1,iV bB.2.1,sV dy bB.2.2 dz]]) (G4 gx gA gD) (by decide+kernel) rfl rfl rfl rfl GU rfl bL ?_;rintro _ gF _ gG ⟨rfl,rfl⟩ gH;refine Ch 14 ht rfl rfl ?_;refine Bx (v:= .bool (decide (¬(gC<0)))) 15 ht rfl rfl (fun ρ h s' hs=>I3 (h _ _ rfl)) ?_;refine Ch 16 ht rfl rfl ?_;obtain rfl:=oi gE;refine C4 ?_ (dt _ _ ⟨gF,rfl,rfl,gG,gH⟩);exact⟨rfl,rfl,rfl,rfl,rfl,rfl,trivial⟩
    ·have gI:=im dn cz;refine A2 ht rfl [4,5,6,7,8,9,10,11,12,13,14,15,16] rfl ?_;obtain rfl:=oi gI;refine C4 ?_ (dt _ _ ⟨dl,rfl,rfl,Ar,bL⟩);exact⟨rfl,rfl,rfl,rfl,rfl,rfl,trivial⟩
 ·refine JL.block (Cy dZ (fun bM=> [bX K (AX (AX av (Int.toNat (p1)*3) [iV O.1,iV O.2.1,sV a0 O.2.2 c4]) (Int.toNat (p3)*3) [iV U.1,iV U.2.1,sV a1 U.2.2 a2]) 133]) (fun bM=> [(0,.slice (AZ K) Z Y),(1,iV p1),(4,(fV 134)),(12,iV bM),(13,iV bP)]) Ar dU ?_);rintro bM dA bC bN gJ ⟨hl,cA⟩ gK;have dB:=cA;unfold KT at dB;refine zg 2 rfl (Di 16 [K] ⟨⟨0,_,rfl⟩,trivial⟩ bN fun ht=>?_);refine A2 ht rfl [0,1,2,3] rfl ?_;obtain⟨gL,dC,gM⟩:=bs dB;refine EO 0 #[true,true,true,true,true,true,true,true,true,true,true,true,true,true,true,true] (fun L s=>∃(dD:LH),Jm dA H dD [bX K (AX (AX av (Int.toNat (p1)*3) [iV O.1,iV O.2.1,sV a0 O.2.2 c4]) (Int.toNat (p3)*3) [iV U.1,iV U.2.1,sV a1 U.2.2 a2]) 133] [(0,.slice (AZ K) Z Y),(1,iV p1),(4,(fV 134)),(12,iV bM),(13,iV bP),(47,.bool gL)] L s) ?_ ?_
  ·rintro _ _ ⟨dD,rfl,rfl,dE,dF⟩;refine AY.fin (by decide+kernel) (BF gM (fun gN gO=>?_) (fun gN gP=>?_))
   ·obtain⟨gQ,gR,gS⟩:=bs gO;refine zg 4 rfl (Be gR rfl rfl rfl ?_);refine zg 3 rfl ?_;obtain rfl:=oi gS;exact gK gQ (bC.Ac dE) dF rfl cA
   ·refine JL.exit rfl ?_;obtain rfl:=oi gP;obtain rfl:=gJ _ cA;exact ec (bC.Ac dE) dF rfl
  ·intro dG;refine FI (q:=bM≤bP) (i:=35) rfl (fun cB=>?_) (fun cB=>?_)
   ·have gT:=ip dC cB;refine A2 ht rfl [4,5,6] rfl ?_;obtain⟨bD,dH,gU⟩:=bs gT;obtain⟨_,⟨_,_,rfl,rfl,⟨_,_,rfl,rfl,⟨dI,dJ,rfl,gV⟩⟩⟩,gW⟩:=WL.at (V.1.Ah bC) dH;refine Bx 7 ht rfl rfl (fun ρ h s' hs=>Gw ((V.1.Ah bC)).2 dH underlying130 AS (h _ _ rfl) (h _ _ rfl)) ?_;refine DZ 8 ht [iV bD.1,iV bD.2.1,sV dI bD.2.2 dJ] 0 bN gW Cr AS ?_;refine A2 ht rfl [9,10] rfl ?_;obtain⟨bE,dK,gX⟩:=bs gU;obtain⟨_,⟨_,_,rfl,rfl,⟨_,_,rfl,rfl,⟨dL,dM,rfl,gY⟩⟩⟩,gZ⟩:=WL.at (V.1.Ah bC) dK;refine Bx 11 ht rfl rfl (fun ρ h s' hs=>Gw ((V.1.Ah bC)).2 dK underlying130 AS (h _ _ rfl) (h _ _ rfl)) ?_;refine DZ 12 ht [iV bE.1,iV bE.2.1,sV dL bE.2.2 dM] 0 bN gZ Cr AS ?_;obtain⟨hm,g0,g1⟩:=bs gX;refine HO (i:=13) ⟨⟨0,_,rfl⟩,trivial⟩ (vs:= [.agg #[iV bD.1,iV bD.2.1,sV dI bD.2.2 dJ],.agg #[iV bE.1,iV bE.2.1,sV dL bE.2.2 dM]]) (G4 gV gY g0) (by decide+kernel) rfl rfl rfl rfl GU rfl bN ?_;rintro _ g3 _ g4 ⟨rfl,rfl⟩ g5;refine A2 ht rfl [14,15] rfl ?_;obtain rfl:=oi g1;refine C4 ?_ (dG _ _ ⟨g3,rfl,rfl,g4,g5⟩);exact⟨rfl,rfl,rfl,rfl,rfl,rfl,trivial⟩
   ·have g6:=im dC cB;refine A2 ht rfl [4,5,6,7,8,9,10,11,12,13,14,15] rfl ?_;obtain rfl:=oi g6;refine C4 ?_ (dG _ _ ⟨dA,rfl,rfl,Ar,bN⟩);exact⟨rfl,rfl,rfl,rfl,rfl,rfl,trivial⟩
end Pal
namespace Pal
open Go Go.Conc Go.Proofs
open Go.Proofs.Tryz
variable {J:Judge Tryz.prog}{E:LH}
def Mx(fuel:Nat)(p0:List Bu)(p1:Int)(p2:Int)(p3:Int)(a8:Unit):Option (Bi Unit (((List Bu))⊕(Unit))):= (As (p2 - p1)).bind fun Z=> if Z≤12 then((f178 fuel p0 p1 p2).bind fun ag=> some (.done (Sum.inl ag))) else(if p3=0 then(none) else((f181 fuel p0 p1 p2).bind fun O=> Option.bind (if O.2=2 then((f182 fuel p0 p1 p2).bind fun al=> (As (p2 - 1)).bind fun am=> (As (O.1 - p1)).bind fun ap=> (As (am - ap)).bind fun av=> some (av,1,al)) else(some (O.1,O.2,p0))) fun K=> Option.bind (if K.2.1=1 then((f183 fuel K.2.2 p1 p2).bind fun U=> if U.1=true then(some (Sum.inl U.2)) else(some (Sum.inr U.2))) else(some (Sum.inr K.2.2))) fun a0=>Sum.elim (fun r=>some (.done (Sum.inl r))) (fun V=> Option.bind (if 0<p1 then((As (p1 - 1)).bind fun a1=> (ix V a1).bind fun a2=> (ix V K.1).bind fun a3=> (f134 fuel a2 a3).bind fun a4=> some (decide (¬(a4<0)))) else(some false)) fun a5=> if a5=true then(none) else((f185 fuel V p1 p2 K.1).bind fun Y=> (As (Y.1 - p1)).bind fun a6=> (As (p2 - Y.1)).bind fun a7=> (Hz Z (8)).bind fun a9=> if a6<a7 then(none) else((As (Y.1+1)).bind fun bb=> none))) a0))
def IE(fuel:Nat)(p0:List Bu)(p1:Int)(p2:Int)(p3:Int):Option ((List Bu)):= Option.bind (iter (Mx fuel p0 p1 p2 p3) fuel ()) fun K=> Sum.elim (fun r=>some r) (fun O=> none) K
theorem Sb{K:Nat}{O:Nat}{U:Nat}{a0:Array Value}{p0:List (Bu)}{p1:Int}{p2:Int}{p3:Int}(hW:WL 133 Cw E K O U a0 p0){fuel:Nat}{r:(List Bu)}(a6:IE fuel p0 p1 p2 p3=some r):AL J 162 [.slice (AZ K) U O,iV p1,iV p2,iV p3,(fV 134)] E [(K,.cells a0 133 (0,0))] (fun w E' B'=>∃(a7:Array Value),w= .tuple #[]∧B'= [(K,.cells a7 133 (0,0))]∧WL 133 Cw E' K O U a7 r):=by
 refine A4 func162 fun Q dj cs H bJ a8=>?_;unfold IE at a6;obtain⟨dk,bK,a9⟩:=bs a6;refine zg 8 rfl (Br (fun L s=>False) ?_ ?_)
 ·intro _ _ bL;exact bL.elim
 ·intro dl;refine JL.block (Cy bK (fun bb=> [bX K a0 133]) (fun bb=> [(0,.slice (AZ K) U O),(1,iV p1),(2,iV p2),(3,iV p3),(4,(fV 134)),(10,.bool true),(11,.bool true)]) Ar bJ ?_);rintro bb dm V bd be ⟨dn,a1⟩ dp;have bi:=a1;unfold Mx at bi;obtain⟨a2,bM,bN⟩:=bs bi;refine zg 5 rfl (Ci bM rfl rfl rfl ?_);refine zg 8 rfl (AN bN (fun bO bP=>?_) (fun bO bQ=>?_))
  ·obtain⟨dq,bR,bS⟩:=bs bP;refine zg 6 rfl (B6 0 (Sp (hW.Ah V) bR) rfl rfl N6 bd rfl ?_);rintro _ dr _ bT ⟨f32,rfl,rfl,bU⟩ bV;refine JL.done ?_;obtain rfl:=oi bS;obtain rfl:=be _ a1;have bW:=elim_inl a9;obtain rfl:=oi bW;exact AD func162 rfl rfl (a8 (V.Ac bT) rfl ⟨f32,rfl,(by first | rfl | simp | (simp [Value.cells])),bU⟩ bV)
  ·refine zg 7 rfl (AN bQ (fun bY bZ=>?_) (fun bY b0=>?_))
   ·refine zg 6 rfl ?_;cases bZ
   ·refine zg 5 rfl (AB (v:= .bool false) rfl (fun ρ h=>Yl.not (c:=true) (h _ _ rfl)) ?_);obtain⟨dt,b1,b2⟩:=bs b0;refine zg 9 rfl (B6 0 (SD (hW.Ah V) b1) rfl rfl (AR func181 rfl) bd rfl ?_);rintro _ bn _ a3 ⟨rfl,rfl⟩ bo;obtain⟨Y,b3,b4⟩:=bs b2;refine zg 12 rfl (Br (fun L s=>∃(al:LH) (f56:Array Value),Jn bn H al [bX K f56 133] [(0,.slice (AZ K) U O),(1,iV p1),(2,iV p2),(3,iV p3),(4,(fV 134)),(10,.bool true),(11,.bool true),(12,iV a2),(13,iV Y.1),(14,iV Y.2.1)] L s (WL 133 Cw al K O U f56 Y.2.2)) ?_ ?_)
    ·rintro _ _ ⟨al,f56,rfl,rfl,b5,bp,bq⟩;obtain⟨b6,b7,br⟩:=bs b4;refine zg 12 rfl (Br (fun L s=>∃(a4:(List Bu)) (am:LH) (f65:Array Value),b6=Sum.inr a4∧Jn al H am [bX K f65 133] [(0,.slice (AZ K) U O),(1,iV p1),(2,iV p2),(3,iV p3),(4,(fV 134)),(10,.bool true),(11,.bool true),(12,iV a2),(13,iV Y.1)] L s (WL 133 Cw am K O U f65 a4)) ?_ ?_)
     ·rintro _ _ ⟨a4,am,f65,rfl,rfl,rfl,du,ap,av⟩;have b8:=elim_inr br;refine zg 2 rfl (Di 17 [K] ⟨⟨0,_,rfl⟩,trivial⟩ ap fun ht=>?_);refine A2 ht rfl [0,1,2] rfl ?_;obtain⟨b9,bu,ca⟩:=bs b8;refine EO 0 #[true,true,true,true,true,true,true,true,true,true,true,true,true,true,true,true,true] (fun L s=>∃(bv:LH),Jm am H bv [bX K f65 133] [(0,.slice (AZ K) U O),(1,iV p1),(2,iV p2),(3,iV p3),(4,(fV 134)),(10,.bool true),(11,.bool true),(12,iV a2),(13,iV Y.1),(97,.bool b9)] L s) ?_ ?_
      ·rintro _ _ ⟨bv,rfl,rfl,cb,cc⟩;refine AY.fin (by decide+kernel) (BF ca (fun cd ce=>?_) (fun cd cf=>?_))
       ·refine zg 7 rfl ?_;cases ce
       ·obtain⟨dv,cg,ci⟩:=bs cf;refine zg 8 rfl (B6 0 (Sm (av.Ah cb) cg) rfl rfl (AR func185 rfl) cc rfl ?_);rintro _ dw _ dx ⟨f83,rfl,rfl,dy⟩ dz;obtain⟨dA,ck,cm⟩:=bs ci;refine zg 15 rfl (Ci ck rfl rfl rfl ?_);obtain⟨dB,cn,co⟩:=bs cm;refine zg 2 rfl (Ci cn rfl rfl rfl ?_);obtain⟨cp,cq,cr⟩:=bs co;refine zg 6 rfl (AB (v:=iV cp) rfl (fun ρ h=>K1 (h _ _ rfl) (h _ _ rfl) cq) ?_);refine zg 8 rfl (AN cr (fun ct cu=>?_) (fun ct cv=>?_))
        ·refine zg 14 rfl ?_;cases cu
        ·obtain⟨dC,cw,cy⟩:=bs cv;refine zg 11 rfl (Be cw rfl rfl rfl ?_);refine zg 3 rfl ?_;cases cy
      ·intro bw;refine FI (q:=0<p1) (i:=83) rfl (fun a5=>?_) (fun a5=>?_)
       ·have cz:=ip bu a5;refine A2 ht rfl [3,4,5] rfl ?_;obtain⟨dD,cA,cB⟩:=bs cz;refine Bx 6 ht rfl rfl (fun ρ h s' hs=>C5 (h _ _ rfl) (h _ _ rfl) cA) ?_;obtain⟨Z,bx,cC⟩:=bs cB;obtain⟨_,⟨_,_,rfl,rfl,⟨_,_,rfl,rfl,⟨bz,bA,rfl,cD⟩⟩⟩,cE⟩:=WL.at av bx;refine F7 7 ht (av).2 bx underlying130 AS ?_;refine DZ 8 ht [iV Z.1,iV Z.2.1,sV bz Z.2.2 bA] 0 ap cE Cr AS ?_;refine A2 ht rfl [9,10] rfl ?_;obtain⟨ag,bB,cF⟩:=bs cC;obtain⟨_,⟨_,_,rfl,rfl,⟨_,_,rfl,rfl,⟨bC,bD,rfl,cG⟩⟩⟩,cH⟩:=WL.at av bB;refine F7 11 ht (av).2 bB underlying130 AS ?_;refine DZ 12 ht [iV ag.1,iV ag.2.1,sV bC ag.2.2 bD] 0 ap cH Cr AS ?_;obtain⟨cI,cJ,cK⟩:=bs cF;refine HO (i:=13) ⟨⟨0,_,rfl⟩,trivial⟩ (vs:= [.agg #[iV Z.1,iV Z.2.1,sV bz Z.2.2 bA],.agg #[iV ag.1,iV ag.2.1,sV bC ag.2.2 bD]]) (G4 cD cG cJ) (by decide+kernel) rfl rfl rfl rfl GU rfl ap ?_;rintro _ cM _ cN ⟨rfl,rfl⟩ cO;refine Ch 14 ht rfl rfl ?_;refine Bx (v:= .bool (decide (¬(cI<0)))) 15 ht rfl rfl (fun ρ h s' hs=>I3 (h _ _ rfl)) ?_;refine Ch 16 ht rfl rfl ?_;obtain rfl:=oi cK;refine C4 ?_ (bw _ _ ⟨cM,rfl,rfl,cN,cO⟩);exact⟨rfl,rfl,rfl,rfl,rfl,rfl,rfl,rfl,rfl,rfl,trivial⟩
       ·have cP:=im bu a5;refine A2 ht rfl [3,4,5,6,7,8,9,10,11,12,13,14,15,16] rfl ?_;obtain rfl:=oi cP;refine C4 ?_ (bw _ _ ⟨am,rfl,rfl,Ar,ap⟩);exact⟨rfl,rfl,rfl,rfl,rfl,rfl,rfl,rfl,rfl,rfl,trivial⟩
     ·intro bE;refine AN b7 (fun cQ cR=>?_) (fun cQ cT=>?_)
      ·obtain⟨cV,cW,cX⟩:=bs cR;refine zg 6 rfl (B6 0 (S1 bq cW) rfl rfl (AR func183 rfl) bp rfl ?_);rintro _ cY _ bF ⟨f133,rfl,rfl,bG⟩ bH;refine JL.done (BF cX (fun cZ c0=>?_) (fun cZ c1=>?_))
       ·obtain rfl:=oi c0;have c2:=elim_inl br;obtain rfl:=oi c2;obtain rfl:=be _ a1;have c3:=elim_inl a9;obtain rfl:=oi c3;exact AD func162 rfl rfl (a8 (((V.Ac a3).Ac b5).Ac bF) rfl ⟨f133,rfl,(by first | rfl | simp | (simp [Value.cells])),bG⟩ bH)
       ·exact JL.skip (Ay (bE _ _ ⟨cV.2,cY,f133,(Option.some.inj c1).symm,rfl,rfl,bF,bH,bG⟩) rfl)
      ·exact JL.skip (Ay (bE _ _ ⟨Y.2.2,al,f56,(Option.some.inj cT).symm,rfl,rfl,Ar,bp,bq⟩) rfl)
    ·intro bI;refine AN b3 (fun c4 c5=>?_) (fun c4 c6=>?_)
     ·obtain⟨dE,c7,c8⟩:=bs c5;refine zg 6 rfl (B6 0 (SM (hW.Ah (V.Ac a3)) c7) rfl rfl (AR func182 rfl) bo rfl ?_);rintro _ c9 _ da ⟨f156,rfl,rfl,db⟩ dc;obtain⟨dF,dd,de⟩:=bs c8;refine zg 4 rfl (Ci dd rfl rfl rfl ?_);obtain⟨dG,df,dg⟩:=bs de;refine zg 2 rfl (Ci df rfl rfl rfl ?_);obtain⟨dH,dh,di⟩:=bs dg;refine Ci dh rfl rfl rfl (zg 5 rfl ?_);obtain rfl:=oi di;exact Ay (bI _ _ ⟨c9,f156,rfl,rfl,da,dc,db⟩) rfl
     ·refine JL.skip ?_;obtain rfl:=oi c6;exact Ay (bI _ _ ⟨bn,a0,rfl,rfl,Ar,bo,(hW.Ah (V.Ac a3))⟩) rfl
def Hq(fuel:Nat)(p3:Int)(K:Int×Int×Bool×Bool×(List Bu)):Option (Bi (Int×Int×Bool×Bool×(List Bu)) (((List Bu))⊕(Unit))):= Option.bind ((As (K.2.1 - K.1)).bind fun al=> if al≤12 then((f178 fuel K.2.2.2.2 K.1 K.2.1).bind fun a0=> some (Sum.inl a0)) else(if p3=0 then(none) else(Option.bind (if(!K.2.2.1)=true then(none) else(some ())) fun bu=> (f181 fuel K.2.2.2.2 K.1 K.2.1).bind fun V=> Option.bind (if V.2=2 then((f182 fuel K.2.2.2.2 K.1 K.2.1).bind fun a1=> (As (K.2.1 - 1)).bind fun a2=> (As (V.1 - K.1)).bind fun a3=> (As (a2 - a3)).bind fun a4=> some (a4,1,a1)) else(some (V.1,V.2,K.2.2.2.2))) fun U=> Option.bind (if K.2.2.1=true then(some K.2.2.2.1) else(some false)) fun a5=> Option.bind (if a5=true then(some (decide (U.2.1=1))) else(some false)) fun a6=> Option.bind (if a6=true then((f183 fuel U.2.2 K.1 K.2.1).bind fun Z=> if Z.1=true then(some (Sum.inl Z.2)) else(some (Sum.inr Z.2))) else(some (Sum.inr U.2.2))) fun a7=>Sum.elim (fun r=>some (Sum.inl r)) (fun ag=> Option.bind (if 0<K.1 then((As (K.1 - 1)).bind fun a8=> (ix ag a8).bind fun a9=> (ix ag U.1).bind fun bb=> (f134 fuel a9 bb).bind fun bd=> some (decide (¬(bd<0)))) else(some false)) fun be=> if be=true then(none) else((f185 fuel ag K.1 K.2.1 U.1).bind fun O=> (As (O.1 - K.1)).bind fun am=> (As (K.2.1 - O.1)).bind fun ap=> (Hz al (8)).bind fun av=> Option.bind (if am<ap then((IE fuel O.2.2 K.1 O.1 p3).bind fun bi=> (As (O.1+1)).bind fun bn=> some (bn,K.2.1,decide (av≤am),bi)) else((As (O.1+1)).bind fun bo=> (IE fuel O.2.2 bo K.2.1 p3).bind fun bp=> some (K.1,O.1,decide (av≤ap),bp))) fun Y=> some (Sum.inr (Y.1,Y.2.1,Y.2.2.1,O.2.1,Y.2.2.2)))) a7))) fun bq=>Sum.elim (fun r=>some (.done (Sum.inl r))) (fun br=> some (.more br)) bq
def f162(fuel:Nat)(p0:List Bu)(p1:Int)(p2:Int)(p3:Int):Option ((List Bu)):= Option.bind (iter (Hq fuel p3) fuel (p1,p2,true,true,p0)) fun K=> Sum.elim (fun r=>some r) (fun O=> none) K
theorem Zh{O:Nat}{U:Nat}{V:Nat}{be:Array Value}{p0:List (Bu)}{p1:Int}{p2:Int}{p3:Int}(hW:WL 133 Cw E O U V be p0){fuel:Nat}{r:(List Bu)}(bu:f162 fuel p0 p1 p2 p3=some r):AL J 162 [.slice (AZ O) V U,iV p1,iV p2,iV p3,(fV 134)] E [(O,.cells be 133 (0,0))] (fun w E' B'=>∃(bv:Array Value),w= .tuple #[]∧B'= [(O,.cells bv 133 (0,0))]∧WL 133 Cw E' O U V bv r):=by
 refine A4 func162 fun Q eH cs H b6 bw=>?_;unfold f162 at bu;obtain⟨eI,b7,bx⟩:=bs bu;refine zg 8 rfl (Br (fun L s=>False) ?_ ?_)
 ·intro _ _ b8;exact b8.elim
 ·intro eJ;refine JL.block (CN b7 (fun L s K=>∃(a3:LH) (f22:Array Value),Jn E H a3 [bX O f22 133] [(0,.slice (AZ O) V U),(1,iV K.1),(2,iV K.2.1),(3,iV p3),(4,(fV 134)),(10,.bool K.2.2.1),(11,.bool K.2.2.2.1)] L s (WL 133 Cw a3 O U V f22 K.2.2.2.2)) ⟨E,be,rfl,rfl,Ar,b6,hW⟩ ?_);rintro _ _ K ⟨a3,f22,rfl,rfl,bi,bz,a4⟩ bA ⟨eK,a5⟩ b9;have bB:=a5;unfold Hq at bB;obtain⟨ca,cb,bn⟩:=bs bB;refine Br (fun L s=>∃(Z:Int×Int×Bool×Bool×(List Bu)) (a6:LH) (f36:Array Value),ca=Sum.inr Z∧Jn a3 H a6 [bX O f36 133] [(0,.slice (AZ O) V U),(1,iV Z.1),(2,iV Z.2.1),(3,iV p3),(4,(fV 134)),(10,.bool Z.2.2.1),(11,.bool Z.2.2.2.1)] L s (WL 133 Cw a6 O U V f36 Z.2.2.2.2)) ?_ ?_
  ·rintro _ _ ⟨Z,a6,f36,rfl,rfl,rfl,cc,cd,ce⟩;have cf:=elim_inr bn;obtain rfl:=oi cf;exact Ay (b9 _ _ Z ⟨a6,f36,rfl,rfl,(bi.Ac cc),cd,ce⟩ a5) rfl
  ·intro cg;obtain⟨al,ci,ck⟩:=bs cb;refine zg 5 rfl (Ci ci rfl rfl rfl ?_);refine zg 8 rfl (AN ck (fun cm cn=>?_) (fun cm co=>?_))
   ·obtain⟨eL,cp,cq⟩:=bs cn;refine zg 6 rfl (B6 0 (Sp a4 cp) rfl rfl N6 bz rfl ?_);rintro _ eM _ cr ⟨f52,rfl,rfl,ct⟩ cu;refine JL.done ?_;obtain rfl:=oi cq;have cv:=elim_inl bn;obtain rfl:=oi cv;obtain rfl:=bA _ a5;have cw:=elim_inl bx;obtain rfl:=oi cw;exact AD func162 rfl rfl (bw (bi.Ac cr) rfl ⟨f52,rfl,(by first | rfl | simp | (simp [Value.cells])),ct⟩ cu)
   ·refine zg 7 rfl (AN co (fun cy cz=>?_) (fun cy cA=>?_))
    ·refine zg 6 rfl ?_;cases cz
    ·refine zg 5 rfl (AB (v:= .bool (!K.2.2.1)) rfl (fun ρ h=>Yl.not (h _ _ rfl)) ?_);obtain⟨eN,cB,cC⟩:=bs cA;refine JL.done (C7 [bX O f22 133] [(0,.slice (AZ O) V U),(1,iV K.1),(2,iV K.2.1),(3,iV p3),(4,(fV 134)),(10,.bool K.2.2.1),(11,.bool K.2.2.2.1),(12,iV al)] (fun eO av cD=>?_) (fun cE=>?_))
     ·obtain⟨eP,cF,cG⟩:=bs cC;refine zg 6 rfl (B6 0 (SD (a4.Ah av) cF) rfl rfl (AR func181 rfl) cD rfl ?_);rintro _ bC _ a7 ⟨rfl,rfl⟩ bD;obtain⟨Y,cH,cI⟩:=bs cG;refine zg 12 rfl (Br (fun L s=>∃(bo:LH) (f84:Array Value),Jn bC H bo [bX O f84 133] [(0,.slice (AZ O) V U),(1,iV K.1),(2,iV K.2.1),(3,iV p3),(4,(fV 134)),(10,.bool K.2.2.1),(11,.bool K.2.2.2.1),(12,iV al),(13,iV Y.1),(14,iV Y.2.1)] L s (WL 133 Cw bo O U V f84 Y.2.2)) ?_ ?_)
      ·rintro _ _ ⟨bo,f84,rfl,rfl,bE,bF,bG⟩;obtain⟨cJ,cK,cM⟩:=bs cI;refine zg 5 rfl (Dq 4 4 [bX O f84 133] [(0,.slice (AZ O) V U),(1,iV K.1),(2,iV K.2.1),(3,iV p3),(4,(fV 134)),(10,.bool K.2.2.1),(11,.bool K.2.2.2.1),(12,iV al),(13,iV Y.1),(14,iV Y.2.1),(71,.bool cJ)] (fun bp a8 bH=>?_) (fun bI=>?_))
       ·obtain⟨cN,cO,cP⟩:=bs cM;refine zg 1 rfl (Et [] (fun L s=>∃(a9:LH),Jm bp H a9 [bX O f84 133] [(0,.slice (AZ O) V U),(1,iV K.1),(2,iV K.2.1),(3,iV p3),(4,(fV 134)),(10,.bool K.2.2.1),(11,.bool K.2.2.2.1),(12,iV al),(13,iV Y.1),(75,.bool cN)] L s) ?_ ?_)
        ·rintro _ _ ⟨a9,rfl,rfl,bb,bJ⟩;obtain⟨cQ,cR,bK⟩:=bs cP;refine JL.done (Br (fun L s=>∃(bq:(List Bu)) (a0:LH) (f105:Array Value),cQ=Sum.inr bq∧Jn a9 H a0 [bX O f105 133] [(0,.slice (AZ O) V U),(1,iV K.1),(2,iV K.2.1),(3,iV p3),(4,(fV 134)),(10,.bool K.2.2.1),(11,.bool K.2.2.2.1),(12,iV al),(13,iV Y.1)] L s (WL 133 Cw a0 O U V f105 bq)) ?_ ?_)
         ·rintro _ _ ⟨bq,a0,f105,rfl,rfl,rfl,cT,a1,a2⟩;have cV:=elim_inr bK;refine zg 2 rfl (Di 17 [O] ⟨⟨0,_,rfl⟩,trivial⟩ a1 fun ht=>?_);refine A2 ht rfl [0,1,2] rfl ?_;obtain⟨cW,bL,cX⟩:=bs cV;refine EO 0 #[true,true,true,true,true,true,true,true,true,true,true,true,true,true,true,true,true] (fun L s=>∃(bM:LH),Jm a0 H bM [bX O f105 133] [(0,.slice (AZ O) V U),(1,iV K.1),(2,iV K.2.1),(3,iV p3),(4,(fV 134)),(10,.bool K.2.2.1),(11,.bool K.2.2.2.1),(12,iV al),(13,iV Y.1),(97,.bool cW)] L s) ?_ ?_
          ·rintro _ _ ⟨bM,rfl,rfl,bN,cY⟩;refine AY.fin (by decide+kernel) (BF cX (fun cZ c0=>?_) (fun cZ c1=>?_))
           ·refine zg 7 rfl ?_;cases c0
           ·obtain⟨bO,c2,c3⟩:=bs c1;refine zg 8 rfl (B6 0 (Sm (a2.Ah bN) c2) rfl rfl (AR func185 rfl) cY rfl ?_);rintro _ c4 _ c5 ⟨f123,rfl,rfl,bP⟩ bQ;obtain⟨eQ,c6,c7⟩:=bs c3;refine zg 15 rfl (Ci c6 rfl rfl rfl ?_);obtain⟨eR,c8,c9⟩:=bs c7;refine zg 2 rfl (Ci c8 rfl rfl rfl ?_);obtain⟨da,db,dc⟩:=bs c9;refine zg 6 rfl (AB (v:=iV da) rfl (fun ρ h=>K1 (h _ _ rfl) (h _ _ rfl) db) ?_);obtain⟨ag,dd,de⟩:=bs dc;refine zg 8 rfl (Br (fun L s=>∃(bd:LH) (f138:Array Value),Jn c4 H bd [bX O f138 133] [(0,.slice (AZ O) V U),(1,iV ag.1),(2,iV ag.2.1),(3,iV p3),(4,(fV 134)),(10,.bool ag.2.2.1),(11,.bool bO.2.1)] L s (WL 133 Cw bd O U V f138 ag.2.2.2)) ?_ ?_)
            ·rintro _ _ ⟨bd,f138,rfl,rfl,df,dg,dh⟩;exact Mk (Ay (cg _ _ ⟨(ag.1,ag.2.1,ag.2.2.1,bO.2.1,ag.2.2.2),bd,f138,(Option.some.inj de).symm,rfl,rfl,((((((((av.Ac a7).Ac bE).Ac a8).Ac bb).Ac cT).Ac bN).Ac c5).Ac df),dg,dh⟩) rfl)
            ·intro bR;refine AN dd (fun di dj=>?_) (fun di dk=>?_)
             ·obtain⟨eS,dl,dm⟩:=bs dj;refine zg 14 rfl (B6 0 (Sb bP dl) rfl rfl Ma bQ rfl ?_);rintro _ dn _ dp ⟨f150,rfl,rfl,dq⟩ dr;obtain⟨eT,dt,du⟩:=bs dm;refine zg 3 rfl (Be dt rfl rfl rfl ?_);refine zg 2 rfl ?_;obtain rfl:=oi du;exact Ay (bR _ _ ⟨dn,f150,rfl,rfl,dp,dr,dq⟩) rfl
             ·obtain⟨eU,dv,dw⟩:=bs dk;refine zg 11 rfl (Be dv rfl rfl rfl ?_);obtain⟨eV,dx,dy⟩:=bs dw;refine zg 3 rfl (B6 0 (Sb bP dx) rfl rfl Ma bQ rfl ?_);rintro _ dz _ dA ⟨f165,rfl,rfl,dB⟩ dC;refine zg 5 rfl ?_;obtain rfl:=oi dy;exact Ay (bR _ _ ⟨dz,f165,rfl,rfl,dA,dC,dB⟩) rfl
          ·intro bS;refine FI (q:=0<K.1) (i:=83) rfl (fun br=>?_) (fun br=>?_)
           ·have dD:=ip bL br;refine A2 ht rfl [3,4,5] rfl ?_;obtain⟨eW,dE,dF⟩:=bs dD;refine Bx 6 ht rfl rfl (fun ρ h s' hs=>C5 (h _ _ rfl) (h _ _ rfl) dE) ?_;obtain⟨am,bT,dG⟩:=bs dF;obtain⟨_,⟨_,_,rfl,rfl,⟨_,_,rfl,rfl,⟨bU,bV,rfl,dH⟩⟩⟩,dI⟩:=WL.at a2 bT;refine F7 7 ht (a2).2 bT underlying130 AS ?_;refine DZ 8 ht [iV am.1,iV am.2.1,sV bU am.2.2 bV] 0 a1 dI Cr AS ?_;refine A2 ht rfl [9,10] rfl ?_;obtain⟨ap,bW,dJ⟩:=bs dG;obtain⟨_,⟨_,_,rfl,rfl,⟨_,_,rfl,rfl,⟨bY,bZ,rfl,dK⟩⟩⟩,dL⟩:=WL.at a2 bW;refine F7 11 ht (a2).2 bW underlying130 AS ?_;refine DZ 12 ht [iV ap.1,iV ap.2.1,sV bY ap.2.2 bZ] 0 a1 dL Cr AS ?_;obtain⟨dM,dN,dO⟩:=bs dJ;refine HO (i:=13) ⟨⟨0,_,rfl⟩,trivial⟩ (vs:= [.agg #[iV am.1,iV am.2.1,sV bU am.2.2 bV],.agg #[iV ap.1,iV ap.2.1,sV bY ap.2.2 bZ]]) (G4 dH dK dN) (by decide+kernel) rfl rfl rfl rfl GU rfl a1 ?_;rintro _ dP _ dQ ⟨rfl,rfl⟩ dR;refine Ch 14 ht rfl rfl ?_;refine Bx (v:= .bool (decide (¬(dM<0)))) 15 ht rfl rfl (fun ρ h s' hs=>I3 (h _ _ rfl)) ?_;refine Ch 16 ht rfl rfl ?_;obtain rfl:=oi dO;refine C4 ?_ (bS _ _ ⟨dP,rfl,rfl,dQ,dR⟩);exact⟨rfl,rfl,rfl,rfl,rfl,rfl,rfl,rfl,rfl,rfl,trivial⟩
           ·have dS:=im bL br;refine A2 ht rfl [3,4,5,6,7,8,9,10,11,12,13,14,15,16] rfl ?_;obtain rfl:=oi dS;refine C4 ?_ (bS _ _ ⟨a0,rfl,rfl,Ar,a1⟩);exact⟨rfl,rfl,rfl,rfl,rfl,rfl,rfl,rfl,rfl,rfl,trivial⟩
         ·intro b0;refine BF cR (fun dT dU=>?_) (fun dT dV=>?_)
          ·obtain⟨dW,dX,dY⟩:=bs dU;refine zg 6 rfl (B6 0 (S1 (bG.Ah (a8.Ac bb)) dX) rfl rfl (AR func183 rfl) bJ rfl ?_);rintro _ dZ _ b1 ⟨f205,rfl,rfl,b2⟩ b3;refine JL.done (BF dY (fun ea eb=>?_) (fun ea ec=>?_))
           ·obtain rfl:=oi eb;have ed:=elim_inl bK;obtain rfl:=oi ed;have ee:=elim_inl bn;obtain rfl:=oi ee;obtain rfl:=bA _ a5;have ef:=elim_inl bx;obtain rfl:=oi ef;exact AD func162 rfl rfl (bw ((((((bi.Ac av).Ac a7).Ac bE).Ac a8).Ac bb).Ac b1) rfl ⟨f205,rfl,(by first | rfl | simp | (simp [Value.cells])),b2⟩ b3)
           ·exact JL.skip (Ay (b0 _ _ ⟨dW.2,dZ,f205,(Option.some.inj ec).symm,rfl,rfl,b1,b3,b2⟩) rfl)
          ·exact JL.skip (Ay (b0 _ _ ⟨Y.2.2,a9,f84,(Option.some.inj dV).symm,rfl,rfl,Ar,bJ,(bG.Ah (a8.Ac bb))⟩) rfl)
        ·intro b4;refine DO 72 cO (fun eg eh=>?_) (fun eg ei=>?_)
         ·refine zg 3 rfl ?_;obtain rfl:=oi eh;exact Ay (b4 _ _ ⟨bp,rfl,rfl,Ar,bH⟩) rfl
         ·refine zg 3 rfl ?_;obtain rfl:=oi ei;exact Ay (b4 _ _ ⟨bp,rfl,rfl,Ar,bH⟩) rfl
       ·refine DO 69 cK (fun ej ek=>?_) (fun ej el=>?_)
        ·refine zg 2 rfl ?_;obtain rfl:=oi ek;exact bI Ar bF rfl
        ·refine zg 2 rfl ?_;obtain rfl:=oi el;exact bI Ar bF rfl
      ·intro b5;refine AN cH (fun em en=>?_) (fun em eo=>?_)
       ·obtain⟨eX,ep,eq⟩:=bs en;refine zg 6 rfl (B6 0 (SM (a4.Ah (av.Ac a7)) ep) rfl rfl (AR func182 rfl) bD rfl ?_);rintro _ er _ et ⟨eu,rfl,rfl,ew⟩ ex;obtain⟨eY,ey,ez⟩:=bs eq;refine zg 4 rfl (Ci ey rfl rfl rfl ?_);obtain⟨eZ,eA,eB⟩:=bs ez;refine zg 2 rfl (Ci eA rfl rfl rfl ?_);obtain⟨e0,eC,eD⟩:=bs eB;refine Ci eC rfl rfl rfl (zg 5 rfl ?_);obtain rfl:=oi eD;exact Ay (b5 _ _ ⟨er,eu,rfl,rfl,et,ex,ew⟩) rfl
       ·refine JL.skip ?_;obtain rfl:=oi eo;exact Ay (b5 _ _ ⟨bC,f22,rfl,rfl,Ar,bD,(a4.Ah (av.Ac a7))⟩) rfl
     ·refine BF cB (fun eE eF=>?_) (fun eE eG=>?_)
      ·refine zg 6 rfl ?_;cases eF
      ·refine JL.skip ?_;obtain rfl:=oi eG;exact cE Ar bz rfl
def f133(fuel:Nat)(p0:List Bu):Option ((List Bu)):= (f163 fuel (Dh (p0.length:Int))).bind fun K=> (f162 fuel p0 0 (p0.length:Int) K).bind fun O=> some O
theorem ZV{K:Nat}{O:Nat}{U:Nat}{V:Array Value}{p0:List (Bu)}(hW:WL 133 Cw E K O U V p0){fuel:Nat}{r:(List Bu)}(Y:f133 fuel p0=some r):AL J 133 [.slice (AZ K) U O,(fV 134)] E [(K,.cells V 133 (0,0))] (fun w E' B'=>∃(Z:Array Value),w= .tuple #[]∧B'= [(K,.cells Z 133 (0,0))]∧WL 133 Cw E' K O U Z r):=by
 refine A4 func133 fun Q a6 cs H al am=>?_;unfold f133 at Y;refine zg 3 rfl (AB (v:=iV (p0.length:Int)) rfl (fun ρ h=>R8 (hW).2 rfl underlying130 (h _ _ rfl)) ?_);refine zg 6 rfl (AB (v:= .int .u64 ((Dh (p0.length:Int):Nat):Int)) rfl (fun ρ h=>Yl.Dh underlying3 underlying156 (h _ _ rfl)) ?_);obtain⟨a7,ap,av⟩:=bs Y;refine BD (SB ap) rfl rfl (AR func163 rfl) al fun a8 ag a0=>?_;obtain⟨a9,a1,a2⟩:=bs av;refine zg 1 rfl (B6 0 (Zh (hW.Ah ag) a1) rfl rfl Ma a0 rfl ?_);rintro _ bb _ a3 ⟨f12,rfl,rfl,a4⟩ a5;refine JL.done ?_;obtain rfl:=oi a2;exact JL.fin (v:= .tuple #[]) rfl rfl (Cd.list func133 rfl (vs:= []) trivial) (am (ag.Ac a3) rfl ⟨f12,rfl,(by first | rfl | simp | (simp [Value.cells])),a4⟩ a5)
end Pal
namespace Pal
def A0{α:Type}(o:Option α)(Q:α→Prop):Prop:=∃a,o=some a∧Q a
section
variable {α β:Type}{Q R:α→Prop}
theorem Ak{a:α}(h:Q a):A0 (some a) Q:=⟨a,rfl,h⟩
theorem A0.Ah{o:Option α}(h:A0 o R)(k:∀a,R a→Q a):A0 o Q:=let ⟨a,K,O⟩:=h;⟨a,K,k a O⟩
theorem A0.of_eq{o:Option α}{a:α}(h:o=some a)(k:Q a):A0 o Q:=⟨a,h,k⟩
theorem AE{o:Option β}{f:β→Option α}{S:β→Prop}(h:A0 o S)(k:∀b,S b→A0 (f b) Q):A0 (o.bind f) Q:=by
 obtain⟨b,rfl,hb⟩:=h;obtain⟨a,K,O⟩:=k b hb;exact⟨a,K,O⟩
theorem AM{o:Option β}{f:β→Option α}{b:β}(h:o=some b)(k:A0 (f b) Q):A0 (o.bind f) Q:=by subst h;exact k
theorem A0.bj{f:Int→Option α}{x:Int}(K: -9223372036854775808≤x)(O:x≤9223372036854775807)(k:A0 (f x) Q):A0 ((As x).bind f) Q:=AM (if_pos ⟨K,O⟩) k
theorem D6{xs:List β}{i:Int}{m:Nat}{b:β}(h:i=(m:Int))(hb:xs[m]? =some b):ix xs i=some b:=by subst h;simpa [ix] using hb
theorem Bl{f:β→Option α}{xs:List β}{i:Int}{m:Nat}(h:i=(m:Int))(hm:m<xs.length)(k:A0 (f xs[m]) Q):A0 ((ix xs i).bind f) Q:=AM (D6 h (List.getElem?_eq_getElem hm)) k
theorem IT{f:List β→Option α}{xs:List β}{x:β}(h:xs.length+1≤2 ^ 40)(k:A0 (f (xs++ [x])) Q):A0 ((room xs x).bind f) Q:=AM (if_pos h) k
theorem Bn{c:Prop} [Decidable c] {x y:Option α}(K:c→A0 x Q)(O:¬c→A0 y Q):A0 (if c then x else y) Q:=by
 by_cases h:c
 ·rw [if_pos h];exact K h
 ·rw [if_neg h];exact O h
theorem Bs{c:Prop} [Decidable c] {x y:Option α}(h:c)(k:A0 x Q):A0 (if c then x else y) Q:=by rw [if_pos h];exact k
theorem A5{c:Prop} [Decidable c] {x y:Option α}(h:¬c)(k:A0 y Q):A0 (if c then x else y) Q:=by rw [if_neg h];exact k
def Bi.sat{S A:Type}(I:S→Prop)(Q:A→Prop):Bi S A→Prop
 | .more s=>I s
 | .done a=>Q a
theorem MD{S:Type}{body:S→Option (Bi S α)}(I:Nat→S→Prop)(round:∀m s,I m s→A0 (body s) (Bi.sat (fun s'=>∃m',m'<m∧I m' s') Q)):
  ∀{m fuel:Nat} {s:S},I m s→m<fuel→A0 (iter body fuel s) Q:=by
 intro m
 induction m using Nat.strongRecOn with
 | _ m O=>
  intro fuel s U ag;obtain⟨fuel,rfl⟩:∃k,fuel=k+1:=⟨fuel - 1,by omega⟩;obtain⟨st,V,K⟩:=round m s U;unfold Pal.iter;rw [V];cases st with
  | more s'=>
   obtain⟨m',Y,Z⟩:=K;exact O m' Y Z (by omega)
  | done a=>exact⟨a,rfl,K⟩
end
end Pal
namespace Pal
open Go.Sort
abbrev PT:=Int×Int×(List (Int×(List Int)×Nat))
def AO(x y:PT):Bool:=decide (x.1<y.1)
theorem MI:SWO AO:=⟨fun x=>by simp [AO],fun x y z K O=>by simp [AO] at*;omega,fun x y z K O=>by simp [AO] at*;omega⟩
def KO(xs:List PT):Prop:=∀x∈xs,0≤x.1∧x.1≤1000
theorem KS{fuel:Nat}{x y:PT}(K:0≤x.1∧x.1≤1000)(O:0≤y.1∧y.1≤1000):f134 fuel x y=some (x.1 - y.1):=by
 unfold f134;rw [show As (x.1 - y.1)=some (x.1 - y.1) from if_pos (by omega)];rfl
theorem JV(x y:PT):decide (x.1 - y.1<0)=AO x y:=by unfold AO;congr 1;apply propext;omega
theorem KO.get{xs:List PT}(h:KO xs){i:Nat}(hi:i<xs.length):0≤xs[i].1∧xs[i].1≤1000:=h _ (List.getElem_mem hi)
theorem KO.set{xs:List PT}(h:KO xs){i:Nat}{x:PT}(K:0≤x.1∧x.1≤1000):KO (xs.set i x):=fun y O=>by
 rcases List.mem_or_eq_of_mem_set O with q | q
 ·exact h y q
 ·subst q;exact K
theorem IZ{xs:List PT}{i j:Nat}(hi:i<xs.length)(K:j<xs.length):((xs.set i xs[j]).set j xs[i]).toArray=swp xs.toArray i j:=by
 unfold swp;rw [show xs.toArray[j]! =xs[j] by simp [getElem!_pos,K],show xs.toArray[i]! =xs[i] by simp [getElem!_pos,hi]];simp
theorem Gy{xs:List PT}{i:Nat}(hi:i<xs.length):xs.toArray[i]! =xs[i]:=by simp [getElem!_pos,hi]
section
variable {α:Type}{Q:α→Prop}
theorem AW{f:Int→Option α}{x:Int}(y:Int)(h:x=y)(K: -9223372036854775808≤y)(O:y≤9223372036854775807)(k:A0 (f y) Q):A0 ((As x).bind f) Q:=by subst h;exact A0.bj K O k
end
theorem X6{F:Nat}(a:Nat):∀(j fuel:Nat) (xs:List PT),j<fuel→j<xs.length→xs.length<1000→KO xs→
  A0 (iter (JJ F (a:Int)) fuel ((j:Int),xs)) (fun ys=>ys.toArray=insInner AO a j xs.toArray∧KO ys∧ys.length=xs.length):=by
 intro j
 induction j with
 | zero=>
  intro fuel xs al U Z K;obtain⟨fuel,rfl⟩:∃k,fuel=k+1:=⟨fuel - 1,by omega⟩;refine⟨xs,?_,rfl,K,rfl⟩;have am:¬((a:Int)<0):=by omega
  simp [iter,JJ,am]
 | succ j ap=>
  intro fuel xs al U Z K;obtain⟨fuel,rfl⟩:∃k,fuel=k+1:=⟨fuel - 1,by omega⟩;have O:j<xs.length:=by omega
  have av:A0 (JJ F (a:Int) (((j+1:Nat):Int),xs)) (fun st=>st=if(decide (j+1>a)&&AO xs[j+1] xs[j])=true then .more ((j:Int),(xs.set (j+1) xs[j]).set j xs[j+1]) else .done xs):=by
   unfold JJ;refine AE (S:=fun c=>c=(decide (j+1>a)&&AO xs[j+1] xs[j])) ?_ ?_
   ·refine Bn (fun h=>?_) (fun h=>?_)
    ·have Y:a<j+1:=by simp at h;omega
     refine Bl (m:=j+1) rfl U (AW (j:Int) (by simp) (by omega) (by omega) ?_);refine Bl (m:=j) rfl O (AM (KS (K.get U) (K.get O)) ?_);refine Ak ?_;rw [JV];simp [Y]
    ·have Y:¬a<j+1:=by simp at h;omega
     refine Ak ?_;simp [Y]
   ·rintro c rfl;refine Bn (fun h=>?_) (fun h=>?_)
    ·refine AW (j:Int) (by simp) (by omega) (by omega) (AW (j:Int) (by simp) (by omega) (by omega) ?_);refine Bl (m:=j) rfl O (Bl (m:=j+1) rfl U ?_);refine AM (b:=(xs.set (j+1) xs[j])[j]'(by simpa using O)) (D6 rfl (List.getElem?_eq_getElem _)) ?_;refine AW (j:Int) (by simp) (by omega) (by omega) (Ak ?_);rw [if_pos h];simp
    ·refine Ak ?_;rw [if_neg h]
  obtain⟨st,a0,rfl⟩:=av;unfold iter;rw [a0];have V:insInner AO a (j+1) xs.toArray=if(decide (j+1>a)&&AO xs[j+1] xs[j])=true then insInner AO a j (swp xs.toArray (j+1) j) else xs.toArray:=by
   rw [insInner,Gy U,Gy O]
  by_cases ag:(decide (j+1>a)&&AO xs[j+1] xs[j])=true
  ·rw [if_pos ag] at V ⊢;have a1:KO ((xs.set (j+1) xs[j]).set j xs[j+1]):=(K.set (K.get O)).set (K.get U);refine(ap fuel ((xs.set (j+1) xs[j]).set j xs[j+1]) (by omega) (by simpa using O) (by simpa using Z) a1).Ah ?_;rintro ys ⟨a2,a3,a4⟩;refine⟨?_,a3,by simpa using a4⟩;rw [a2,IZ U O,V]
  ·rw [if_neg ag] at V ⊢;exact⟨xs,rfl,V.symm,K,rfl⟩
theorem Wn{F:Nat}(a b:Nat)(av:2000<F):∀(m i fuel:Nat) (xs:List PT),b - i=m→m<fuel→b≤xs.length→xs.length<1000→KO xs→
  A0 (iter (I5 F (a:Int) (b:Int)) fuel ((i:Int),xs)) (fun ys=>ys.toArray=insOuter AO a b i xs.toArray∧KO ys∧ys.length=xs.length):=by
 intro m
 induction m with
 | zero=>
  intro i fuel xs hm Y hb V O;obtain⟨fuel,rfl⟩:∃k,fuel=k+1:=⟨fuel - 1,by omega⟩;have U:¬i<b:=by omega
  have K:A0 (I5 F (a:Int) (b:Int) ((i:Int),xs)) (fun st=>st= .done xs):=by
   unfold I5;exact A5 (show ¬(i:Int)<(b:Int) by omega) (Ak rfl)
  obtain⟨st,K,rfl⟩:=K;unfold iter;rw [K];refine⟨xs,rfl,?_,O,rfl⟩;rw [insOuter,if_neg U]
 | succ m Z=>
  intro i fuel xs hm Y hb V O;obtain⟨fuel,rfl⟩:∃k,fuel=k+1:=⟨fuel - 1,by omega⟩;have U:i<b:=by omega
  obtain⟨ys,ag,al,am,a0⟩:=X6 (F:=F) a i F xs (by omega) (by omega) V O;have K:A0 (I5 F (a:Int) (b:Int) ((i:Int),xs)) (fun st=>st= .more (((i+1:Nat):Int),ys)):=by
   unfold I5;refine Bs (show(i:Int)<(b:Int) by omega) (AM ag ?_);exact AW ((i+1:Nat):Int) (by simp) (by omega) (by omega) (Ak rfl)
  obtain⟨st,K,rfl⟩:=K;unfold iter;rw [K];refine(Z (i+1) fuel ys (by omega) (by omega) (by omega) (by omega) am).Ah ?_;rintro a1 ⟨k1,ap,a2⟩;refine⟨?_,ap,by omega⟩;rw [k1,al,insOuter.eq_def AO a b i,if_pos U]
theorem R9{F a b:Nat}{xs:List PT}(K:2000<F)(hb:b≤xs.length)(O:xs.length<1000)(U:KO xs)(ag:a≤b):
  A0 (f178 F xs (a:Int) (b:Int)) (fun ys=>ys.toArray=insertionSort AO xs.toArray a b∧KO ys∧ys.length=xs.length):=by
 unfold f178;refine AW ((a+1:Nat):Int) (by simp) (by omega) (by omega) (AE (Wn (F:=F) a b K (b - (a+1)) (a+1) F xs rfl (by omega) hb O U) ?_);rintro ys ⟨V,Y,Z⟩;exact⟨ys,rfl,V,Y,Z⟩
end Pal
namespace Pal
open Go.Sort
theorem OU{F a b sw:Nat}{xs:List PT}(O:a<xs.length)(hb:b<xs.length)(hs:sw<1000)(V:xs.length<1000)(U:KO xs):
  f200 F xs (a:Int) (b:Int) (sw:Int)=some ((((order2 AO xs.toArray a b sw).1:Nat):Int),(((order2 AO xs.toArray a b sw).2.1:Nat):Int),(((order2 AO xs.toArray a b sw).2.2:Nat):Int)):=by
 have h:A0 (f200 F xs (a:Int) (b:Int) (sw:Int)) (fun r=>r=((((order2 AO xs.toArray a b sw).1:Nat):Int),(((order2 AO xs.toArray a b sw).2.1:Nat):Int),(((order2 AO xs.toArray a b sw).2.2:Nat):Int))):=by
  unfold f200;refine Bl (m:=b) rfl hb (Bl (m:=a) rfl O ?_);refine AM (KS (U.get hb) (U.get O)) ?_;have e:order2 AO xs.toArray a b sw=if AO xs[b] xs[a] then(b,a,sw+1) else(a,b,sw):=by unfold order2;rw [Gy O,Gy hb]
  refine Bn (fun h=>?_) (fun h=>?_)
  ·have K:AO xs[b] xs[a]=true:=by rw [← JV];exact decide_eq_true h
   refine AW ((sw+1:Nat):Int) (by simp) (by omega) (by omega) (Ak ?_);rw [e,if_pos K]
  ·have K:¬AO xs[b] xs[a]=true:=by rw [← JV];simpa using h
   refine Ak ?_;rw [e,if_neg K]
 obtain⟨r,K,rfl⟩:=h;exact K
theorem QG{n a b sw:Nat}{d:Array PT}(K:a<n)(hb:b<n):(order2 AO d a b sw).1<n∧(order2 AO d a b sw).2.1<n∧(order2 AO d a b sw).2.2≤sw+1:=by
 unfold order2;split
 ·exact⟨hb,K,Nat.le_refl _⟩
 ·exact⟨K,hb,Nat.le_succ _⟩
theorem XU{F a b c sw:Nat}{xs:List PT}(U:a<xs.length)(hb:b<xs.length)(V:c<xs.length)(hs:sw<900)(K:xs.length<1000)(O:KO xs):
  f197 F xs (a:Int) (b:Int) (c:Int) (sw:Int)=some ((((median AO xs.toArray a b c sw).1:Nat):Int),(((median AO xs.toArray a b c sw).2:Nat):Int)):=by
 unfold f197 median;obtain⟨Z,Y,al⟩:=QG (sw:=sw) (d:=xs.toArray) U hb;rw [OU U hb (by omega) K O];simp only [Option.bind_some];obtain⟨ag,am,ap⟩:=QG (sw:=(order2 AO xs.toArray a b sw).2.2) (d:=xs.toArray) Y V;rw [OU Y V (by omega) K O];simp only [Option.bind_some];rw [OU Z ag (by omega) K O];simp only [Option.bind_some]
def ID:Hint→Int | .unknown=>0 | .increasing=>1 | .decreasing=>2
theorem A0.quo{α:Type}{Q:α→Prop}{f:Int→Option α}{x:Int}(m k:Nat)(K:x=(m:Int))(hm:m<1000)(O:0<k)(h:A0 (f ((m / k:Nat):Int)) Q):A0 ((Hz x (k:Int)).bind f) Q:=by
 subst K;refine AM ?_ h;unfold Hz;rw [if_neg (by omega)];have e:((m:Int).tdiv (k:Int))=((m / k:Nat):Int):=by rw [Int.tdiv_eq_ediv_of_nonneg (by omega)];rfl
 have hle:m / k≤m:=Nat.div_le_self _ _;rw [e];generalize m / k=z at hle ⊢;exact if_pos (by omega)
theorem XE{F a b:Nat}{xs:List PT}(av:a+8≤b)(a0:b<a+50)(hb:b≤xs.length)(Z:xs.length<1000)(ag:KO xs):
  f181 F xs (a:Int) (b:Int)=some ((((choosePivot AO xs.toArray a b).1:Nat):Int),ID (choosePivot AO xs.toArray a b).2):=by
 have h:A0 (f181 F xs (a:Int) (b:Int)) (fun r=>r=((((choosePivot AO xs.toArray a b).1:Nat):Int),ID (choosePivot AO xs.toArray a b).2)):=by
  unfold f181;have a1:(b - a) / 4≤b - a:=Nat.div_le_self _ _;have a2:(b - a) / 4*3<b - a:=by omega
  refine AW ((b - a:Nat):Int) (by omega) (by omega) (by omega) (A0.quo (b - a) 4 rfl (by omega) (by omega) ?_);refine AW (((b - a) / 4*1:Nat):Int) (by push_cast;rfl) (by omega) (by omega) (AW ((a+(b - a) / 4*1:Nat):Int) (by push_cast;rfl) (by omega) (by omega) ?_);refine A0.quo (b - a) 4 rfl (by omega) (by omega) (AW (((b - a) / 4*2:Nat):Int) (by push_cast;rfl) (by omega) (by omega) ?_);refine AW ((a+(b - a) / 4*2:Nat):Int) (by push_cast;rfl) (by omega) (by omega) (A0.quo (b - a) 4 rfl (by omega) (by omega) ?_);refine AW (((b - a) / 4*3:Nat):Int) (by push_cast;rfl) (by omega) (by omega) (AW ((a+(b - a) / 4*3:Nat):Int) (by push_cast;rfl) (by omega) (by omega) ?_);have al:choosePivot AO xs.toArray a b=((median AO xs.toArray (a+(b - a) / 4*1) (a+(b - a) / 4*2) (a+(b - a) / 4*3) 0).1,if(median AO xs.toArray (a+(b - a) / 4*1) (a+(b - a) / 4*2) (a+(b - a) / 4*3) 0).2=0 then .increasing else if(median AO xs.toArray (a+(b - a) / 4*1) (a+(b - a) / 4*2) (a+(b - a) / 4*3) 0).2=12 then .decreasing else .unknown):=by
   unfold choosePivot;simp only;rw [if_pos (by omega),if_neg (by omega)]
  rw [al];generalize am:median AO xs.toArray (a+(b - a) / 4*1) (a+(b - a) / 4*2) (a+(b - a) / 4*3) 0=K;refine AE (S:=fun r=>r=(((K.1:Nat):Int),((K.2:Nat):Int))) ?_ ?_
  ·refine Bs (by omega) (AE (S:=fun _=>True) (A5 (by omega) (Ak trivial)) fun _ _=>?_);have Y:=XU (F:=F) (a:=a+(b - a) / 4*1) (b:=a+(b - a) / 4*2) (c:=a+(b - a) / 4*3) (sw:=0) (xs:=xs) (by omega) (by omega) (by omega) (by omega) Z ag;rw [am] at Y;exact AM Y (Ak rfl)
  ·rintro r rfl;refine Bn (fun h=>?_) (fun h=>?_)
   ·have O:K.2=0:=by simp at h;omega
    rw [if_pos O];exact Ak rfl
   ·have O:¬K.2=0:=by simp at h;omega
    rw [if_neg O];refine Bn (fun U=>?_) (fun U=>?_)
    ·have V:K.2=12:=by simp at U;omega
     rw [if_pos V];exact Ak rfl
    ·have V:¬K.2=12:=by simp at U;omega
     rw [if_neg V];exact Ak rfl
 obtain⟨r,ap,rfl⟩:=h;exact ap
theorem Xg{F:Nat}:∀(m i j fuel:Nat) (xs:List PT),j - i≤m→m<fuel→(i<j→j<xs.length)→i≤xs.length→j≤xs.length→xs.length<1000→KO xs→
  A0 (iter (HQ F) fuel ((i:Int),(j:Int),xs)) (fun ys=>ys.toArray=reverseLoop i j xs.toArray∧KO ys∧ys.length=xs.length):=by
 intro m
 induction m with
 | zero=>
  intro i j fuel xs hm al Z hi am ag K;obtain⟨fuel,rfl⟩:∃k,fuel=k+1:=⟨fuel - 1,by omega⟩;have O:¬i<j:=by omega
  have U:A0 (HQ F ((i:Int),(j:Int),xs)) (fun st=>st= .done xs):=by
   unfold HQ;exact A5 (show ¬(i:Int)<(j:Int) by omega) (Ak rfl)
  obtain⟨st,hb,rfl⟩:=U;unfold iter;rw [hb];refine⟨xs,rfl,?_,K,rfl⟩;rw [reverseLoop,if_neg O]
 | succ m ap=>
  intro i j fuel xs hm al Z hi am ag K;obtain⟨fuel,rfl⟩:∃k,fuel=k+1:=⟨fuel - 1,by omega⟩;by_cases O:i<j
  ·have V:=Z O;have Y:i<xs.length:=by omega
   have U:A0 (HQ F ((i:Int),(j:Int),xs)) (fun st=>st= .more (((i+1:Nat):Int),((j - 1:Nat):Int),(xs.set i xs[j]).set j xs[i])):=by
    unfold HQ;refine Bs (show(i:Int)<(j:Int) by omega) (Bl (m:=j) rfl V ?_);refine Bl (m:=i) rfl Y (AW ((i+1:Nat):Int) (by simp) (by omega) (by omega) ?_);exact AW ((j - 1:Nat):Int) (by simp;omega) (by omega) (by omega) (Ak rfl)
   obtain⟨st,hb,rfl⟩:=U;unfold iter;rw [hb];refine(ap (i+1) (j - 1) fuel ((xs.set i xs[j]).set j xs[i]) (by omega) (by omega) (by simp;omega) (by simp;omega) (by simp;omega) (by simpa using ag) ((K.set (K.get V)).set (K.get Y))).Ah ?_;rintro ys ⟨av,a0,a1⟩;refine⟨?_,a0,by simpa using a1⟩;rw [av,IZ Y V,reverseLoop.eq_def i j,if_pos O]
  ·have U:A0 (HQ F ((i:Int),(j:Int),xs)) (fun st=>st= .done xs):=by
    unfold HQ;exact A5 (show ¬(i:Int)<(j:Int) by omega) (Ak rfl)
   obtain⟨st,hb,rfl⟩:=U;unfold iter;rw [hb];refine⟨xs,rfl,?_,K,rfl⟩;rw [reverseLoop,if_neg O]
theorem XV{F a b:Nat}{xs:List PT}(U:2000<F)(V:a<b)(hb:b≤xs.length)(K:xs.length<1000)(O:KO xs):
  A0 (f182 F xs (a:Int) (b:Int)) (fun ys=>ys.toArray=reverseRange xs.toArray a b∧KO ys∧ys.length=xs.length):=by
 unfold f182 reverseRange;refine AW ((b - 1:Nat):Int) (by omega) (by omega) (by omega) (AE (Xg (F:=F) (b - 1 - a) a (b - 1) F xs (by omega) (by omega) (by omega) (by omega) (by omega) K O) ?_);rintro ys h;exact⟨ys,rfl,h⟩
theorem Yi{F b q1:Nat}{xs:List PT}(q2:Int)(hb:b≤xs.length)(ap:xs.length<1000)(Z:KO xs):∀(m i fuel:Nat),b - i≤m→m<fuel→1≤i→
  A0 (iter (I6 F (b:Int) (((q1:Nat):Int),q2,xs)) fuel (i:Int)) (fun r=>r=((scanSorted AO xs.toArray b i:Nat):Int)):=by
 intro m
 induction m with
 | zero=>
  intro i fuel hm am hi;obtain⟨fuel,rfl⟩:∃k,fuel=k+1:=⟨fuel - 1,by omega⟩;have K:¬i<b:=by omega
  have O:A0 (I6 F (b:Int) (((q1:Nat):Int),q2,xs) (i:Int)) (fun st=>st= .done (i:Int)):=by
   unfold I6;refine AE (S:=fun c=>c=false) (A5 (by omega) (Ak rfl)) ?_;rintro c rfl;exact A5 (by simp) (Ak rfl)
  obtain⟨st,U,rfl⟩:=O;unfold iter;rw [U];refine⟨_,rfl,?_⟩;rw [scanSorted,if_neg (by simp [K])]
 | succ m ag=>
  intro i fuel hm am hi;obtain⟨fuel,rfl⟩:∃k,fuel=k+1:=⟨fuel - 1,by omega⟩;by_cases K:i<b
  ·have V:i<xs.length:=by omega
   have Y:i - 1<xs.length:=by omega
   have O:A0 (I6 F (b:Int) (((q1:Nat):Int),q2,xs) (i:Int)) (fun st=>st=if(!AO xs[i] xs[i-1])=true then .more ((i+1:Nat):Int) else .done (i:Int)):=by
    unfold I6;refine AE (S:=fun c=>c= !AO xs[i] xs[i-1]) ?_ ?_
    ·refine Bs (by omega) (Bl (m:=i) rfl V ?_);refine AW ((i - 1:Nat):Int) (by omega) (by omega) (by omega) (Bl (m:=i - 1) rfl Y ?_);refine AM (KS (Z.get V) (Z.get Y)) (Ak ?_);rw [← JV];exact decide_not
    ·rintro c rfl;refine Bn (fun h=>?_) (fun h=>?_)
     ·refine AW ((i+1:Nat):Int) (by simp) (by omega) (by omega) ?_;rw [if_pos h];exact Ak rfl
     ·rw [if_neg h];exact Ak rfl
   obtain⟨st,U,rfl⟩:=O;unfold iter;rw [U];have hs:scanSorted AO xs.toArray b i=if(!AO xs[i] xs[i-1])=true then scanSorted AO xs.toArray b (i+1) else i:=by
    rw [scanSorted.eq_def AO xs.toArray b i,Gy V,Gy Y];simp [K]
   by_cases al:(!AO xs[i] xs[i-1])=true
   ·rw [if_pos al] at hs ⊢;rw [hs];exact ag (i+1) fuel (by omega) (by omega) (by omega)
   ·rw [if_neg al] at hs ⊢;exact⟨_,rfl,by rw [hs]⟩
  ·exact ag i (fuel+1) (by omega) (by omega) hi
theorem W4{F a b:Nat}{xs:List PT}(ag:2000<F)(al:a<b)(am:b<a+50)(hb:b≤xs.length)(O:xs.length<1000)(U:KO xs):
  f183 F xs (a:Int) (b:Int)=some ((partialInsertionSort AO xs.toArray a b).2,xs)∧(partialInsertionSort AO xs.toArray a b).1=xs.toArray:=by
 have e:partialInsertionSort AO xs.toArray a b=if scanSorted AO xs.toArray b (a+1)=b then(xs.toArray,true) else(xs.toArray,false):=by
  unfold partialInsertionSort partialIns;simp only;split
  ·rfl
  ·rw [if_pos (by omega)]
 have h:A0 (f183 F xs (a:Int) (b:Int)) (fun r=>r=((partialInsertionSort AO xs.toArray a b).2,xs)):=by
  unfold f183;refine AW ((a+1:Nat):Int) (by simp) (by omega) (by omega) (AE (S:=fun r=>r=Sum.inl ((partialInsertionSort AO xs.toArray a b).2,xs)) ?_ ?_)
  ·obtain⟨K,rfl⟩:∃k,F=k+1:=⟨F - 1,by omega⟩;have V:A0 (MZ (K+1) (a:Int) (b:Int) (((a+1:Nat):Int),0,xs)) (fun st=>st= .done (Sum.inl ((partialInsertionSort AO xs.toArray a b).2,xs))):=by
    unfold MZ;refine Bs (show(0:Int)<5 by omega) (AE (Yi (F:=K+1) (q1:=a+1) 0 hb O U (b - (a+1)) (a+1) (K+1) (by omega) (by omega) (by omega)) ?_);rintro r rfl;rw [e];refine Bn (fun h=>?_) (fun h=>?_)
    ·rw [if_pos (by omega)];exact Ak rfl
    ·rw [if_neg (by omega)];exact AW ((b - a:Nat):Int) (by omega) (by omega) (by omega) (Bs (by omega) (Ak rfl))
   obtain⟨st,Y,rfl⟩:=V;unfold iter;rw [Y];exact⟨_,rfl,rfl⟩
  ·rintro r rfl;exact Ak rfl
 obtain⟨r,Z,rfl⟩:=h;refine⟨Z,?_⟩;rw [e];split <;> rfl
end Pal
namespace Pal
open Go.Sort
theorem Qb{body:Int→Option (Bi Int Int)}{d:Array PT}{p:PT→Bool}{j:Nat}(V:j<900)
  (h:∀i:Nat,i≤j+2→body (i:Int)=some (if(decide (i≤j)&&p d[i]!)=true then .more ((i+1:Nat):Int) else .done (i:Int))):
  ∀(m i fuel:Nat),j+1 - i≤m→m<fuel→i≤j+2→iter body fuel (i:Int)=some ((scanUp p d j i:Nat):Int):=by
 intro m
 induction m with
 | zero=>
  intro i fuel hm O hi;obtain⟨fuel,rfl⟩:∃k,fuel=k+1:=⟨fuel - 1,by omega⟩;have K:¬(decide (i≤j)&&p d[i]!)=true:=by simp;omega
  unfold iter;rw [h i hi,if_neg K,scanUp,if_neg K]
 | succ m U=>
  intro i fuel hm O hi;obtain⟨fuel,rfl⟩:∃k,fuel=k+1:=⟨fuel - 1,by omega⟩;unfold iter;rw [h i hi,scanUp];by_cases K:(decide (i≤j)&&p d[i]!)=true
  ·rw [if_pos K,if_pos K];have:i≤j:=by simp at K;exact K.1
   exact U (i+1) fuel (by omega) (by omega) (by omega)
  ·rw [if_neg K,if_neg K]
theorem PZ{body:Int→Option (Bi Int Int)}{d:Array PT}{p:PT→Bool}{i:Nat}(hi:1≤i){n:Nat}
  (h:∀j:Nat,j<n→body (j:Int)=some (if(decide (i≤j)&&p d[j]!)=true then .more ((j - 1:Nat):Int) else .done (j:Int))):
  ∀(j fuel:Nat),j<n→j<fuel→iter body fuel (j:Int)=some ((scanDown p d i j:Nat):Int):=by
 intro j
 induction j with
 | zero=>
  intro fuel O U;obtain⟨fuel,rfl⟩:∃k,fuel=k+1:=⟨fuel - 1,by omega⟩;have K:¬(decide (i≤0)&&p d[0]!)=true:=by simp;omega
  unfold iter;rw [h 0 O,if_neg K];rfl
 | succ j V=>
  intro fuel O U;obtain⟨fuel,rfl⟩:∃k,fuel=k+1:=⟨fuel - 1,by omega⟩;unfold iter;rw [h (j+1) O,scanDown];by_cases K:(decide (i≤j+1)&&p d[j+1]!)=true
  ·rw [if_pos K,if_pos K];exact V fuel (by omega) (by omega)
  ·rw [if_neg K,if_neg K]
theorem A0.LW{α:Type}{o:Option α}{a:α}(h:A0 o (fun x=>x=a)):o=some a:=by obtain⟨x,K,rfl⟩:=h;exact K
theorem Rx{F a:Nat}{q2:Int}{j:Nat}{q1:Int}{ys:List PT}(K:a<ys.length)(Y:j<ys.length)(Z:ys.length<900)(V:KO ys)(i:Nat)(hi:i≤j+2):
  JN F (a:Int) (q1,(j:Int),ys) (i:Int)=some (if(decide (i≤j)&&AO ys.toArray[i]! ys.toArray[a]!)=true then .more ((i+1:Nat):Int) else .done (i:Int)):=by
 refine A0.LW ?_;unfold JN;refine AE (S:=fun c=>c=(decide (i≤j)&&AO ys.toArray[i]! ys.toArray[a]!)) ?_ ?_
 ·refine Bn (fun h=>?_) (fun h=>?_)
  ·have O:i≤j:=by simp at h;omega
   have U:i<ys.length:=by omega
   refine Bl (m:=i) rfl U (Bl (m:=a) rfl K ?_);refine AM (KS (V.get U) (V.get K)) (Ak ?_);rw [JV,Gy U,Gy K];simp [O]
  ·have O:¬i≤j:=by simp at h;omega
   refine Ak ?_;simp [O]
 ·rintro c rfl;refine Bn (fun h=>?_) (fun h=>?_)
  ·refine AW ((i+1:Nat):Int) (by simp) (by omega) (by omega) ?_;rw [if_pos h];exact Ak rfl
  ·rw [if_neg h];exact Ak rfl
theorem QN{F a i:Nat}{q1 q2:Int}{ys:List PT}(O:a<ys.length)(Y:ys.length<900)(V:KO ys)(hi:1≤i)(j:Nat)(U:j<ys.length):
  JP F (a:Int) (q1,q2,ys) (i:Int) (j:Int)=some (if(decide (i≤j)&& !AO ys.toArray[j]! ys.toArray[a]!)=true then .more ((j - 1:Nat):Int) else .done (j:Int)):=by
 refine A0.LW ?_;unfold JP;refine AE (S:=fun c=>c=(decide (i≤j)&& !AO ys.toArray[j]! ys.toArray[a]!)) ?_ ?_
 ·refine Bn (fun h=>?_) (fun h=>?_)
  ·have K:i≤j:=by omega
   refine Bl (m:=j) rfl U (Bl (m:=a) rfl O ?_);refine AM (KS (V.get U) (V.get O)) (Ak ?_);rw [Gy U,Gy O,← JV,← decide_not];simp [K]
  ·have K:¬i≤j:=by omega
   refine Ak ?_;simp [K]
 ·rintro c rfl;refine Bn (fun h=>?_) (fun h=>?_)
  ·have K:i≤j:=by simp at h;exact h.1
   refine AW ((j - 1:Nat):Int) (by omega) (by omega) (by omega) ?_;rw [if_pos h];exact Ak rfl
  ·rw [if_neg h];exact Ak rfl
theorem W1{F a b:Nat}(be:2000<F)(bi:a<b):∀(m i j fuel:Nat) (ys:List PT),j+1 - i≤m→m<fuel→a<i→i≤j+2→j<b→b≤ys.length→ys.length<900→KO ys→
  A0 (iter (I7 F (a:Int)) fuel ((i:Int),(j:Int),ys)) (fun r=>r.1=(((partLoop AO a i j ys.toArray).1:Nat):Int)∧r.2.toArray=(partLoop AO a i j ys.toArray).2∧KO r.2∧r.2.length=ys.length):=by
 intro m
 induction m with
 | zero=>?_
 | succ m a2=>?_
 all_goals
  intro i j fuel ys hm bn bo a3 bp hb V U;obtain⟨fuel,rfl⟩:∃k,fuel=k+1:=⟨fuel - 1,by omega⟩;have ap:a<ys.length:=by omega
  have av:j<ys.length:=by omega
  have Y:iter (JN F (a:Int) ((i:Int),(j:Int),ys)) F (i:Int)=some ((scanUp (fun x=>AO x ys.toArray[a]!) ys.toArray j i:Nat):Int):=
   Qb (by omega) (fun a4 a5=>Rx (q2:=0) ap av V U a4 a5) (j+1 - i) i F (by omega) (by omega) a3
  have a6:=scanUp_ge (fun x=>AO x ys.toArray[a]!) ys.toArray j i;have a7:=scanUp_spec (fun x=>AO x ys.toArray[a]!) ys.toArray j _ i rfl;have O:=partLoop_eq AO a i j ys.toArray;generalize bq:scanUp (fun x=>AO x ys.toArray[a]!) ys.toArray j i=i2 at Y a6 a7 O;have Z:iter (JP F (a:Int) ((i:Int),(j:Int),ys) (i2:Int)) F (j:Int)=some ((scanDown (fun x=> !AO x ys.toArray[a]!) ys.toArray i2 j:Nat):Int):=
   PZ (n:=ys.length) (by omega) (fun a8 a9=>QN ap V U (by omega) a8 a9) j F av (by omega)
  have hle:=scanDown_le (fun x=> !AO x ys.toArray[a]!) ys.toArray i2 j;generalize br:scanDown (fun x=> !AO x ys.toArray[a]!) ys.toArray i2 j=K at Z hle O;by_cases a0:i2>K
  ·have ag:I7 F (a:Int) ((i:Int),(j:Int),ys)=some (.done ((K:Int),ys)):=by
    refine A0.LW ?_;unfold I7;refine AM Y (AM Z ?_);exact Bs (by omega) (Ak rfl)
   unfold iter;rw [ag];rw [if_pos a0] at O;exact⟨_,rfl,by rw [O],by rw [O],U,rfl⟩
  ·first
    | (exfalso;omega)
    | (
     have al:i2<ys.length:=by omega
     have am:K<ys.length:=by omega
     have ag:I7 F (a:Int) ((i:Int),(j:Int),ys)=some (.more (((i2+1:Nat):Int),((K - 1:Nat):Int),(ys.set i2 ys[K]).set K ys[i2])):=by
      refine A0.LW ?_
      unfold I7
      refine AM Y ?_
      refine AM Z ?_
      refine A5 (by omega) ?_
      refine Bl (m:=K) rfl am ?_
      refine Bl (m:=i2) rfl al ?_
      refine AW ((i2+1:Nat):Int) (by simp) (by omega) (by omega) ?_
      refine AW ((K - 1:Nat):Int) (by omega) (by omega) (by omega) ?_
      exact Ak rfl
     unfold iter;rw [ag]
     rw [if_neg a0] at O
     refine(a2 (i2+1) (K - 1) fuel ((ys.set i2 ys[K]).set K ys[i2]) (by omega) (by omega) (by omega) (by omega) (by omega) (by simpa using hb) (by simpa using V) ((U.set (U.get am)).set (U.get al))).Ah ?_
     rintro r ⟨k1,a1,bb,bd⟩
     rw [IZ al am,← O] at k1 a1
     exact⟨k1,a1,bb,by simpa using bd⟩)
theorem WA{F a:Nat}{j p3:Nat}{xs ys:List PT}{K O:PT}(he:(xs.set a K).set p3 O=ys)(U:a<ys.length)(V:j<ys.length)(Y:ys.length<900)(Z:KO ys)(i:Nat)(hi:i≤j+2):
  KT F xs (a:Int) (p3:Int) K O (j:Int) (i:Int)=some (if(decide (i≤j)&&AO ys.toArray[i]! ys.toArray[a]!)=true then .more ((i+1:Nat):Int) else .done (i:Int)):=by
 rw [← Rx (F:=F) (q1:=0) (q2:=0) U V Y Z i hi];unfold KT JN;simp only [Int.toNat_natCast,he]
theorem Us{F a i p3:Nat}{xs ys:List PT}{K O:PT}(he:(xs.set a K).set p3 O=ys)(U:a<ys.length)(V:ys.length<900)(Y:KO ys)(hi:1≤i)(j:Nat)(Z:j<ys.length):
  KX F xs (a:Int) (p3:Int) K O (i:Int) (j:Int)=some (if(decide (i≤j)&& !AO ys.toArray[j]! ys.toArray[a]!)=true then .more ((j - 1:Nat):Int) else .done (j:Int)):=by
 rw [← QN (F:=F) (q1:=0) (q2:=0) U V Y hi j Z];unfold KX JP;simp only [Int.toNat_natCast,he]
theorem T1(a:Nat):∀(n i j:Nat) (d:Array PT),j+1 - i≤n→(partLoop AO a i j d).1≤j:=by
  intro n
  induction n with
  | zero=>?_
  | succ n V=>?_
  all_goals
    intro i j d Z;have K:=partLoop_eq AO a i j d;have Y:=scanUp_ge (fun x=>AO x d[a]!) d j i;generalize ag:scanUp (fun x=>AO x d[a]!) d j i=i2 at Y K;have hle:=scanDown_le (fun x=> !AO x d[a]!) d i2 j;generalize al:scanDown (fun x=> !AO x d[a]!) d i2 j=O at hle K;by_cases U:i2>O
    ·rw [K,if_pos U];exact hle
    ·first
        | (exfalso;omega)
        | (rw [K,if_neg U]
           have:=V (i2+1) (O - 1) (swp d i2 O) (by omega)
           omega)
theorem X3{F a b pv:Nat}(a8:2000<F){xs:List PT}(br:a≤pv)(bu:pv<b)(hb:b≤xs.length)(bv:xs.length<900)(al:KO xs):
  A0 (f185 F xs (a:Int) (b:Int) (pv:Int)) (fun r=>r.1=(((partition AO xs.toArray a b pv).1:Nat):Int)∧r.2.1=(partition AO xs.toArray a b pv).2.1∧r.2.2.toArray=(partition AO xs.toArray a b pv).2.2∧KO r.2.2∧r.2.2.length=xs.length):=by
 have am:a<xs.length:=by omega
 have ap:pv<xs.length:=by omega
 obtain⟨ys,V⟩:∃ys,(xs.set a xs[pv]).set pv xs[a]=ys:=⟨_,rfl⟩;have O:KO ys:=by rw [← V];exact(al.set (al.get ap)).set (al.get am)
 have a5:ys.length=xs.length:=by rw [← V];simp
 have a9:ys.toArray=swp xs.toArray a pv:=by rw [← V,IZ am ap]
 have Z:a<ys.length:=by omega
 have a6:b - 1<ys.length:=by omega
 unfold f185;refine Bl (m:=pv) rfl ap (Bl (m:=a) rfl am ?_);refine AW ((a+1:Nat):Int) (by simp) (by omega) (by omega) (AW ((b - 1:Nat):Int) (by omega) (by omega) (by omega) ?_);have bb:iter (KT F xs (a:Int) (pv:Int) xs[pv] xs[a] ((b - 1:Nat):Int)) F ((a+1:Nat):Int)=some ((scanUp (fun x=>AO x ys.toArray[a]!) ys.toArray (b - 1) (a+1):Nat):Int):=
  Qb (by omega) (fun bd be=>WA V Z a6 (by omega) O bd be) (b - 1+1 - (a+1)) (a+1) F (by omega) (by omega) (by omega)
 refine AM bb ?_;have bi:=scanUp_ge (fun x=>AO x ys.toArray[a]!) ys.toArray (b - 1) (a+1);have U:partition AO xs.toArray a b pv=if scanUp (fun x=>AO x ys.toArray[a]!) ys.toArray (b - 1) (a+1)>scanDown (fun x=> !AO x ys.toArray[a]!) ys.toArray (scanUp (fun x=>AO x ys.toArray[a]!) ys.toArray (b - 1) (a+1)) (b - 1) then
   (scanDown (fun x=> !AO x ys.toArray[a]!) ys.toArray (scanUp (fun x=>AO x ys.toArray[a]!) ys.toArray (b - 1) (a+1)) (b - 1),true,swp ys.toArray (scanDown (fun x=> !AO x ys.toArray[a]!) ys.toArray (scanUp (fun x=>AO x ys.toArray[a]!) ys.toArray (b - 1) (a+1)) (b - 1)) a) else
   ((partLoop AO a (scanUp (fun x=>AO x ys.toArray[a]!) ys.toArray (b - 1) (a+1)+1) (scanDown (fun x=> !AO x ys.toArray[a]!) ys.toArray (scanUp (fun x=>AO x ys.toArray[a]!) ys.toArray (b - 1) (a+1)) (b - 1) - 1) (swp ys.toArray (scanUp (fun x=>AO x ys.toArray[a]!) ys.toArray (b - 1) (a+1)) (scanDown (fun x=> !AO x ys.toArray[a]!) ys.toArray (scanUp (fun x=>AO x ys.toArray[a]!) ys.toArray (b - 1) (a+1)) (b - 1)))).1,false,
    swp (partLoop AO a (scanUp (fun x=>AO x ys.toArray[a]!) ys.toArray (b - 1) (a+1)+1) (scanDown (fun x=> !AO x ys.toArray[a]!) ys.toArray (scanUp (fun x=>AO x ys.toArray[a]!) ys.toArray (b - 1) (a+1)) (b - 1) - 1) (swp ys.toArray (scanUp (fun x=>AO x ys.toArray[a]!) ys.toArray (b - 1) (a+1)) (scanDown (fun x=> !AO x ys.toArray[a]!) ys.toArray (scanUp (fun x=>AO x ys.toArray[a]!) ys.toArray (b - 1) (a+1)) (b - 1)))).2
     (partLoop AO a (scanUp (fun x=>AO x ys.toArray[a]!) ys.toArray (b - 1) (a+1)+1) (scanDown (fun x=> !AO x ys.toArray[a]!) ys.toArray (scanUp (fun x=>AO x ys.toArray[a]!) ys.toArray (b - 1) (a+1)) (b - 1) - 1) (swp ys.toArray (scanUp (fun x=>AO x ys.toArray[a]!) ys.toArray (b - 1) (a+1)) (scanDown (fun x=> !AO x ys.toArray[a]!) ys.toArray (scanUp (fun x=>AO x ys.toArray[a]!) ys.toArray (b - 1) (a+1)) (b - 1)))).1 a):=by
  rw [a9];rfl
 generalize bw:scanUp (fun x=>AO x ys.toArray[a]!) ys.toArray (b - 1) (a+1)=i2 at bi U ⊢;have bn:iter (KX F xs (a:Int) (pv:Int) xs[pv] xs[a] (i2:Int)) F ((b - 1:Nat):Int)=some ((scanDown (fun x=> !AO x ys.toArray[a]!) ys.toArray i2 (b - 1):Nat):Int):=
  PZ (n:=ys.length) (by omega) (fun bo bp=>Us V Z (by omega) O (by omega) bo bp) (b - 1) F a6 (by omega)
 refine AM bn ?_;have hle:=scanDown_le (fun x=> !AO x ys.toArray[a]!) ys.toArray i2 (b - 1);generalize bx:scanDown (fun x=> !AO x ys.toArray[a]!) ys.toArray i2 (b - 1)=K at hle U ⊢;have Y:K<ys.length:=by omega
 simp only [Int.toNat_natCast,V];refine Bn (fun h=>?_) (fun h=>?_)
 ·have av:i2>K:=by omega
  rw [if_pos av] at U;refine Bl (m:=a) rfl Z (Bl (m:=K) rfl Y ?_);refine Ak ?_;rw [U];exact⟨rfl,rfl,IZ Y Z,(O.set (O.get Z)).set (O.get Y),by simp [a5]⟩
 ·have av:¬i2>K:=by omega
  have a0:i2<ys.length:=by omega
  rw [if_neg av] at U;refine Bl (m:=K) rfl Y (Bl (m:=i2) rfl a0 ?_);refine AW ((i2+1:Nat):Int) (by simp) (by omega) (by omega) (AW ((K - 1:Nat):Int) (by omega) (by omega) (by omega) ?_);refine AE (W1 (F:=F) a8 (show a<b by omega) (K - 1+1 - (i2+1)) (i2+1) (K - 1) F ((ys.set i2 ys[K]).set K ys[i2]) (by omega) (by omega) (by omega) (by omega) (by omega) (by simp;omega) (by simp;omega) ((O.set (O.get Y)).set (O.get a0))) ?_;rintro r ⟨k1,a1,ag,a7⟩;rw [IZ a0 Y] at k1 a1;have bq:=T1 a _ (i2+1) (K - 1) (swp ys.toArray i2 K) (Nat.le_refl _);obtain⟨bz,a2⟩:=r;simp only at k1 a1 ag a7 ⊢;subst k1;rw [← a1] at U;have hlen:a2.length=ys.length:=by simpa using a7
  generalize (partLoop AO a (i2+1) (K - 1) (swp ys.toArray i2 K)).1=pm at bq U ⊢;have a3:pm<a2.length:=by omega
  have a4:a<a2.length:=by omega
  refine Bl (m:=a) rfl a4 (Bl (m:=pm) rfl a3 ?_);refine Ak ?_;rw [U];exact⟨rfl,rfl,IZ a3 a4,(ag.set (ag.get a4)).set (ag.get a3),by simp [hlen,a5]⟩
end Pal
namespace Pal
open Go.Sort
theorem Xl(F:Nat):∀n:Nat,n<13→∃l,f163 F (Dh (n:Int))=some l:=by
 intro n K
 match n,K with
 | 0,_=>exact⟨_,rfl⟩
 | 1,_=>exact⟨_,rfl⟩
 | 2,_=>exact⟨_,rfl⟩
 | 3,_=>exact⟨_,rfl⟩
 | 4,_=>exact⟨_,rfl⟩
 | 5,_=>exact⟨_,rfl⟩
 | 6,_=>exact⟨_,rfl⟩
 | 7,_=>exact⟨_,rfl⟩
 | 8,_=>exact⟨_,rfl⟩
 | 9,_=>exact⟨_,rfl⟩
 | 10,_=>exact⟨_,rfl⟩
 | 11,_=>exact⟨_,rfl⟩
 | 12,_=>exact⟨_,rfl⟩
 | n+13,h=>omega
theorem WK(F:Nat):f163 F (Dh ((13:Nat):Int))=some 4:=rfl
def Is(xs:List PT)(d:Array PT)(ys:List PT):Prop:=ys.toArray=d∧KO ys∧ys.length=xs.length
theorem P6{F a b:Nat}{l:Int}{xs:List PT}(K:2000<F)(O:a≤b)(ap:b≤a+12)(hb:b≤xs.length)(av:xs.length<900)(U:KO xs):
  A0 (IE F xs (a:Int) (b:Int) l) (Is xs (insertionSort AO xs.toArray a b)):=by
 unfold IE;refine AE (S:=fun r=>∃ys,r=Sum.inl ys∧Is xs (insertionSort AO xs.toArray a b) ys) ?_ ?_
 ·obtain⟨V,rfl⟩:∃k,F=k+1:=⟨F - 1,by omega⟩;obtain⟨ys,Y,Z,ag,al⟩:=R9 K hb (by omega) U O;have am:Mx (V+1) xs (a:Int) (b:Int) l ()=some (.done (Sum.inl ys)):=by
   refine A0.LW ?_;unfold Mx;refine AW ((b - a:Nat):Int) (by omega) (by omega) (by omega) (Bs (by omega) ?_);exact AM Y (Ak rfl)
  unfold iter;rw [am];exact⟨_,rfl,ys,rfl,Z,ag,al⟩
 ·rintro r ⟨ys,rfl,h⟩;exact Ak h
theorem Od{F a b:Nat}{l:Int}{wb wp:Bool}{xs:List PT}(K:2000<F)(O:a≤b)(al:b≤a+12)(hb:b≤xs.length)(am:xs.length<900)(U:KO xs):
  A0 (Hq F l ((a:Int),(b:Int),wb,wp,xs)) (fun st=>∃ys,st= .done (Sum.inl ys)∧Is xs (insertionSort AO xs.toArray a b) ys):=by
 obtain⟨ys,V,Y,Z,ag⟩:=R9 K hb (by omega) U O;unfold Hq;refine AE (S:=fun r=>r=Sum.inl ys) ?_ ?_
 ·refine AW ((b - a:Nat):Int) (by dsimp only;omega) (by omega) (by omega) (Bs (by omega) ?_);exact AM V (Ak rfl)
 ·rintro r rfl;exact Ak ⟨ys,rfl,Y,Z,ag⟩
theorem Uw{F n:Nat}{l:Int}{xs:List PT}(O:2000<F)(ag:n=xs.length)(al:n≤12)(U:KO xs):
  A0 (f162 F xs 0 (n:Int) l) (Is xs (insertionSort AO xs.toArray 0 n)):=by
 unfold f162;refine AE (S:=fun r=>∃ys,r=Sum.inl ys∧Is xs (insertionSort AO xs.toArray 0 n) ys) ?_ ?_
 ·obtain⟨K,rfl⟩:∃k,F=k+1:=⟨F - 1,by omega⟩;obtain⟨st,V,ys,rfl,Y⟩:=Od (F:=K+1) (a:=0) (b:=n) (l:=l) (wb:=true) (wp:=true) (xs:=xs) O (by omega) (by omega) (by omega) (by omega) U;have Z:Hq (K+1) l (0,(n:Int),true,true,xs)=some (.done (Sum.inl ys)):=V;unfold iter;rw [Z];exact⟨_,rfl,ys,rfl,Y⟩
 ·rintro r ⟨ys,rfl,h⟩;exact Ak h
theorem V8{S A:Type}{body:S→Option (Bi S A)}{F:Nat}{s s':S}(h:body s=some (.more s')){Q:A→Prop}(k:A0 (iter body F s') Q):A0 (iter body (F+1) s) Q:=by
 unfold iter;rw [h];exact k
theorem VF{S A:Type}{body:S→Option (Bi S A)}{F:Nat}{s:S}{Q:A→Prop}(h:A0 (body s) (fun st=>∃a,st= .done a∧Q a)):A0 (iter body (F+1) s) Q:=by
 obtain⟨st,K,a,rfl,O⟩:=h;unfold iter;rw [K];exact⟨a,rfl,O⟩
set_option maxHeartbeats 1000000 in
theorem Yk{F:Nat}{xs:List PT}(b4:3000<F)(bA:xs.length=13)(a7:KO xs):
  A0 (f162 F xs 0 ((13:Nat):Int) 4) (Is xs (pdq AO xs.toArray 0 13 4 true true)):=by
 have bB:xs.toArray.size=13:=by simpa using bA
 obtain⟨s1,B1,b5,s2,b6,a8,b7,b8⟩:=rd_facts (lt:=AO) (d:=xs.toArray) (a:=0) (b:=13) (limit:=4) (wb:=true) (wp:=true) MI partialInsertionSort_holds reverseRange_holds (by omega) (by rw [bB];omega) (.inl rfl);have a9:¬(13 - 0≤12):=by omega
 have bq:=XE (F:=F) (a:=0) (b:=13) (xs:=xs) (by omega) (by omega) (by omega) (by omega) a7;have bC:choosePivot AO xs.toArray 0 13=(rd AO xs.toArray 0 13 4 true true).c:=rfl;rw [bC] at bq;generalize K:rd AO xs.toArray 0 13 4 true true=R at*;have bD:R.lim=4:=by rw [← K];rfl
 have bE:R.c.2= .decreasing→R.d2=reverseRange xs.toArray 0 13∧R.pivot=(13 - 1) - (R.c.1 - 0)∧R.hint= .increasing:=by
  intro h;rw [← K] at h ⊢;exact rd_dec h
 have bF:R.c.2≠ .decreasing→R.d2=xs.toArray∧R.pivot=R.c.1∧R.hint=R.c.2:=by
  intro h;rw [← K] at h ⊢;exact rd_not h
 have bG:R.hint= .increasing→R.pi=partialInsertionSort AO R.d2 0 13:=by
  intro h;rw [← K] at h ⊢;exact rd_pi_yes (by simp [h])
 have bH:R.hint≠ .increasing→R.pi=(R.d2,false):=by
  intro h;rw [← K] at h ⊢;exact rd_pi_no (by simp [h])
 have bI:A0 (if ID R.c.2=2 then(f182 F xs 0 ((13:Nat):Int)).bind fun bJ=>(As (((13:Nat):Int) - 1)).bind fun bK=>(As (((R.c.1:Nat):Int) - 0)).bind fun bL=>(As (bK - bL)).bind fun bM=>some (bM,(1:Int),bJ) else some (((R.c.1:Nat):Int),ID R.c.2,xs))
   (fun q=>q.1=((R.pivot:Nat):Int)∧q.2.1=ID R.hint∧Is xs R.d2 q.2.2):=by
  by_cases a1:R.c.2= .decreasing
  ·obtain⟨am,ap,Y⟩:=bE a1;refine Bs (by rw [a1];rfl) (AE (XV (F:=F) (a:=0) (b:=13) (xs:=xs) (by omega) (by omega) (by omega) (by omega) a7) ?_);rintro ys ⟨k1,U,V⟩;refine AW 12 (by omega) (by omega) (by omega) (AW ((R.c.1:Nat):Int) (by omega) (by omega) (by omega) ?_);refine AW ((12 - R.c.1:Nat):Int) (by omega) (by omega) (by omega) (Ak ⟨?_,?_,?_,U,V⟩)
   ·rw [ap];rfl
   ·rw [Y];rfl
   ·rw [am];exact k1
  ·obtain⟨am,ap,Y⟩:=bF a1;refine A5 (by intro h;cases bb:R.c.2 <;> rw [bb] at h a1 <;> first | (exact a1 rfl) | (cases h)) ?_
   refine Ak ⟨?_,?_,?_,a7,rfl⟩
   ·rw [ap]
   ·rw [Y]
   ·rw [am]
 unfold f162;refine AE (S:=fun r=>∃ys,r=Sum.inl ys∧Is xs (pdq AO xs.toArray 0 13 4 true true) ys) ?_ (by rintro r ⟨ys,rfl,h⟩;exact Ak h);have bN:∀(Z:List PT),Is xs R.pi.1 Z→R.pi.2=false→
   A0 ((f185 F Z 0 ((13:Nat):Int) ((R.pivot:Nat):Int)).bind fun O=>(As (O.1 - 0)).bind fun br=>(As (((13:Nat):Int) - O.1)).bind fun bu=>(Hz (13:Int) (8)).bind fun bv=>
     Option.bind (
      if br<bu then(
       (IE F O.2.2 0 O.1 4).bind fun bO=>
       (As (O.1+1)).bind fun bP=>
       some (bP,((13:Nat):Int),decide (bv≤br),bO)
      ) else(
       (As (O.1+1)).bind fun bQ=>
       (IE F O.2.2 bQ ((13:Nat):Int) 4).bind fun bR=>
       some ((0:Int),O.1,decide (bv≤bu),bR)
      )
     ) fun a5=>
     some (a5.1,a5.2.1,a5.2.2.1,O.2.1,a5.2.2.2))
    (fun st=>A0 (Hq F 4 st) (fun q=>∃a,q= .done a∧∃ys,a=Sum.inl ys∧Is xs (pdq AO xs.toArray 0 13 4 true true) ys)):=by
  intro Z bS bw;obtain⟨z1,bT,b9⟩:=bS;have ca:Z.length=13:=by omega
  refine AE (X3 (F:=F) (a:=0) (b:=13) (pv:=R.pivot) (xs:=Z) (by omega) (by omega) a8.2 (by omega) (by omega) bT) ?_;rw [z1];have ag:=partition_holds AO MI R.pi.1 0 13 R.pivot a8.1 a8.2 (by omega);have a2:=fun bd=>pdq_left (lt:=AO) (d:=xs.toArray) (a:=0) (b:=13) (limit:=4) (wb:=true) (wp:=true) a9 (by omega) (by rw [K];exact bw) (by simp) (by rw [K];exact⟨ag.1,ag.2.1⟩) bd;have a3:=fun bd=>pdq_right (lt:=AO) (d:=xs.toArray) (a:=0) (b:=13) (limit:=4) (wb:=true) (wp:=true) a9 (by omega) (by rw [K];exact bw) (by simp) (by rw [K];exact⟨ag.1,ag.2.1⟩) bd;rw [K] at a2 a3;rw [bD] at a2 a3;generalize partition AO R.pi.1 0 13 R.pivot=PA at ag a2 a3 ⊢;obtain⟨m,cb,d4⟩:=PA;rintro⟨cc,bU,al⟩ ⟨k1,U,V,be,bV⟩;simp only at k1 U V be bV ag a2 a3 ⊢;subst k1 U;have hm:m<13:=ag.2.1;have cd:al.length=13:=by omega
  refine AW (m:Int) (by omega) (by omega) (by omega) (AW ((13 - m:Nat):Int) (by omega) (by omega) (by omega) ?_);refine AM (b:=1) rfl ?_;by_cases bx:m - 0<13 - m
  ·refine AE (S:=fun q=>∃us,q=(((m+1:Nat):Int),((13:Nat):Int),decide ((1:Int)≤(m:Int)),us)∧Is al (insertionSort AO al.toArray 0 m) us) ?_ ?_
   ·refine Bs (by omega) (AE (P6 (F:=F) (a:=0) (b:=m) (l:=4) (xs:=al) (by omega) (by omega) (by omega) (by omega) (by omega) be) ?_);intro us bi;exact AW ((m+1:Nat):Int) (by simp) (by omega) (by omega) (Ak ⟨us,rfl,bi⟩)
   ·rintro q ⟨us,rfl,u1,u2,bW⟩;refine Ak ?_;refine(Od (F:=F) (a:=m+1) (b:=13) (l:=4) (xs:=us) (by omega) (by omega) (by omega) (by omega) (by omega) u2).Ah ?_;rintro st ⟨ys,rfl,v1,v2,bY⟩;refine⟨_,rfl,ys,rfl,?_,v2,by omega⟩;rw [v1,u1,V,a2 bx,pdq_small (by omega),pdq_small (by omega)]
  ·refine AE (S:=fun q=>∃us,q=((0:Int),(m:Int),decide ((1:Int)≤((13 - m:Nat):Int)),us)∧Is al (insertionSort AO al.toArray (m+1) 13) us) ?_ ?_
   ·refine A5 (by omega) (AW ((m+1:Nat):Int) (by simp) (by omega) (by omega) ?_);refine AE (P6 (F:=F) (a:=m+1) (b:=13) (l:=4) (xs:=al) (by omega) (by omega) (by omega) (by omega) (by omega) be) ?_;intro us bi;exact Ak ⟨us,rfl,bi⟩
   ·rintro q ⟨us,rfl,u1,u2,bW⟩;refine Ak ?_;have:=Od (F:=F) (a:=0) (b:=m) (l:=4) (wb:=decide ((1:Int)≤((13 - m:Nat):Int))) (wp:=bU) (xs:=us) (by omega) (by omega) (by omega) (by omega) (by omega) u2;refine A0.Ah this ?_;rintro st ⟨ys,rfl,v1,v2,bY⟩;refine⟨_,rfl,ys,rfl,?_,v2,by omega⟩;rw [v1,u1,V,a3 bx,pdq_small (by omega),pdq_small (by omega)]
 have bZ:A0 (Hq F 4 (0,((13:Nat):Int),true,true,xs)) (fun st=>(∃a,st= .done a∧∃ys,a=Sum.inl ys∧Is xs (pdq AO xs.toArray 0 13 4 true true) ys)∨
   ∃s',st= .more s'∧A0 (Hq F 4 s') (fun q=>∃a,q= .done a∧∃ys,a=Sum.inl ys∧Is xs (pdq AO xs.toArray 0 13 4 true true) ys)):=by
  unfold Hq;refine AE (S:=fun r=>(∃ys,r=Sum.inl ys∧Is xs (pdq AO xs.toArray 0 13 4 true true) ys)∨∃s',r=Sum.inr s'∧A0 (Hq F 4 s') (fun q=>∃a,q= .done a∧∃ys,a=Sum.inl ys∧Is xs (pdq AO xs.toArray 0 13 4 true true) ys)) ?_ ?_
  ·refine AW 13 (by dsimp only;omega) (by omega) (by omega) (A5 (by omega) ?_);refine A5 (by omega) (AE (S:=fun _=>True) (A5 (by simp) (Ak trivial)) fun _ _=>?_);refine AM bq (AE bI ?_);rintro⟨q1,q2,av⟩ ⟨am,ap,Y⟩;simp only at am ap Y ⊢;subst am ap;refine AM (b:=true) (by simp) (AM (b:=decide (ID R.hint=1)) (by simp) ?_);have b0:A0 (if(decide (ID R.hint=1))=true then(f183 F av 0 ((13:Nat):Int)).bind fun bn=>if bn.1=true then some (Sum.inl bn.2) else some (Sum.inr bn.2) else some (Sum.inr av))
     (fun r=>(R.pi.2=true∧∃ys,r=Sum.inl ys∧Is xs R.pi.1 ys)∨(R.pi.2=false∧∃ys,r=Sum.inr ys∧Is xs R.pi.1 ys)):=by
    by_cases hh:R.hint= .increasing
    ·refine Bs (by rw [hh];rfl) ?_;obtain⟨k1,U,V⟩:=Y;obtain⟨bo,g2⟩:=W4 (F:=F) (a:=0) (b:=13) (xs:=av) (by omega) (by omega) (by omega) (by omega) (by omega) U;rw [k1] at bo g2;rw [← bG hh] at bo g2;refine AM bo (Bn (fun h=>?_) (fun h=>?_))
     ·exact Ak (.inl ⟨h,av,rfl,by rw [g2];exact k1,U,V⟩)
     ·exact Ak (.inr ⟨by simpa using h,av,rfl,by rw [g2];exact k1,U,V⟩)
    ·refine A5 (by intro h;cases bb:R.hint <;> rw [bb] at h hh <;> first | (exact hh rfl) | (simp [ID] at h)) ?_
     rw [bH hh];exact Ak (.inr ⟨rfl,av,rfl,Y⟩)
   refine AE b0 ?_;rintro r (⟨p2,ys,rfl,bp⟩ | ⟨p2,Z,rfl,b1⟩)
   ·refine Ak (.inl ⟨ys,rfl,?_⟩);rw [pdq_done a9 (by omega) (by rw [K];exact p2),K];exact bp
   ·rw [Sum.elim_inr];refine AE (S:=fun c=>c=false) (A5 (by omega) (Ak rfl)) ?_;rintro c rfl;refine A5 (by simp) ?_;obtain⟨s',a0,a4⟩:=bN Z b1 p2;have ce:∀{α β:Type} (o:Option α) (f:α→Option β) (g:β→(List PT)⊕(Int×Int×Bool×Bool×List PT)),True:=fun _ _ _=>trivial;refine A0.of_eq (a:=Sum.inr s') ?_ (.inr ⟨s',rfl,a4⟩);have key:∀(o:Option (Int×Int×Bool×Bool×List PT)),o=some s'→(o.bind fun x=>some (Sum.inr x:List PT⊕(Int×Int×Bool×Bool×List PT)))=some (Sum.inr s'):=fun o b2=>by rw [b2];rfl
    refine Eq.trans ?_ (key _ a0);simp only [Option.bind_assoc,Option.bind_some]
  ·rintro r (⟨ys,rfl,bp⟩ | ⟨s',rfl,b3⟩)
   ·exact Ak (.inl ⟨_,rfl,ys,rfl,bp⟩)
   ·exact Ak (.inr ⟨s',rfl,b3⟩)
 obtain⟨cf,bz⟩:∃k,F=k+2:=⟨F - 2,by omega⟩;obtain⟨st,a0,a4 | a4⟩:=bZ
 ·obtain⟨a,rfl,a6⟩:=a4;rw [bz] at a0 ⊢;unfold iter;rw [a0];exact⟨a,rfl,a6⟩
 ·obtain⟨s',rfl,a6⟩:=a4;rw [bz] at a0 a6 ⊢;exact V8 a0 (VF a6)
end Pal
namespace Pal
open Go Go.Conc Go.Proofs
open Go.Proofs.Tryz
variable {J:Judge Tryz.prog}{E:LH}
def Ra(fuel:Nat)(p1:Int)(K:Int)(U:Unit):Option (Bi Unit Unit):= Option.bind (if p1<K then(none) else(some false)) fun O=> if O=true then((As (K - 1)).bind fun V=> (As (K - 1)).bind fun Y=> none) else(some (.done ()))
def QT(fuel:Nat)(p1:Int)(p2:Int)(K:Int):Option (Bi Int Unit):= if K<p2 then(Option.bind (iter (Ra fuel p1 K) fuel ()) fun U=> (As (K+1)).bind fun O=> some (.more O)) else(some (.done ()))
def Po(fuel:Nat)(p1:Int)(p2:Int):Option Unit:= (As (p1+1)).bind fun K=> Option.bind (iter (QT fuel p1 p2) fuel K) fun O=> some ()
theorem W5{p1:Int}{p2:Int}{fuel:Nat}{r:Unit}(V:Po fuel p1 p2=some r):AL J 178 [nS,iV p1,iV p2,(fV 134)] E [] (fun w E' B'=>w= .tuple #[]∧B'= []):=by
 refine A4 func178 fun Q bR cs H a2 a3=>?_;unfold Po at V;obtain⟨bS,a4,a5⟩:=bs V;refine zg 3 rfl (Be a4 rfl rfl rfl ?_);obtain⟨bT,a6,a7⟩:=bs a5;refine zg 2 rfl (C7 [] [] (fun bU a8 a9=>?_) (fun bb=>?_))
 ·obtain rfl:=oi a7;exact JL.fin (v:= .tuple #[]) rfl rfl (Cd.list func178 rfl (vs:= []) trivial) (a3 a8 rfl ⟨rfl,rfl⟩ a9)
 ·refine JL.block (Cy a6 (fun K=> []) (fun K=> [(0,.slice none 0 0),(1,iV p1),(2,iV p2),(3,(fV 134)),(8,iV K)]) Ar a2 ?_);rintro K bV Y Z bd ⟨bW,O⟩ be;have ag:=O;unfold QT at ag;refine zg 7 rfl (AN ag (fun bi bn=>?_) (fun bi bo=>?_))
  ·obtain⟨bY,bp,bq⟩:=bs bn;refine zg 8 rfl (C7 [] [(0,.slice none 0 0),(1,iV p1),(2,iV p2),(3,(fV 134)),(8,iV K)] (fun bZ br bu=>?_) (fun bv=>?_))
   ·obtain⟨bw,bx,bz⟩:=bs bq;refine zg 3 rfl (Be bx rfl rfl rfl ?_);refine zg 2 rfl ?_;obtain rfl:=oi bz;exact be bw (Y.Ac br) bu rfl O
   ·refine JL.block (Cy bp (fun al=> []) (fun al=> [(0,.slice none 0 0),(1,iV p1),(2,iV p2),(3,(fV 134)),(8,iV K),(9,iV K)]) Ar Z ?_);rintro al am bA bB bC ⟨b0,ap⟩ b1;have av:=ap;unfold Ra at av;refine zg 2 rfl (CZ 17 fun ht=>?_);refine A2 ht rfl [0,1,2,3] rfl ?_;obtain⟨bD,a0,bE⟩:=bs av;refine EO 0 #[true,true,true,true,true,true,true,true,true,true,true,true,true,true,true,true,true] (fun L s=>∃(a1:LH),Jm am H a1 [] [(0,.slice none 0 0),(1,iV p1),(2,iV p2),(3,(fV 134)),(8,iV K),(9,iV K),(34,.bool bD)] L s) ?_ ?_
    ·rintro _ _ ⟨a1,rfl,rfl,bF,bG⟩;refine AY.fin (by decide+kernel) (BF bE (fun bH bI=>?_) (fun bH bJ=>?_))
     ·refine zg 3 rfl (CZ 16 fun ht=>?_);refine A2 ht rfl [0,1,2,3] rfl ?_;obtain⟨b2,bK,bL⟩:=bs bI;refine Bx 4 ht rfl rfl (fun ρ h s' hs=>C5 (h _ _ rfl) (h _ _ rfl) bK) (A2 ht rfl [5,6] rfl ?_);obtain⟨b3,bM,bN⟩:=bs bL;refine Bx 7 ht rfl rfl (fun ρ h s' hs=>C5 (h _ _ rfl) (h _ _ rfl) bM) ?_;cases bN
     ·refine JL.exit rfl ?_;obtain rfl:=oi bJ;obtain rfl:=bC _ ap;exact bv (bA.Ac bF) bG rfl
    ·intro bO;refine FI (q:=p1<K) (i:=21) rfl (fun U=>?_) (fun U=>?_)
     ·have bP:=ip a0 U;refine A2 ht rfl [4,5,6] rfl ?_;cases bP
     ·have bQ:=im a0 U;refine A2 ht rfl [4,5,6,7,8,9,10,11,12,13,14,15,16] rfl ?_;obtain rfl:=oi bQ;refine C4 ?_ (bO _ _ ⟨am,rfl,rfl,Ar,bB⟩);exact⟨rfl,rfl,rfl,rfl,rfl,rfl,rfl,trivial⟩
  ·refine JL.exit rfl ?_;obtain rfl:=oi bo;obtain rfl:=bd _ O;exact bb Y Z rfl
def Rc(fuel:Nat)(p1:Int)(p2:Int)(p3:Int)(O:Unit):Option (Bi Unit ((Unit)⊕(Unit))):= (As (p2 - p1)).bind fun K=> if K≤12 then((Po fuel p1 p2).bind fun U=> some (.done (Sum.inl ()))) else(if p3=0 then(none) else(none))
def Pp(fuel:Nat)(p1:Int)(p2:Int)(p3:Int):Option Unit:= Option.bind (iter (Rc fuel p1 p2 p3) fuel ()) fun K=> Sum.elim (fun r=>some r) (fun O=> none) K
theorem Xp{p1:Int}{p2:Int}{p3:Int}{fuel:Nat}{r:Unit}(K:Pp fuel p1 p2 p3=some r):AL J 162 [nS,iV p1,iV p2,iV p3,(fV 134)] E [] (fun w E' B'=>w= .tuple #[]∧B'= []):=by
 refine A4 func162 fun Q bn cs H Y Z=>?_;unfold Pp at K;obtain⟨bo,ag,al⟩:=bs K;refine zg 8 rfl (Br (fun L s=>False) ?_ ?_)
 ·intro _ _ am;exact am.elim
 ·intro bp;refine JL.block (Cy ag (fun O=> []) (fun O=> [(0,.slice none 0 0),(1,iV p1),(2,iV p2),(3,iV p3),(4,(fV 134)),(10,.bool true),(11,.bool true)]) Ar Y ?_);rintro O bq ap av a0 ⟨br,U⟩ bu;have V:=U;unfold Rc at V;obtain⟨bv,a1,a2⟩:=bs V;refine zg 5 rfl (Ci a1 rfl rfl rfl ?_);refine zg 8 rfl (AN a2 (fun a3 a4=>?_) (fun a3 a5=>?_))
  ·obtain⟨bw,a6,a7⟩:=bs a4;refine zg 6 rfl (BD (W5 a6) rfl rfl N6 av fun bx a8 a9=>?_);refine JL.done ?_;obtain rfl:=oi a7;obtain rfl:=a0 _ U;have bb:=elim_inl al;obtain rfl:=oi bb;exact AD func162 rfl rfl (Z (ap.Ac a8) rfl ⟨rfl,rfl⟩ a9)
  ·refine zg 7 rfl (AN a5 (fun bd be=>?_) (fun bd bi=>?_))
   ·refine zg 6 rfl ?_;cases be
   ·refine zg 5 rfl (AB (v:= .bool false) rfl (fun ρ h=>Yl.not (c:=true) (h _ _ rfl)) ?_);refine zg 9 rfl ?_;cases bi
def Tl(fuel:Nat):Option Unit:= (f163 fuel (Dh ((0:Nat):Int))).bind fun K=> (Pp fuel 0 ((0:Nat):Int) K).bind fun O=> some ()
theorem WT{fuel:Nat}{r:Unit}(K:Tl fuel=some r):AL J 133 [nS,(fV 134)] E [] (fun w E' B'=>w= .tuple #[]∧B'= []):=by
 refine A4 func133 fun Q a0 cs H O U=>?_;unfold Tl at K;refine zg 3 rfl (Bh underlying130 rfl rfl rfl ?_);refine zg 6 rfl (AB (v:= .int .u64 ((Dh ((0:Nat):Int):Nat):Int)) rfl (fun ρ h=>Yl.Dh underlying3 underlying156 (h _ _ rfl)) ?_);obtain⟨a1,V,Y⟩:=bs K;refine BD (SB V) rfl rfl (AR func163 rfl) O fun a2 Z ag=>?_;obtain⟨a3,al,am⟩:=bs Y;refine zg 1 rfl (BD (Xp al) rfl rfl Ma ag fun a4 ap av=>?_);refine JL.done ?_;obtain rfl:=oi am;exact JL.fin (v:= .tuple #[]) rfl rfl (Cd.list func133 rfl (vs:= []) trivial) (U (Z.Ac ap) rfl ⟨rfl,rfl⟩ av)
end Pal
namespace Pal
open Go Go.Conc Go.Proofs Go.Sort
theorem U9:∀(ys K:List PT),K.Perm ys→ys.Pairwise (fun p q=>p.1<q.1)→K.Pairwise (fun p q=>p.1≤q.1)→K=ys:=by
 intro ys
 induction ys with
 | nil=>intro K h _ _;exact h.eq_nil
 | cons y ys Z=>
  intro K h O U;cases K with
  | nil=>exact absurd h.symm.eq_nil (by simp)
  | cons z K=>
   rw [List.pairwise_cons] at O U;have V:z∈y::ys:=h.mem_iff.1 (by simp);have Y:y∈z::K:=h.mem_iff.2 (by simp);have e:z=y:=by
    rcases List.mem_cons.1 V with e | V
    ·exact e
    ·rcases List.mem_cons.1 Y with e | Y
     ·exact e.symm
     ·have:=O.1 z V;have:=U.1 y Y;omega
   subst e;rw [Z K ((List.perm_cons z).1 h) O.2 U.2]
theorem XC{F:Nat}{xs ys:List PT}(av:3000<F)(a7:xs.length≤13)(Y:KO xs)(a0:ys.Perm xs)(hs:ys.Pairwise (fun p q=>p.1<q.1)):f133 F xs=some ys:=by
 have fin:∀(d:Array PT) (K:List PT),PermIn 0 xs.toArray.size xs.toArray d→SortedIn AO 0 xs.toArray.size d→K.toArray=d→K=ys:=by
  rintro d K Z a1 rfl;have ag:K.Perm xs:=by
   have al:=Z.2.2;have O:=Z.1;simp only [List.size_toArray] at O al;have a2:(K.toArray.extract 0 xs.length).toList=K:=by simp [← O]
   have a3:(xs.toArray.extract 0 xs.length).toList=xs:=by simp
   rwa [a2,a3] at al
  refine U9 ys K (ag.trans a0.symm) hs ?_;rw [List.pairwise_iff_getElem];intro i j hi am a4;have h:=a1 i j (Nat.zero_le _) a4 (by simpa using (ag.length_eq▸am));rw [Gy hi,Gy am] at h;simpa [AO] using h
 have h:A0 (f133 F xs) (fun K=>K=ys):=by
  unfold f133;rcases Nat.lt_or_ge xs.length 13 with ap | ap
  ·obtain⟨l,O⟩:=Xl F xs.length ap;refine AM O (AE (Uw (F:=F) (n:=xs.length) (l:=l) (by omega) rfl (by omega) Y) ?_);rintro K ⟨k1,a5,a6⟩;obtain⟨V,g2⟩:=insertionSort_holds MI xs.toArray 0 xs.length (Nat.zero_le _) (by simp);exact Ak (fin _ K (by simpa using V) (by simpa using g2) k1)
  ·have U:xs.length=13:=by omega
   refine AM (b:=4) (by rw [U];exact WK F) ?_;rw [U];refine AE (Yk (F:=F) (xs:=xs) av U Y) ?_;rintro K ⟨k1,a5,a6⟩;obtain⟨V,g2⟩:=pdq_sorts AO MI xs.toArray 0 13 4 true true (Nat.zero_le _) (by simp [U]) (.inl rfl);have e:xs.toArray.size=13:=by simpa using U
   exact Ak (fin _ K (by rw [e];exact V) (by rw [e];exact g2) k1)
 obtain⟨K,O,rfl⟩:=h;exact O
theorem Zs{J:Judge Tryz.prog}{E:LH}{a:Option Addr}{c:Nat}{g:Seg}{xs ys:List PT}(U:xs.length≤13)(V:KO xs)(O:ys.Perm xs)(hs:ys.Pairwise (fun p q=>p.1<q.1))(Y:OL 133 (rP rI (rP rI (rL (rP rI (rP (rL rI) (rN .u16)))))) E a c g xs):
  AL J 133 [.slice a xs.length c,.func (.func 134) #[] #[]] E g (fun w E' B'=>w= .tuple #[]∧OL 133 (rP rI (rP rI (rL (rP rI (rP (rL rI) (rN .u16)))))) E' a c B' ys):=by
 rcases Y.cases with⟨rfl,rfl,rfl,rfl⟩ | ⟨bk,f,rfl,rfl,hW⟩
 ·obtain rfl:ys= []:=O.eq_nil;refine(WT (fuel:=10) (r:=()) rfl).Ah ?_;rintro w E' B' hle ⟨K,rfl⟩;exact⟨K,OL.nil⟩
 ·refine(ZV hW (fuel:=4000) (XC (by omega) U V O hs)).Ah ?_;rintro w E' B' hle ⟨ag,K,rfl,Z⟩;exact⟨K,Z.1⟩
end Pal
namespace Pal
open Go Go.Conc Go.Proofs
open Go.Proofs.Tryz
open Go.Conc.Lib Go.ConcR.Gen
def Dd(qs:Nat→Int×List (Ce)):List (Bu):=((List.range 13).filter (fun j=>decide (0<(qs j).2.length))).map (partOf qs)
theorem XH
  {E:LH} {k1 o2:Nat} {a4 a5 a6:An} {a7 a8 a9:Nat} {bb:List Value} {U:BU} {lk:AI} (al:At E k1 o2 (([sV a4 U.1 a7,sV a5 U.2.1 a8]:List Value)++bb)) (bo:Al (rL rI) E a4 a7 U.1) (bp:Al (rL rI) E a5 a8 U.2.1) (bq:(rA 13 (rN .u16)).r E bb U.2.2) (br:Al Bp E a6 a9 lk) {fuel:Nat} {qs:Nat→Int×List (Ce)} (bu:∀j,j<13→GC fuel U lk ((j:Nat):Int)=some (qs j)):
  AL (DJ Tryz.prog) 102 [pV k1 o2,.slice a6 lk.length a9] E [] (fun w E' B'=>∃a c,w= .slice a (Dd qs).length c∧B'= []∧Al Cw E' a c (Dd qs)):=by
 refine J3 func102 rfl rfl fun Q b6 cs H bv bw=>zg 2 rfl (B4 bv fun bx b7 bz am bA=>?_);refine B4 bA fun bB b8 bd bC bD=>?_;refine DI (S':= []) (by simp) bD fun bE=>zg 4 rfl (JS.makeChan rfl rfl rfl underlying162 (CR type133) bE fun ch bF=>?_);refine Cz bF (Du type162) fun rc bG=>?_;refine JS.store (v:= .chan (some ch)) (off:=0) 1 rfl rfl rfl bG rfl rfl (Bo type162) (by simp [Value.cells,CG]) rfl (Nat.le_of_ble_eq_true rfl) fun bH=>CV 1 bH rfl fun V ap av bI=>zg 3 rfl (Cz bI (Du type171) fun wg bJ=>?_);refine DI (S':= [[(ch,.chan 0 #[] false 0 0 false)],[(wg,.cells #[.int .u64 0,.int .u32 0] 171 (0,0))]]) (by simp [Value.cells]) bJ fun ag=>zg 7 rfl (IY ?_);refine IC [(2,pV bx 0),(3,pV bB 0),(5,pV rc 0),(6,pV wg 0),(11,iV ((0:Nat):Int))] rfl ?_;have bK:=bz.Ac bd;have Y:=bK.Ac ap;have a0:=Nd.iff.1 ag;intro T bL;let F:Fam:=⟨wg,ch,171,13,fun j=>decide (0<(qs j).2.length),fun kk v E=>kk<13∧∃a c,v= .agg #[iV ((kk:Nat):Int),iV (qs kk).1,.slice a (qs kk).2.length c]∧Al Dr E a c (qs kk).2,fun g s=>(DJ Tryz.prog).ok Q g s⟩;refine WY F (Nat.le_of_ble_eq_true rfl) (show 13<2147483647 by omega) ?_ ?_ (NU (j:=1) ag rfl) (NU (j:=0) ag rfl) ?_ (fun g s h=>h)
 ·rintro kk v b9 ca a1 ⟨Z,a,c,bM,al⟩;exact⟨Z,a,c,bM,al.Ah a1⟩
 ·intro e;have:=a0.1;simp at this;exact this e.symm
 have bN:=Ue ag;show Way Tryz.prog true (Stop Tryz.prog F (.Fw 0)) _ (⟨(Ao V H [[(ch,.chan 0 #[] false 0 0 false)],[(wg,.cells #[.int .u64 0,.int .u32 0] 171 (0,0))]]).E,Ix (Ao V H [[(ch,.chan 0 #[] false 0 0 false)],[(wg,.cells #[.int .u64 0,.int .u32 0] 171 (0,0))]]).H wg ch,false⟩:St);rw [show(Ao V H [[(ch,.chan 0 #[] false 0 0 false)],[(wg,.cells #[.int .u64 0,.int .u32 0] 171 (0,0))]]).E=V from rfl,bN];have bO:Ax V H []:=trivial;refine UL (F:=F) rfl (al.Ah Y) (bo.Ah Y) (bp.Ah Y) (Rp.Ah _ Y bq) (br.Ah Y) (am.Ah (bd.Ac ap)) (bC.Ah ap) av bu (fun j _=>rfl) (fun j bP E' a c bQ=>⟨bP,a,c,rfl,bQ⟩) (fun be a2 cb=>?_) 13 0 rfl (by decide) V Ar bO T bL;refine zg 9 rfl ?_;refine AB (v:= .func (.func 131) #[] ([.pointer (some F.sA),pV rc 0]:List Value).toArray) rfl (fun ρ h=>IV (by simp) (by simp [h (.tmp 6) _ rfl,h (.tmp 5) _ rfl])) ?_;have bi:=VK (F:=F) (show 13<2147483648 by omega) (av.Ah a2);refine JL.GN (fi:= #[]) rfl rfl rfl rfl rfl rfl rfl (by first | exact bi | (simp only [List.append_toArray,List.nil_append,Array.append_empty,Array.empty_append];exact bi)) ?_
 refine zg 8 rfl (AB (v:= .chan (some ch)) rfl (fun ρ h=>Yl.load L5 (h _ _ rfl) (At.J6 (j:=0) (av.Ah a2) rfl)) ?_);refine zg 2 rfl (IY ?_);refine IC [(8,.slice none 0 0),(18,.chan (some ch))] rfl ?_;have bR:Ax be H [[]]:=trivial;refine U1 (F:=F) (Q:=Q) rfl (fun g s h=>h) (qs:=qs) (fun kk v E' h=>h.2) (fun K cc a c g bS a0 bn bT bU bV=>?_) 13 [] [] be none 0 [] rfl List.nodup_nil (by simp) (by decide) Ar OL.nil bR;have a3:(Dd qs).Perm (K.map (partOf qs)):=by
  unfold Dd;refine List.Perm.map _ ?_;refine(List.perm_ext_iff_of_nodup (List.nodup_range.filter _) a0).2 fun x=>?_;constructor
  ·intro O;simp at O;exact bT x O.1 (by simpa [F] using O.2)
  ·intro O;have Z:=bn x O;simp;exact⟨Z.1,by simpa [F] using Z.2⟩
 have bW:(Dd qs).Pairwise (fun p q=>p.1<q.1):=by
  unfold Dd;rw [List.pairwise_map];refine List.Pairwise.filter _ (List.Pairwise.imp ?_ List.pairwise_lt_range);intro a b a1;exact Int.ofNat_lt.2 a1
 have hlen:(K.map (partOf qs)).length≤13:=by
  rw [← a3.length_eq];unfold Dd;rw [List.length_map];exact Nat.le_trans (List.length_filter_le _ _) (by simp)
 have bY:KO (K.map (partOf qs)):=by
  intro x O;obtain⟨j,am,rfl⟩:=List.mem_map.1 O;have Z:=(bn j am).1;simp only [partOf];omega
 have bZ:(K.map (partOf qs)).length=(Dd qs).length:=a3.length_eq.symm;refine zg 3 rfl ?_;refine OB (vs:= [.slice a (K.map (partOf qs)).length c,.func (.func 134) #[] #[]]) 0 (Zs hlen bY a3 bW bU) rfl rfl rfl (AR func133 rfl) rfl bV rfl ?_;rintro _ cd g' b0 ⟨rfl,b1⟩ b2;refine zg 6 rfl ?_;refine B5 0 b1 b2 rfl fun ce b3 b4 b5=>?_;refine JL.ret (v:= .slice a (K.map (partOf qs)).length c) rfl rfl (Cd.list func102 rfl (vs:= [.slice a (K.map (partOf qs)).length c]) ⟨rfl,trivial⟩) ?_;exact bw _ _ _ [] ((((Y.Ac a2).Ac bS).Ac b0).Ac b3) (by simp) ⟨a,c,by rw [bZ],rfl,b4⟩ b5
end Pal
namespace Pal
open Go Go.Conc Go.Proofs
open Go.Proofs.Tryz
open Go.Conc.Lib Go.ConcR.Gen
def Jb(fuel:Nat)(K:BU)(lk:AI):Option (List (Bu)):=
 if(List.range 13).all (fun j=>(GC fuel K lk ((j:Nat):Int)).isSome)=true then some (Dd fun j=>(GC fuel K lk ((j:Nat):Int)).getD (0,[])) else none
theorem Rn
  {E:LH} {k1 o2:Nat} {U V Y:An} {Z ag al:Nat} {am:List Value} {K:BU} {lk:AI} (a1:At E k1 o2 (([sV U K.1 Z,sV V K.2.1 ag]:List Value)++am)) (a2:Al (rL rI) E U Z K.1) (a3:Al (rL rI) E V ag K.2.1) (a4:(rA 13 (rN .u16)).r E am K.2.2) (a5:Al Bp E Y al lk) {fuel:Nat} {r:List (Bu)} (O:Jb fuel K lk=some r):
  AL (DJ Tryz.prog) 102 [pV k1 o2,.slice Y lk.length al] E [] (fun w E' B'=>∃(ap:An) (av:Nat),w= .slice ap r.length av∧B'= []∧Al Cw E' ap av r):=by
 unfold Jb at O;split at O
 ·rename_i a0;cases O;refine(XH a1 a2 a3 a4 a5 (fuel:=fuel) (qs:=fun j=>(GC fuel K lk ((j:Nat):Int)).getD (0,[])) fun j a6=>?_).Ah ?_
  ·rw [List.all_eq_true] at a0;obtain⟨q,a7⟩:=Option.isSome_iff_exists.1 (a0 j (List.mem_range.2 a6));rw [a7];rfl
  ·rintro w E' B' _ ⟨a,c,a8,a9,bb⟩;exact⟨a,c,a8,a9,bb⟩
 ·cases O
end Pal
namespace Pal
open Go Go.Conc Go.Proofs
open Go.Proofs.Tryz
def Li(fuel:Nat)(O:Bu)(K:Int×(List Ce)×Int):Option (Bi (Int×(List Ce)×Int) (Int×(List Ce))):= if K.2.2<(O.2.2.length:Int) then((ix O.2.2 K.2.2).bind fun V=> (II fuel K.1 K.2.1 V O.2.1).bind fun U=> (As (K.2.2+1)).bind fun Y=> some (.more (U.1,U.2,Y))) else(some (.done (K.1,K.2.1)))
def M8(fuel:Nat)(O:(List Bu))(K:Int×(List Ce)×Int):Option (Bi (Int×(List Ce)×Int) (Int×(List Ce))):= if K.2.2<(O.length:Int) then((ix O K.2.2).bind fun V=> Option.bind (iter (Li fuel V) fuel (K.1,K.2.1,0)) fun U=> (As (K.2.2+1)).bind fun Y=> some (.more (U.1,U.2,Y))) else(some (.done (K.1,K.2.1)))
def f93(fuel:Nat)(p0:BU)(p1:AI):Option ((Int×(List Ce))):= (Jb fuel p0 p1).bind fun K=> Option.bind (iter (M8 fuel K) fuel (0,[],0)) fun O=> some O
theorem NB{E:LH}{k1:Nat}{o2:Nat}{bx:An}{bz:Nat}{bA:An}{bB:Nat}{bC:List Value}{bD:An}{bE:Nat}{p0:BU}{p1:AI}(bT:At E k1 o2 (([sV bx p0.1 bz,sV bA p0.2.1 bB]:List Value)++bC))(bU:Al (rL rI) E bx bz p0.1)(bV:Al (rL rI) E bA bB p0.2.1)(bW:(rA 13 (rN .u16)).r E bC p0.2.2)(bY:Al Bp E bD bE p1){fuel:Nat}{r:(Int×(List Ce))}(bF:f93 fuel p0 p1=some r):AL (DJ Tryz.prog) 93 [pV k1 o2,sV bD p1 bE] E [] (fun w E' B'=>∃(bG:An) (bH:Nat),w= .agg #[iV r.1,sV bG r.2 bH]∧B'= []∧Al Dr E' bG bH r.2):=by
 refine A4 func93 fun Q dg cs H bZ b0=>?_;unfold f93 at bF;refine zg 2 rfl (Cz bZ FY fun O b1=>?_);refine zg 3 rfl (Cz b1 FY fun U b2=>?_);obtain⟨ag,b3,b4⟩:=bs bF;refine zg 6 rfl (BL (Rn bT bU bV bW bY b3) rfl rfl (AR func102 rfl) b2 ?_);rintro _ be _ b5 ⟨bi,bn,rfl,rfl,b6⟩ b7;refine Bh underlying130 rfl rfl rfl ?_;obtain⟨K,b8,b9⟩:=bs b4;refine zg 2 rfl (Br (fun L s=>∃(bo:LH) (V:An) (Y:Nat) (bp:Seg),Jn be H bo [bX O #[iV 0,nS] 97,bX U #[iV K.1,sV V K.2 Y] 97,bp] [(4,pV O 0),(5,pV U 0)] L s (OL 104 Dr bo V Y bp K.2)) ?_ ?_)
 ·rintro _ _ ⟨bo,V,Y,bp,rfl,rfl,ca,bI,cb⟩;refine zg 2 rfl (AB rfl (fun ρ h=>FJ (vs:= [iV K.1,sV V K.2 Y]) Ic Dl (h _ _ rfl) (ED (off:=0) 1 bI rfl rfl)) ?_);refine BM 0 bI Dl fun cc=>?_;refine JL.done (B5 2 cb cc rfl fun dh cd ce cf=>?_);refine JS.drop 1 cf rfl fun bJ=>?_;obtain rfl:=oi b9;refine JL.ret (v:= .agg #[iV K.1,sV V K.2 Y]) rfl rfl (Cd.list func93 rfl (vs:= [.agg #[iV K.1,sV V K.2 Y]]) ⟨⟨_,rfl,Ld.many (vs:= [iV K.1,sV V K.2 Y]) Ic Dl (ED (off:=0) 0 bJ rfl rfl)⟩,trivial⟩) (Gx 0 bJ rfl fun cg=>?_);exact b0 ((b5.Ac ca).Ac cd) rfl ⟨V,Y,rfl,rfl,ce⟩ cg
 ·intro ci;refine JL.block (CN b8 (fun L s Z=>∃(a1:LH) (al:An) (am:Nat) (ap:Seg),Jn be H a1 [bX O #[iV 0,nS] 97,bX U #[iV Z.1,sV al Z.2.1 am] 97,ap] [(4,pV O 0),(5,pV U 0),(12,sV bi ag bn),(13,iV (ag.length:Int)),(14,iV Z.2.2)] L s (OL 104 Dr a1 al am ap Z.2.1)) ⟨be,none,0,[],rfl,rfl,Ar,b7,OL.nil⟩ ?_);rintro _ _ Z ⟨a1,al,am,ap,rfl,rfl,bq,bK,bL⟩ ck ⟨di,br⟩ cm;have bM:=br;unfold M8 at bM;refine zg 5 rfl (AN bM (fun cn co=>?_) (fun cn cp=>?_))
  ·obtain⟨bN,cq,cr⟩:=bs co;refine zg 5 rfl (B9 (b6.Ah bq) cq underlying130 AS ?_);rintro dj dk _ ⟨_,_,rfl,rfl,⟨_,_,rfl,rfl,⟨ct,cu,rfl,cv⟩⟩⟩ cw;refine BQ cw Cr AS rfl rfl (Cz bK Ie fun cy cz=>?_);refine BM 3 cz AS fun cA=>?_;refine CV 3 cA rfl fun bu bv bO cB=>zg 3 rfl (BJ underlying133 Dl rfl rfl rfl ?_);refine JL.fl 2 bO underlying97 Dt EC ?_;refine Bh underlying95 rfl rfl rfl ?_;obtain⟨av,cC,cD⟩:=bs cr;refine zg 2 rfl (Br (fun L s=>∃(a2:LH) (a3:An) (a4:Nat) (a5:Seg),Jn bu H a2 [bX O #[iV 0,nS] 97,bX U #[iV av.1,sV a3 av.2 a4] 97,a5] [(4,pV O 0),(5,pV U 0),(12,sV bi ag bn),(13,iV (ag.length:Int)),(14,iV Z.2.2)] L s (OL 104 Dr a2 a3 a4 a5 av.2)) ?_ ?_)
   ·rintro _ _ ⟨a2,a3,a4,a5,rfl,rfl,cE,cF,cG⟩;obtain⟨cH,cI,cJ⟩:=bs cD;refine zg 2 rfl (Be cI rfl rfl rfl ?_);refine zg 2 rfl ?_;obtain rfl:=oi cJ;exact Ay (cm _ _ (av.1,av.2,cH) ⟨a2,a3,a4,a5,rfl,rfl,((bq.Ac bv).Ac cE),cF,cG⟩ br) rfl
   ·intro cK;refine JL.block (CN cC (fun L s a0=>∃(a6:LH) (a7:An) (a8:Nat) (a9:Seg),Jn bu H a6 [bX O #[iV 0,nS] 97,bX U #[iV a0.1,sV a7 a0.2.1 a8] 97,a9] [(4,pV O 0),(5,pV U 0),(7,pV cy 0),(12,sV bi ag bn),(13,iV (ag.length:Int)),(14,iV Z.2.2),(20,sV ct bN.2.2 cu),(21,iV (bN.2.2.length:Int)),(22,iV a0.2.2)] L s (OL 104 Dr a6 a7 a8 a9 a0.2.1)) ⟨bu,al,am,ap,rfl,rfl,Ar,cB,(bL.Ah bv)⟩ ?_);rintro _ _ a0 ⟨a6,a7,a8,a9,rfl,rfl,bb,bP,bQ⟩ cM ⟨dl,bw⟩ cN;have bR:=bw;unfold Li at bR;refine zg 5 rfl (AN bR (fun cO cP=>?_) (fun cO cQ=>?_))
    ·obtain⟨cR,cT,cV⟩:=bs cP;refine zg 5 rfl (B9 (cv.Ah (bv.Ac bb)) cT underlying95 Cu ?_);rintro dm dn _ ⟨_,_,rfl,rfl,⟨_,_,rfl,⟨dp,dq,rfl,cW⟩,rfl⟩⟩ cX;refine BQ cX FX Cu rfl rfl (Cz bP GV fun dr cY=>?_);refine BM 3 cY Cu fun cZ=>?_;refine CV 3 cZ rfl fun dt bd c0 c1=>zg 2 rfl (BQ c0 FX Cu rfl rfl ?_);refine BJ underlying133 Dl rfl rfl rfl (JL.fl 1 (bO.Ah (bb.Ac bd)) underlying97 AU Bv ?_);obtain⟨bS,c2,c3⟩:=bs cV;refine KH 1 2 rfl rfl c1 fun c4=>B6 1 (YU (age:=0) (bQ.Ah bd) (tr:=cR) (cW.Ah bd) c2) rfl rfl (AR func122 rfl) c4 rfl ?_;rintro _ c5 _ c6 ⟨c7,c8,c9,rfl,rfl,da⟩ db;refine EP 1 rfl db fun dc=>?_;obtain⟨dd,de,df⟩:=bs c3;refine zg 3 rfl (Be de rfl rfl rfl ?_);refine zg 2 rfl ?_;obtain rfl:=oi df;exact Ay (cN _ _ (bS.1,bS.2,dd) ⟨c5,c7,c8,c9,rfl,rfl,((bb.Ac bd).Ac c6),dc,da⟩ bw) rfl
    ·refine JL.exit rfl ?_;obtain rfl:=oi cQ;obtain rfl:=cM _ bw;exact Ay (cK _ _ ⟨a6,a7,a8,a9,rfl,rfl,bb,bP,bQ⟩) rfl
  ·refine JL.exit rfl ?_;obtain rfl:=oi cp;obtain rfl:=ck _ br;exact Ay (ci _ _ ⟨a1,al,am,ap,rfl,rfl,bq,bK,bL⟩) rfl
def f78(fuel:Nat)(p0:A1)(p1:AI)(p2:Int)(p3:Bool):Option ((Option BU)×(Int×(List Ce))×Int):= (f69 fuel p0 p1).bind fun O=> if O≠0 then(some (none,(0,[]),O)) else((As ((p1.length:Int) - 1)).bind fun V=> (f101 fuel p2 (-1) V).bind fun Y=> if Y=true then(some (none,(0,[]),3)) else((f92 fuel p0).bind fun Z=> (Z).bind fun U=> (f93 fuel U p1).bind fun K=> Option.bind (if(K.2.length:Int)=0 then(some (!p3)) else(some false)) fun ag=> if ag=true then(some (none,K,11)) else(some (some U,K,0))))
def f61(fuel:Nat)(p0:A1)(p1:AI):Option ((Int×Int)×Int):= (f78 fuel p0 p1 (-1) false).bind fun K=> if K.2.2≠0 then(some ((0,0),K.2.2)) else((f87 fuel K.2.1.2).bind fun U=> (f89 fuel U).bind fun O=> (ix O (0)).bind fun V=> (As ((O.length:Int) - 1)).bind fun Y=> (ix O Y).bind fun Z=> some ((V,Z),0))
def Pb(fuel:Nat)(p2:Int)(O:(List Bu))(K:(List Int)×Int):Option (Bi ((List Int)×Int) ((List Int))):= if K.2<(O.length:Int) then((ix O K.2).bind fun U=> Option.bind (if U.2.1≤p2 then((room K.1 U.1).bind fun V=> some V) else(some K.1)) fun Y=> (As (K.2+1)).bind fun Z=> some (.more (Y,Z))) else(some (.done K.1))
def f43(fuel:Nat)(p0:A1)(p1:AI)(p2:Int):Option ((List Int)×Int):= (f69 fuel p0 p1).bind fun K=> if K≠0 then(some ([],K)) else((f101 fuel p2 0 4).bind fun U=> if U=true then(some ([],1)) else((f92 fuel p0).bind fun V=> (V).bind fun Y=> (Jb fuel Y p1).bind fun Z=> Option.bind (iter (Pb fuel p2 Z) fuel ([],0)) fun O=> if(O.length:Int)=0 then(some ([],11)) else(some (O,0))))
end Pal
namespace Pal
open Go Go.Conc Go.Proofs
open Go.Proofs.Tryz
variable {J:Judge Tryz.prog}{E:LH}
def NC(fuel:Nat)(p0:AI):Option ((AI)):= (De ([]:AI) p0).bind fun K=> some K
theorem Xs{ad:Addr}{c2:Nat}{p0:AI}(V:Al Bp E (some ad) c2 p0){fuel:Nat}{r:(AI)}(K:NC fuel p0=some r):AL J 123 [.slice (some ad) p0.length c2] E [] (fun w E' B'=>∃(O:An) (U:Nat) (g0:Seg),w= sV O r U∧B'=g0∧OL 27 Bp E' O U g0 r):=by
 refine A4 func123 fun Q a4 cs H Y Z=>?_;unfold NC at K;refine zg 8 rfl (AB (v:= .bool false) rfl (fun ρ h=>Ms (a:=(some ad)) underlying25 (h _ _ rfl) (h _ _ rfl)) ?_);refine zg 5 rfl (K9 (pp:=Bp) rfl rfl rfl underlying25 Cc Y fun a5 g2 ag al=>?_);obtain⟨a6,am,ap⟩:=bs K;refine zg 1 rfl (KZ (pp:=Bp) 1 am rfl rfl rfl rfl rfl rfl rfl underlying25 underlying25 Cc (CR type27) Er rfl (by decide) (by decide) ag V al rfl fun av a0 a1 a2 a3=>?_);refine zg 2 rfl ?_;obtain rfl:=oi ap;exact AD func123 rfl rfl (Z Ar rfl ⟨av,a0,a1,rfl,(by first | rfl | simp | (simp [Value.cells])),a2⟩ a3)
def Tf(fuel:Nat)(p0:AI):Option ((AI)):= some ([])
theorem XP{c2:Nat}{p0:AI}(Z:Al Bp E none c2 p0){fuel:Nat}{r:(AI)}(K:Tf fuel p0=some r):AL J 123 [sV none p0 c2] E [] (fun w E' B'=>∃(O:An) (U:Nat) (g0:Seg),w= sV O r U∧B'=g0∧OL 27 Bp E' O U g0 r):=by
 refine A4 func123 fun Q ag cs H V Y=>?_;unfold Tf at K;refine zg 8 rfl (AB (v:= .bool true) rfl (fun ρ h=>Ms (a:=none) underlying25 (h _ _ rfl) (h _ _ rfl)) ?_);refine zg 6 rfl ?_;obtain rfl:=oi K;exact AD func123 rfl rfl (Y Ar rfl ⟨none,0,[],rfl,rfl,OL.nil⟩ V)
def f123(fuel:Nat)(p0:AI):Option AI:=NC fuel p0
theorem Zj{O:An}{c2:Nat}{p0:AI}(U:Al Bp E O c2 p0){fuel:Nat}{r:AI}(K:f123 fuel p0=some r):AL J 123 [.slice O p0.length c2] E [] (fun w E' B'=>∃(V:An) (Y:Nat) (g0:Seg),w= .slice V r.length Y∧B'=g0∧OL 27 Bp E' V Y g0 r):=by
 cases O with
 | some ad=>exact Xs U K
 | none=>
  have Z:p0= []:=by
   rcases U.2 with h | ⟨_,_,h,_⟩
   ·exact h.1
   ·cases h
  subst Z;have ag:r= []:=by
   have al:NC fuel []=some []:=rfl;unfold f123 at K;rw [al] at K;exact(Option.some.inj K).symm
  subst ag;exact XP (fuel:=fuel) U rfl
end Pal
namespace Pal
open Go Go.Conc Go.Proofs
open Go.Proofs.Tryz
variable {J:Judge Tryz.prog}{E:LH}
def f125(fuel:Nat)(p0:Int×Int)(p1:Int×Int):Option Int:= (As (p0.1 - p1.1)).bind fun K=> some K
theorem Yz{p0:Int×Int}{p1:Int×Int}{fuel:Nat}{r:Int}(K:f125 fuel p0 p1=some r):AL J 125 [.agg #[iV p0.1,iV p0.2],.agg #[iV p1.1,iV p1.2]] E [] (fun w E' B'=>w=iV r∧B'= []):=by
 refine A4 func125 fun Q a0 cs H U V=>?_;unfold f125 at K;refine zg 2 rfl (B4 U fun a1 a2 Y Z ag=>?_);refine B4 ag fun a3 a4 O al am=>?_;refine zg 4 rfl (JL.fl 0 (Z.Ah O) underlying27 AU Bv ?_);refine JL.fl 0 al underlying27 AU Bv ?_;obtain⟨a5,ap,av⟩:=bs K;refine Ci ap rfl rfl rfl (zg 2 rfl ?_);obtain rfl:=oi av;exact AD func125 rfl rfl (V (Y.Ac O) rfl ⟨rfl,rfl⟩ am)
def Rv(fuel:Nat)(p1:Int)(K:Int×(AI)):Option (Bi (Int×(AI)) ((AI))):= Option.bind (if p1<K.1 then((ix K.2 K.1).bind fun V=> (As (K.1 - 1)).bind fun Y=> (ix K.2 Y).bind fun Z=> (f125 fuel V Z).bind fun ag=> some (decide (ag<0))) else(some false)) fun al=> if al=true then((As (K.1 - 1)).bind fun O=> (As (K.1 - 1)).bind fun am=> (ix K.2 am).bind fun U=> (ix K.2 K.1).bind fun ap=> (ix (K.2.set (Int.toNat K.1) U) O).bind fun a0=> (As (K.1 - 1)).bind fun av=> some (.more (av,((K.2.set (Int.toNat K.1) U).set (Int.toNat O) ap)))) else(some (.done K.2))
def Ru(fuel:Nat)(p1:Int)(p2:Int)(K:Int×(AI)):Option (Bi (Int×(AI)) ((AI))):= if K.1<p2 then(Option.bind (iter (Rv fuel p1) fuel K) fun O=> (As (K.1+1)).bind fun U=> some (.more (U,O))) else(some (.done K.2))
def f168(fuel:Nat)(p0:AI)(p1:Int)(p2:Int):Option ((AI)):= (As (p1+1)).bind fun K=> Option.bind (iter (Ru fuel p1 p2) fuel (K,p0)) fun O=> some O
theorem SN{K:Nat}{U:Nat}{V:Nat}{a8:Array Value}{p0:AI}{p1:Int}{p2:Int}(hW:WL 27 Bp E K U V a8 p0){fuel:Nat}{r:(AI)}(bn:f168 fuel p0 p1 p2=some r):AL J 168 [.slice (AZ K) V U,iV p1,iV p2,(fV 125)] E [(K,.cells a8 27 (0,0))] (fun w E' B'=>∃(bo:Array Value),w= .tuple #[]∧B'= [(K,.cells bo 27 (0,0))]∧WL 27 Bp E' K U V bo r):=by
 refine A4 func168 fun Q cJ cs H bG bH=>?_;unfold f168 at bn;obtain⟨cK,bI,bJ⟩:=bs bn;refine zg 3 rfl (Be bI rfl rfl rfl ?_);obtain⟨bK,bL,bM⟩:=bs bJ;refine zg 2 rfl (Br (fun L s=>∃(a9:LH) (f17:Array Value),Jn E H a9 [bX K f17 27] [] L s (WL 27 Bp a9 K U V f17 bK)) ?_ ?_)
 ·rintro _ _ ⟨a9,f17,rfl,rfl,bN,bO,bP⟩;obtain rfl:=oi bM;exact JL.fin (v:= .tuple #[]) rfl rfl (Cd.list func168 rfl (vs:= []) trivial) (bH bN rfl ⟨f17,rfl,(by first | rfl | simp | (simp [Value.cells])),bP⟩ bO)
 ·intro bQ;refine JL.block (CN bL (fun L s am=>∃(al:LH) (f25:Array Value),Jn E H al [bX K f25 27] [(0,.slice (AZ K) V U),(1,iV p1),(2,iV p2),(3,(fV 125)),(8,iV am.1)] L s (WL 27 Bp al K U V f25 am.2)) ⟨E,a8,rfl,rfl,Ar,bG,hW⟩ ?_);rintro _ _ am ⟨al,f25,rfl,rfl,bp,bq,br⟩ bR ⟨cM,bb⟩ bS;have bu:=bb;unfold Ru at bu;refine zg 7 rfl (AN bu (fun bT bU=>?_) (fun bT bV=>?_))
  ·obtain⟨bv,bW,bY⟩:=bs bU;refine zg 8 rfl (Br (fun L s=>∃(a2:LH) (f48:Array Value),Jn al H a2 [bX K f48 27] [(0,.slice (AZ K) V U),(1,iV p1),(2,iV p2),(3,(fV 125)),(8,iV am.1)] L s (WL 27 Bp a2 K U V f48 bv)) ?_ ?_)
   ·rintro _ _ ⟨a2,f48,rfl,rfl,bZ,b0,b1⟩;obtain⟨b2,b3,b4⟩:=bs bY;refine zg 3 rfl (Be b3 rfl rfl rfl ?_);refine zg 2 rfl ?_;obtain rfl:=oi b4;exact Ay (bS _ _ (b2,bv) ⟨a2,f48,rfl,rfl,(bp.Ac bZ),b0,b1⟩ bb) rfl
   ·intro b5;refine JL.block (CN bW (fun L s Y=>∃(av:LH) (f58:Array Value),Jn al H av [bX K f58 27] [(0,.slice (AZ K) V U),(1,iV p1),(2,iV p2),(3,(fV 125)),(8,iV am.1),(9,iV Y.1)] L s (WL 27 Bp av K U V f58 Y.2)) ⟨al,f25,rfl,rfl,Ar,bq,br⟩ ?_);rintro _ _ Y ⟨av,f58,rfl,rfl,bw,a0,O⟩ b6 ⟨cN,bd⟩ b7;have bx:=bd;unfold Rv at bx;refine zg 2 rfl (Di 17 [K] ⟨⟨0,_,rfl⟩,trivial⟩ a0 fun ht=>?_);refine A2 ht rfl [0,1,2,3] rfl ?_;obtain⟨b8,bz,b9⟩:=bs bx;refine EO 0 #[true,true,true,true,true,true,true,true,true,true,true,true,true,true,true,true,true] (fun L s=>∃(a3:LH),Jm av H a3 [bX K f58 27] [(0,.slice (AZ K) V U),(1,iV p1),(2,iV p2),(3,(fV 125)),(8,iV am.1),(9,iV Y.1),(34,.bool b8)] L s) ?_ ?_
    ·rintro _ _ ⟨a3,rfl,rfl,ap,a4⟩;refine AY.fin (by decide+kernel) (BF b9 (fun ca cb=>?_) (fun ca cc=>?_))
     ·refine zg 3 rfl (G1 [15,17] [K] mixed rfl ?_);refine Bt 0 rfl rfl (Bt 1 rfl rfl ?_);refine Bt 2 rfl rfl (Bt 3 rfl rfl ?_);obtain⟨bA,cd,ce⟩:=bs cb;refine GJ 4 true rfl rfl (fun ρ h s' hs=>C5 (h _ _ rfl) (h _ _ rfl) cd) (Bt 5 rfl rfl ?_);refine Bt 6 rfl rfl ?_;obtain⟨cO,cf,cg⟩:=bs ce;refine GJ 7 true rfl rfl (fun ρ h s' hs=>C5 (h _ _ rfl) (h _ _ rfl) cf) ?_;obtain⟨Z,bB,ci⟩:=bs cg;obtain⟨_,⟨_,_,rfl,rfl,rfl⟩,ck⟩:=WL.at (O.Ah ap) bB;refine Cx 8 O.2 bB underlying25 Cc ?_;refine Ec 9 [iV Z.1,iV Z.2] 0 a4 ck Gt Cc ?_;refine Bt 10 rfl rfl (Bt 11 rfl rfl ?_);obtain⟨ag,a5,cm⟩:=bs ci;obtain⟨_,⟨_,_,rfl,rfl,rfl⟩,cn⟩:=WL.at (O.Ah ap) a5;refine Cx 12 O.2 a5 underlying25 Cc ?_;refine Ec 13 [iV ag.1,iV ag.2] 0 a4 cn Gt Cc ?_;refine Cx 14 O.2 a5 underlying25 Cc ?_;have a1:=WL.put (x':=Z) (ws':= [iV Z.1,iV Z.2]) (O.Ah ap) O.2 a5 ⟨_,_,rfl,rfl,rfl⟩;refine Ed 15 0 a4 Cc a1.2 fun co=>?_;obtain⟨cP,be,cp⟩:=bs cm;obtain⟨_,⟨_,_,rfl,rfl,rfl⟩,cQ⟩:=WL.at a1.1 be;refine Cx 16 (a1.1).2 be underlying25 Cc ?_;have bC:=WL.put (x':=ag) (ws':= [iV ag.1,iV ag.2]) a1.1 (a1.1).2 be ⟨_,_,rfl,rfl,rfl⟩;refine Ed 17 0 co Cc bC.2 fun cq=>?_;refine JB.fin (by decide+kernel) ?_;obtain⟨cr,ct,cu⟩:=bs cp;refine zg 3 rfl (Ci ct rfl rfl rfl ?_);refine zg 2 rfl ?_;obtain rfl:=oi cu;exact Ay (b7 _ _ (cr,((Y.2.set (Int.toNat Y.1) Z).set (Int.toNat bA) ag)) ⟨a3,(AX (AX f58 (Int.toNat (Y.1)*2) [iV Z.1,iV Z.2]) (Int.toNat (bA)*2) [iV ag.1,iV ag.2]),rfl,rfl,(bw.Ac ap),cq,bC.1⟩ bd) rfl
     ·refine JL.exit rfl ?_;obtain rfl:=oi cc;obtain rfl:=b6 _ bd;exact Ay (b5 _ _ ⟨a3,f58,rfl,rfl,(bw.Ac ap),a4,(O.Ah ap)⟩) rfl
    ·intro bD;refine FI (q:=p1<Y.1) (i:=21) rfl (fun bi=>?_) (fun bi=>?_)
     ·have cv:=ip bz bi;refine A2 ht rfl [4,5,6] rfl ?_;obtain⟨a6,bE,cw⟩:=bs cv;obtain⟨_,⟨_,_,rfl,rfl,rfl⟩,cy⟩:=WL.at O bE;refine F7 7 ht (O).2 bE underlying25 Cc ?_;refine DZ 8 ht [iV a6.1,iV a6.2] 0 a0 cy Gt Cc ?_;refine A2 ht rfl [9,10] rfl ?_;obtain⟨cR,cz,cA⟩:=bs cw;refine Bx 11 ht rfl rfl (fun ρ h s' hs=>C5 (h _ _ rfl) (h _ _ rfl) cz) ?_;obtain⟨a7,bF,cB⟩:=bs cA;obtain⟨_,⟨_,_,rfl,rfl,rfl⟩,cC⟩:=WL.at O bF;refine F7 12 ht (O).2 bF underlying25 Cc ?_;refine DZ 13 ht [iV a7.1,iV a7.2] 0 a0 cC Gt Cc ?_;obtain⟨cT,cD,cE⟩:=bs cB;refine HO (i:=14) ⟨⟨0,_,rfl⟩,trivial⟩ (vs:= [.agg #[iV a6.1,iV a6.2],.agg #[iV a7.1,iV a7.2]]) (Yz cD) (by decide+kernel) rfl rfl rfl rfl (AR func125 rfl) rfl a0 ?_;rintro _ cF _ cG ⟨rfl,rfl⟩ cH;refine A2 ht rfl [15,16] rfl ?_;obtain rfl:=oi cE;refine C4 ?_ (bD _ _ ⟨cF,rfl,rfl,cG,cH⟩);exact⟨rfl,rfl,rfl,rfl,rfl,rfl,rfl,trivial⟩
     ·have cI:=im bz bi;refine A2 ht rfl [4,5,6,7,8,9,10,11,12,13,14,15,16] rfl ?_;obtain rfl:=oi cI;refine C4 ?_ (bD _ _ ⟨av,rfl,rfl,Ar,a0⟩);exact⟨rfl,rfl,rfl,rfl,rfl,rfl,rfl,trivial⟩
  ·refine JL.exit rfl ?_;obtain rfl:=oi bV;obtain rfl:=bR _ bb;exact Ay (bQ _ _ ⟨al,f25,rfl,rfl,bp,bq,br⟩) rfl
def RM(fuel:Nat)(p1:Int)(K:Int×Int×(AI)):Option (Bi (Int×Int×(AI)) (Int×(AI))):= if K.2.1≤p1 then((f168 fuel K.2.2 K.1 K.2.1).bind fun O=> (As (K.2.1+20)).bind fun U=> some (.more (K.2.1,U,O))) else(some (.done (K.1,K.2.2)))
def R4(fuel:Nat)(p1:Int)(K:Int)(O:Int)(U:Unit):Option (Bi Unit Unit):= if O≤p1 then((As (0+K)).bind fun V=> none) else(some (.done ()))
def RE(fuel:Nat)(p1:Int)(K:Int):Option (Bi Int Unit):= if K<p1 then((As (2*K)).bind fun O=> Option.bind (iter (R4 fuel p1 K O) fuel ()) fun Y=> (As (0+K)).bind fun U=> Option.bind (if U<p1 then(none) else(some ())) fun Z=> (As (K*2)).bind fun V=> some (.more V)) else(some (.done ()))
def f138(fuel:Nat)(p0:AI)(p1:Int):Option ((AI)):= Option.bind (iter (RM fuel p1) fuel (0,20,p0)) fun K=> (f168 fuel K.2 K.1 p1).bind fun O=> Option.bind (iter (RE fuel p1) fuel 20) fun U=> some O
theorem Z2{K:Nat}{O:Nat}{U:Nat}{ag:Array Value}{p0:AI}{p1:Int}(hW:WL 27 Bp E K O U ag p0){fuel:Nat}{r:(AI)}(av:f138 fuel p0 p1=some r):AL J 138 [.slice (AZ K) U O,iV p1,(fV 125)] E [(K,.cells ag 27 (0,0))] (fun w E' B'=>∃(a0:Array Value),w= .tuple #[]∧B'= [(K,.cells a0 27 (0,0))]∧WL 27 Bp E' K O U a0 r):=by
 refine A4 func138 fun Q cz cs H bi bn=>?_;unfold f138 at av;obtain⟨a1,bo,bp⟩:=bs av;refine zg 11 rfl (Br (fun L s=>∃(al:LH) (f15:Array Value),Jn E H al [bX K f15 27] [(0,.slice (AZ K) U O),(1,iV p1),(2,(fV 125)),(6,iV 20),(7,iV a1.1)] L s (WL 27 Bp al K O U f15 a1.2)) ?_ ?_)
 ·rintro _ _ ⟨al,f15,rfl,rfl,bq,br,bu⟩;obtain⟨cA,bv,bw⟩:=bs bp;refine zg 6 rfl (B6 0 (SN bu bv) rfl rfl (AR func168 rfl) br rfl ?_);rintro _ cB _ bx ⟨f23,rfl,rfl,bz⟩ bA;obtain⟨cC,bB,bC⟩:=bs bw;refine JL.done (C7 [bX K f23 27] [] (fun cD a2 bD=>?_) (fun bE=>?_))
  ·obtain rfl:=oi bC;exact JL.fin (v:= .tuple #[]) rfl rfl (Cd.list func138 rfl (vs:= []) trivial) (bn ((bq.Ac bx).Ac a2) rfl ⟨f23,rfl,(by first | rfl | simp | (simp [Value.cells])),(bz.Ah a2)⟩ bD)
  ·refine JL.block (Cy bB (fun V=> [bX K f23 27]) (fun V=> [(0,.slice (AZ K) U O),(1,iV p1),(2,(fV 125)),(6,iV V)]) Ar bA ?_);rintro V cE a3 a4 bF ⟨cF,am⟩ bG;have a5:=am;unfold RE at a5;refine zg 7 rfl (AN a5 (fun bH bI=>?_) (fun bH bJ=>?_))
   ·obtain⟨bK,bL,bM⟩:=bs bI;refine zg 5 rfl (AB rfl (fun ρ h=>K7 (h _ _ rfl) (h _ _ rfl) bL) ?_);obtain⟨cG,bN,bO⟩:=bs bM;refine zg 4 rfl (C7 [bX K f23 27] [(0,.slice (AZ K) U O),(1,iV p1),(2,(fV 125)),(6,iV V),(7,iV 0)] (fun cH bP bQ=>?_) (fun bR=>?_))
    ·obtain⟨cI,bS,bT⟩:=bs bO;refine zg 5 rfl (Be bS rfl rfl rfl ?_);obtain⟨cJ,bU,bV⟩:=bs bT;refine zg 8 rfl (C7 [bX K f23 27] [(0,.slice (AZ K) U O),(1,iV p1),(2,(fV 125)),(6,iV V)] (fun cK bW bY=>?_) (fun bZ=>?_))
     ·obtain⟨b0,b1,b2⟩:=bs bV;refine zg 2 rfl (AB rfl (fun ρ h=>K7 (h _ _ rfl) (h _ _ rfl) b1) ?_);refine zg 3 rfl ?_;obtain rfl:=oi b2;exact bG b0 ((a3.Ac bP).Ac bW) bY rfl am
     ·refine AN bU (fun b3 b4=>?_) (fun b3 b5=>?_)
      ·refine zg 6 rfl ?_;cases b4
      ·refine JL.skip ?_;obtain rfl:=oi b5;exact bZ Ar bQ rfl
    ·refine JL.block (Cy bN (fun a6=> [bX K f23 27]) (fun a6=> [(0,.slice (AZ K) U O),(1,iV p1),(2,(fV 125)),(6,iV V),(7,iV 0),(8,iV bK)]) Ar a4 ?_);rintro a6 cM b6 b7 b8 ⟨cN,a7⟩ cO;have a8:=a7;unfold R4 at a8;refine zg 7 rfl (AN a8 (fun b9 ca=>?_) (fun b9 cb=>?_))
     ·obtain⟨cP,cc,cd⟩:=bs ca;refine zg 8 rfl (Be cc rfl rfl rfl ?_);refine zg 2 rfl ?_;cases cd
     ·refine JL.exit rfl ?_;obtain rfl:=oi cb;obtain rfl:=b8 _ a7;exact bR b6 b7 rfl
   ·refine JL.exit rfl ?_;obtain rfl:=oi bJ;obtain rfl:=bF _ am;exact bE a3 a4 rfl
 ·intro ce;refine JL.block (CN bo (fun L s Y=>∃(Z:LH) (f104:Array Value),Jn E H Z [bX K f104 27] [(0,.slice (AZ K) U O),(1,iV p1),(2,(fV 125)),(6,iV 20),(7,iV Y.1),(8,iV Y.2.1)] L s (WL 27 Bp Z K O U f104 Y.2.2)) ⟨E,ag,rfl,rfl,Ar,bi,hW⟩ ?_);rintro _ _ Y ⟨Z,f104,rfl,rfl,a9,bb,bd⟩ cf ⟨cQ,ap⟩ cg;have be:=ap;unfold RM at be;refine zg 7 rfl (AN be (fun ci ck=>?_) (fun ci cm=>?_))
  ·obtain⟨cn,co,cp⟩:=bs ck;refine zg 8 rfl (B6 0 (SN bd co) rfl rfl (AR func168 rfl) bb rfl ?_);rintro _ cq _ cr ⟨f119,rfl,rfl,ct⟩ cu;obtain⟨cv,cw,cy⟩:=bs cp;refine zg 9 rfl (Be cw rfl rfl rfl ?_);refine zg 3 rfl ?_;obtain rfl:=oi cy;exact Ay (cg _ _ (Y.2.1,cv,cn) ⟨cq,f119,rfl,rfl,(a9.Ac cr),cu,ct⟩ ap) rfl
  ·refine JL.exit rfl ?_;obtain rfl:=oi cm;obtain rfl:=cf _ ap;exact Ay (ce _ _ ⟨Z,f104,rfl,rfl,a9,bb,bd⟩) rfl
def f124(fuel:Nat)(p0:AI):Option ((AI)):= (f138 fuel p0 (p0.length:Int)).bind fun K=> some K
theorem ZP{K:Nat}{O:Nat}{U:Nat}{V:Array Value}{p0:AI}(hW:WL 27 Bp E K O U V p0){fuel:Nat}{r:(AI)}(Y:f124 fuel p0=some r):AL J 124 [.slice (AZ K) U O,(fV 125)] E [(K,.cells V 27 (0,0))] (fun w E' B'=>∃(Z:Array Value),w= .tuple #[]∧B'= [(K,.cells Z 27 (0,0))]∧WL 27 Bp E' K O U Z r):=by
 refine A4 func124 fun Q a2 cs H ag al=>?_;unfold f124 at Y;refine zg 3 rfl (AB (v:=iV (p0.length:Int)) rfl (fun ρ h=>R8 (hW).2 rfl underlying25 (h _ _ rfl)) ?_);obtain⟨a3,am,ap⟩:=bs Y;refine zg 1 rfl (B6 0 (Z2 hW am) rfl rfl (AR func138 rfl) ag rfl ?_);rintro _ a4 _ av ⟨f7,rfl,rfl,a0⟩ a1;refine JL.done ?_;obtain rfl:=oi ap;exact JL.fin (v:= .tuple #[]) rfl rfl (Cd.list func124 rfl (vs:= []) trivial) (al av rfl ⟨f7,rfl,(by first | rfl | simp | (simp [Value.cells])),a0⟩ a1)
def Ts(fuel:Nat)(p0:AI):Option AI:=match p0 with
 | []=>none
 | _=>f124 fuel p0
theorem Yf{J:Judge Tryz.prog}{E:LH}{a:An}{c:Nat}{g:Seg}{p0:AI}(U:OL 27 Bp E a c g p0){fuel:Nat}{r:AI}(K:Ts fuel p0=some r):
  AL J 124 [.slice a p0.length c,.func (.func 125) #[] #[]] E g (fun w E' B'=>w= .tuple #[]∧OL 27 Bp E' a c B' r∧r.length=p0.length):=by
 rcases U.cases with⟨rfl,rfl,rfl,rfl⟩ | ⟨bk,f,rfl,rfl,hW⟩
 ·cases K
 ·have V:f124 fuel p0=some r:=by
   cases p0 with
   | nil=>cases K
   | cons x l=>exact K
  refine(ZP hW V).Ah ?_;rintro w E' B' hle ⟨Z,Y,rfl,O⟩;exact⟨Y,O.1,O.2⟩
end Pal
namespace Pal
open Go Go.Conc Go.Proofs
open Go.Proofs.Tryz
def f94(fuel:Nat)(p0:AI)(p1:AI):Option ((AI)):= (De p0 p1).bind fun K=> (f123 fuel K).bind fun O=> (Ts fuel O).bind fun U=> some U
theorem ar{E:LH}{K:An}{c2:Nat}{O:An}{U:Nat}{p0:AI}{p1:AI}(Z:Al Bp E K c2 p0)(a3:Al Bp E O U p1){fuel:Nat}{r:(AI)}(am:f94 fuel p0 p1=some r):AL (DJ Tryz.prog) 94 [sV K p0 c2,sV O p1 U] E [] (fun w E' B'=>∃(ap:An) (av:Nat),w= sV ap r av∧B'= []∧Al Bp E' ap av r):=by
 refine A4 func94 fun Q bA cs H a4 a5=>?_;unfold f94 at am;refine zg 8 rfl (Bh underlying25 rfl rfl rfl ?_);refine zg 1 rfl (Bh underlying25 rfl rfl rfl ?_);refine AB (v:= .slice K p0.length p0.length) rfl (fun ρ h=>Ud (Al.spot Z) (And.left Z) underlying25 Cc (h _ _ rfl) (h _ _ rfl) (h _ _ rfl)) ?_;obtain⟨a0,a6,a7⟩:=bs am;refine zg 1 rfl (Un (pp:=Bp) a6 rfl rfl rfl rfl rfl rfl rfl underlying25 underlying25 Cc (CR type27) Er rfl (by decide) (by decide) Z a3 a4 fun bB a1 a2 a8 a9 bb=>?_);obtain⟨bC,bd,be⟩:=bs a7;refine zg 5 rfl (BL (Zj a9 bd) rfl rfl (AR func123 rfl) bb ?_);rintro _ bD _ bi ⟨V,Y,bE,rfl,rfl,bn⟩ bo;obtain⟨ag,bp,bq⟩:=bs be;refine zg 5 rfl (B6 2 (Yf bn bp) rfl rfl (AR func124 rfl) bo rfl ?_);rintro _ bF bG br ⟨rfl,bu,al⟩ bv;refine Gi (L':= [(17,.tuple #[]),(0,.slice K p0.length c2),(1,.slice O p1.length U),(4,.slice none 0 0),(6,.slice K p0.length c2),(7,.slice K p0.length c2),(8,iV (p0.length:Int)),(9,.slice K p0.length c2),(10,iV (p0.length:Int)),(11,.slice K p0.length p0.length),(12,.slice O p1.length U),(13,.slice a1 a0.length a2),(5,.slice V ag.length Y),(14,.slice a1 a0.length a2),(15,.slice V ag.length Y),(16,.slice V ag.length Y)]) ⟨rfl,rfl,rfl,rfl,rfl,rfl,rfl,rfl,rfl,rfl,rfl,rfl,by rw [al];rfl,rfl,by rw [al];rfl,by rw [al];rfl,trivial⟩ ?_;refine zg 6 rfl (B5 2 bu bv rfl fun bH bw bx bz=>?_);obtain rfl:=oi bq;exact AD func94 rfl rfl (a5 (((a8.Ac bi).Ac br).Ac bw) rfl ⟨V,Y,rfl,rfl,bx⟩ bz)
end Pal
namespace Pal
open Go Go.Conc Go.Proofs
open Go.Proofs.Tryz
def NF:List Nat:= [0,1,1,2,1,2,2,3,1,2,2,3,2,3,3,4,1,2,2,3,2,3,3,4,2,3,3,4,3,4,4,5,1,2,2,3,2,3,3,4,2,3,3,4,3,4,4,5,2,3,3,4,3,4,4,5,3,4,4,5,4,5,5,6,1,2,2,3,2,3,3,4,2,3,3,4,3,4,4,5,2,3,3,4,3,4,4,5,3,4,4,5,4,5,5,6,2,3,3,4,3,4,4,5,3,4,4,5,4,5,5,6,3,4,4,5,4,5,5,6,4,5,5,6,5,6,6,7,1,2,2,3,2,3,3,4,2,3,3,4,3,4,4,5,2,3,3,4,3,4,4,5,3,4,4,5,4,5,5,6,2,3,3,4,3,4,4,5,3,4,4,5,4,5,5,6,3,4,4,5,4,5,5,6,4,5,5,6,5,6,6,7,2,3,3,4,3,4,4,5,3,4,4,5,4,5,5,6,3,4,4,5,4,5,5,6,4,5,5,6,5,6,6,7,3,4,4,5,4,5,5,6,4,5,5,6,5,6,6,7,4,5,5,6,5,6,6,7,5,6,6,7,6,7,7,8]
def f86(fuel:Nat)(p0:Nat):Option Int:= (LK NF ((((p0>>>8):Nat):Int))).bind fun K=> (Kf p0 (255)).bind fun O=> (LK NF ((((O):Nat):Int))).bind fun U=> (As ((((K+U) % 256):Nat):Int)).bind fun V=> some V
theorem aX{E:LH}{p0:Nat}{fuel:Nat}{r:Int}(K:f86 fuel p0=some r):AL (DJ Tryz.prog) 86 [uV p0] E [] (fun w E' B'=>w=iV r∧B'= []):=by
 refine A4 func86 fun Q a4 cs H V Y=>?_;unfold f86 at K;refine zg 5 rfl (CZ 6 fun ht=>?_);refine Ch 0 ht rfl rfl (Bx (v:= .int .u16 ((p0>>>8:Nat):Int)) 1 ht rfl rfl (fun ρ h s' hs=>VS 8 (h _ _ rfl) (h _ _ rfl) (by decide)) ?_);obtain⟨O,Z,ag⟩:=bs K;refine Bx (v:= .int .u8 ((O:Nat):Int)) 2 ht rfl rfl (fun ρ h s' hs=>Oq (l:=NF) (by decide+kernel) underlying9 (h _ _ rfl) (h _ _ rfl) Z) (Ch 3 ht rfl rfl ?_);obtain⟨al,am,ap⟩:=bs ag;refine Bx (v:= uV al) 4 ht rfl rfl (fun ρ h s' hs=>Ow (h _ _ rfl) (h _ _ rfl) am) ?_;obtain⟨U,av,a0⟩:=bs ap;refine Bx (v:= .int .u8 ((U:Nat):Int)) 5 ht rfl rfl (fun ρ h s' hs=>Oq (l:=NF) (by decide+kernel) underlying9 (h _ _ rfl) (h _ _ rfl) av) (Cg [6,7,8] ?_);refine AB (v:= .int .u8 (((O+U) % 256:Nat):Int)) rfl (fun ρ h=>VO (h _ _ rfl) (h _ _ rfl)) ?_;obtain⟨a1,a2,a3⟩:=bs a0;refine AB (v:=iV a1) rfl (fun ρ h=>R6 underlying5 underlying3 (h _ _ rfl) a2) (zg 2 rfl ?_);obtain rfl:=oi a3;exact AD func86 rfl rfl (Y Ar rfl ⟨rfl,rfl⟩ V)
end Pal
namespace Pal
open Go Go.Conc Go.Proofs
open Go.Proofs.Tryz
def f85(fuel:Nat)(p0:Nat):Option Int:= (f86 fuel p0).bind fun K=> some K
theorem To{E:LH}{p0:Nat}{fuel:Nat}{r:Int}(K:f85 fuel p0=some r):AL (DJ Tryz.prog) 85 [uV p0] E [] (fun w E' B'=>w=iV r∧B'= []):=by
 refine A4 func85 fun Q al cs H O U=>?_;unfold f85 at K;obtain⟨am,V,Y⟩:=bs K;refine zg 7 rfl (BD (aX V) rfl rfl (AR func86 rfl) O fun ap Z ag=>?_);refine zg 2 rfl ?_;obtain rfl:=oi Y;exact AD func85 rfl rfl (U Z rfl ⟨rfl,rfl⟩ ag)
end Pal
namespace Pal
open Go Go.Conc Go.Proofs
open Go.Proofs.Tryz
end Pal
namespace Pal
open Go Go.Conc Go.Proofs
open Go.Proofs.Tryz
end Pal
namespace Pal
open Go Go.Conc Go.Proofs
open Go.Proofs.Tryz
end Pal
namespace Pal
open Go Go.Conc Go.Proofs
open Go.Proofs.Tryz
variable {J:Judge Tryz.prog}{E:LH}
def M4(fuel:Nat)(V:Int×(BX))(Y:(List (List Int))×(List (List Int))×(List Int)×Int×Nat×Int)(K:(List Int)×Int×Nat×(List Int)×Int):Option (Bi ((List Int)×Int×Nat×(List Int)×Int) ((List Int)×BX)):= Option.bind (if 0<K.2.2.2.2 then(some (decide (1<V.1))) else(some false)) fun ag=> if ag=true then((As (Y.2.2.2.2.2 - 1)).bind fun al=> (f41 fuel (K.1,K.2.1,K.2.2.1) (max (0) al)).bind fun Z=> (f97 fuel Z.2 6).bind fun O=> Option.bind (if O.1=true then((As (V.1 - 1)).bind fun am=> (f41 fuel O.2 am).bind fun ap=> some ap) else(some (Z.1,O.2.1,O.2.2.1,O.2.2.2))) fun U=> Option.bind (if U.1≠Y.2.2.2.2.2 then((f98 fuel K.2.2.2.1 U.1).bind fun av=> some av) else(some K.2.2.2.1)) fun a0=> (As (K.2.2.2.2 - 1)).bind fun a1=> some (.more (U.2.1,U.2.2.1,U.2.2.2,a0,a1))) else(some (.done (K.2.2.2.1,K.1,K.2.1,K.2.2.1)))
def Nz(fuel:Nat)(O:Int×(BX))(K:(List (List Int))×(List (List Int))×(List Int)×Int×Nat×Int):Option (Bi ((List (List Int))×(List (List Int))×(List Int)×Int×Nat×Int) ((List Int)×Int×Nat×A1)):= if K.2.2.2.2.2<O.1 then((As (O.1 - 1)).bind fun am=> (As (K.2.2.2.2.2+1)).bind fun ap=> (f97 fuel (K.2.2.1,K.2.2.2.1,K.2.2.2.2.1) 3).bind fun U=> Option.bind (if U.1=true then((As (O.1 - 1)).bind fun a1=> (f96 fuel U.2 K.2.2.2.2.2 a1).bind fun Y=> (f98 fuel ([min am ap]:List Int) Y.1).bind fun a2=> some (a2,Y.2.1,Y.2.2.1,Y.2.2.2)) else(some (([min am ap]:List Int),U.2.1,U.2.2.1,U.2.2.2))) fun av=> (f97 fuel av.2 8).bind fun V=> Option.bind (if V.1=true then((As (O.1 - 1)).bind fun a3=> (f41 fuel V.2 a3).bind fun Z=> some (([Z.1]:List Int),Z.2.1,Z.2.2.1,Z.2.2.2)) else(some (av.1,V.2.1,V.2.2.1,V.2.2.2))) fun a0=> (f99 fuel a0.2 ([0,1,1,2]:List Int)).bind fun ag=> Option.bind (iter (M4 fuel O K) fuel (ag.2.1,ag.2.2.1,ag.2.2.2,[],ag.1)) fun al=> (De K.1 ([a0.1]:List (List Int))).bind fun a4=> (De K.2.1 ([al.1]:List (List Int))).bind fun a5=> (As (K.2.2.2.2.2+1)).bind fun a6=> some (.more (a4,a5,al.2.1,al.2.2.1,al.2.2.2,a6))) else(some (.done (K.2.2.1,K.2.2.2.1,K.2.2.2.2.1,K.1,K.2.1)))
def f39(fuel:Nat)(p0:BX)(p1:Int):Option ((A1)×(BX)):= (f96 fuel p0 1 p1).bind fun K=> Option.bind (iter (Nz fuel K) fuel ([],[],K.2.1,K.2.2.1,K.2.2.2,0)) fun O=> some (O.2.2.2,(O.1,O.2.1,O.2.2.1))
theorem aL{bk:Nat}{cD:An}{c2:Nat}{p0:BX}{p1:Int}(dK:Al rI E cD c2 p0.1){fuel:Nat}{r:(A1)×(BX)}(cE:f39 fuel p0 p1=some r):AL J 39 [pV bk 0,iV p1] E [(bk,.cells #[sV cD p0.1 c2,iV p0.2.1,.int .u64 ((p0.2.2:Nat):Int)] 92 (0,0))] (fun w E' B'=>∃(cF:An) (cG:Nat) (cH:An) (cI:Nat) (cJ:An) (cK:Nat),w= .agg #[sV cF r.1.1 cG,sV cH r.1.2 cI]∧B'= [(bk,.cells #[sV cJ r.2.1 cK,iV r.2.2.1,.int .u64 ((r.2.2.2:Nat):Int)] 92 (0,0))]∧Al (rL rI) E' cF cG r.1.1∧Al (rL rI) E' cH cI r.1.2∧Al rI E' cJ cK r.2.1):=by
 refine A4 func39 fun Q h4 cs H dL dM=>?_;unfold f39 at cE;refine zg 2 rfl (Cz dL GW fun U dN=>?_);refine zg 3 rfl (Cz dN GW fun O dO=>?_);obtain⟨a4,dP,dQ⟩:=bs cE;refine zg 5 rfl (B6 0 (Pe dK dP) rfl rfl N8 dO rfl ?_);rintro _ b2 _ dR ⟨cM,cN,rfl,rfl,dS⟩ dT;refine Cs (S':= [[(bk,.cells #[sV cM a4.2.1 cN,iV a4.2.2.1,.int .u64 ((a4.2.2.2:Nat):Int)] 92 (0,0))],[(U,.cells #[nS,nS] 24 (0,0))],[(O,.cells #[nS,nS] 24 (0,0))]]) rfl dT fun dU=>?_;obtain⟨Y,dV,dW⟩:=bs dQ;refine zg 7 rfl (Br (fun L s=>∃(bG:LH) (bH:An) (bI:Nat) (a8:An) (a9:Nat) (b3:Seg) (bb:An) (bd:Nat) (b4:Seg),Jn b2 H bG [bX bk #[sV bH Y.1 bI,iV Y.2.1,.int .u64 ((Y.2.2.1:Nat):Int)] 92,bX U #[nS,nS] 24,bX O #[sV a8 Y.2.2.2.1 a9,sV bb Y.2.2.2.2 bd] 24,b3,b4] [(4,pV U 0),(5,pV O 0)] L s (Al rI bG bH bI Y.1∧OL 28 (rL rI) bG a8 a9 b3 Y.2.2.2.1∧OL 28 (rL rI) bG bb bd b4 Y.2.2.2.2)) ?_ ?_)
 ·rintro _ _ ⟨bG,bH,bI,a8,a9,b3,bb,bd,b4,rfl,rfl,dX,cO,dY,dZ,ea⟩;refine zg 2 rfl (AB rfl (fun ρ h=>FJ (vs:= [sV a8 Y.2.2.2.1 a9,sV bb Y.2.2.2.2 bd]) BY BC (h _ _ rfl) (ED (off:=0) 2 cO rfl rfl)) ?_);refine BM 1 cO BC fun eb=>?_;refine JL.done (B5 3 dZ eb rfl fun h5 b5 ec ed=>?_);refine B5 4 (ea.Ah b5) ed rfl fun h6 b6 ee ef=>Cs (S':= [[(bk,.cells #[sV bH Y.1 bI,iV Y.2.1,.int .u64 ((Y.2.2.1:Nat):Int)] 92 (0,0))],[(U,.cells #[sV a8 Y.2.2.2.1 a9,sV bb Y.2.2.2.2 bd] 24 (0,0))],[(O,.cells #[sV a8 Y.2.2.2.1 a9,sV bb Y.2.2.2.2 bd] 24 (0,0))],[],[]]) rfl ef fun eg=>JS.drop 2 eg rfl fun cP=>?_;obtain rfl:=oi dW;refine JL.ret (v:= .agg #[sV a8 Y.2.2.2.1 a9,sV bb Y.2.2.2.2 bd]) rfl rfl (Cd.list func39 rfl (vs:= [.agg #[sV a8 Y.2.2.2.1 a9,sV bb Y.2.2.2.2 bd]]) ⟨⟨_,rfl,Ld.many (vs:= [sV a8 Y.2.2.2.1 a9,sV bb Y.2.2.2.2 bd]) BY BC (ED (off:=0) 1 cP rfl rfl)⟩,trivial⟩) (Gx 1 cP rfl fun eh=>?_);exact dM (((dR.Ac dX).Ac b5).Ac b6) rfl ⟨a8,a9,bb,bd,bH,bI,rfl,rfl,(ec.Ah b6),ee,(dY.Ah (b5.Ac b6))⟩ eh
 ·intro ei;refine JL.block (CN dV (fun L s K=>∃(bA:LH) (Z:An) (ag:Nat) (ap:Seg) (al:An) (am:Nat) (av:Seg) (bP:An) (bQ:Nat),Jn b2 H bA [bX bk #[sV bP K.2.2.1 bQ,iV K.2.2.2.1,.int .u64 ((K.2.2.2.2.1:Nat):Int)] 92,bX U #[nS,nS] 24,bX O #[sV Z K.1 ag,sV al K.2.1 am] 24,ap,av] [(0,pV bk 0),(4,pV U 0),(5,pV O 0),(6,iV a4.1),(7,iV K.2.2.2.2.2)] L s (OL 28 (rL rI) bA Z ag ap K.1∧OL 28 (rL rI) bA al am av K.2.1∧Al rI bA bP bQ K.2.2.1)) ⟨b2,none,0,[],none,0,[],cM,cN,rfl,rfl,Ar,dU,OL.nil,OL.nil,dS⟩ ?_);rintro _ _ K ⟨bA,Z,ag,ap,al,am,av,bP,bQ,rfl,rfl,bR,cQ,bS,bT,cR⟩ ej ⟨h7,bJ⟩ b7;have cT:=bJ;unfold Nz at cT;refine zg 7 rfl (AN cT (fun ek el=>?_) (fun ek em=>?_))
  ·obtain⟨b8,en,eo⟩:=bs el;refine zg 6 rfl (Ci en rfl rfl rfl ?_);obtain⟨b9,ep,eq⟩:=bs eo;refine zg 1 rfl (Be ep rfl rfl rfl ?_);refine AB (v:=iV (min b8 b9)) rfl (fun ρ h=>Yl.min2 (h _ _ rfl) (h _ _ rfl)) (DC (pp:=rI) [iV (min b8 b9)] [min b8 b9] rfl rfl rfl underlying28 AU CM (by decide) rfl rfl rfl ⟨rfl,trivial⟩ cQ fun er et cV eu=>?_);obtain⟨ca,ew,ex⟩:=bs eq;refine zg 6 rfl (B6 0 (Lx cR ew) rfl rfl Kp eu rfl ?_);rintro _ ey _ a5 ⟨cW,cX,rfl,rfl,cY⟩ cZ;obtain⟨bB,ez,eA⟩:=bs ex;refine JL.done (Br (fun L s=>∃(bU:LH) (bV:An) (bW:Nat) (cb:An) (cc:Nat),Jn ey H bU [bX bk #[sV cb bB.2.1 cc,iV bB.2.2.1,.int .u64 ((bB.2.2.2:Nat):Int)] 92,bX U #[nS,nS] 24,bX O #[sV Z K.1 ag,sV al K.2.1 am] 24,ap,av] [(0,pV bk 0),(4,pV U 0),(5,pV O 0),(6,iV a4.1),(7,iV K.2.2.2.2.2),(8,sV bV bB.1 bW)] L s (Al rI bU bV bW bB.1∧Al rI bU cb cc bB.2.1)) ?_ ?_)
   ·rintro _ _ ⟨bU,bV,bW,cb,cc,rfl,rfl,bo,eB,eC,eD⟩;obtain⟨cd,eE,eF⟩:=bs eA;refine zg 4 rfl (B6 0 (Lx eD eE) rfl rfl Kp eB rfl ?_);rintro _ c0 _ be ⟨c1,c3,rfl,rfl,c4⟩ eG;refine Cs (S':= [[(bk,.cells #[sV c1 cd.2.1 c3,iV cd.2.2.1,.int .u64 ((cd.2.2.2:Nat):Int)] 92 (0,0))],[(U,.cells #[nS,nS] 24 (0,0))],[(O,.cells #[sV Z K.1 ag,sV al K.2.1 am] 24 (0,0))],ap,av]) rfl eG fun c5=>?_;obtain⟨a1,eH,eI⟩:=bs eF;refine JL.done (Br (fun L s=>∃(bY:LH) (bi:An) (bn:Nat) (ce:An) (cf:Nat),Jn c0 H bY [bX bk #[sV ce a1.2.1 cf,iV a1.2.2.1,.int .u64 ((a1.2.2.2:Nat):Int)] 92,bX U #[nS,nS] 24,bX O #[sV Z K.1 ag,sV al K.2.1 am] 24,ap,av] [(0,pV bk 0),(4,pV U 0),(5,pV O 0),(6,iV a4.1),(7,iV K.2.2.2.2.2),(8,sV bi a1.1 bn)] L s (Al rI bY bi bn a1.1∧Al rI bY ce cf a1.2.1)) ?_ ?_)
    ·rintro _ _ ⟨bY,bi,bn,ce,cf,rfl,rfl,bp,eJ,c6,eK⟩;refine zg 8 rfl (DC (pp:=rI) [iV 0,iV 1,iV 1,iV 2] [0,1,1,2] rfl rfl rfl underlying28 AU CM (by decide) rfl rfl rfl ⟨rfl,rfl,rfl,rfl,trivial⟩ eJ fun h8 h9 eL eM=>?_);refine B5 5 eL eM rfl fun ia a3 eN eO=>?_;obtain⟨cg,eP,eQ⟩:=bs eI;refine B6 0 (NQ (eK.Ah a3) eN eP) rfl rfl Mc eO rfl ?_;rintro _ ci _ a6 ⟨c7,c8,rfl,rfl,eR⟩ eS;refine Cs (S':= [[(bk,.cells #[sV c7 cg.2.1 c8,iV cg.2.2.1,.int .u64 ((cg.2.2.2:Nat):Int)] 92 (0,0))],[(U,.cells #[nS,nS] 24 (0,0))],[(O,.cells #[sV Z K.1 ag,sV al K.2.1 am] 24 (0,0))],ap,av,[]]) rfl eS fun eT=>?_;obtain⟨V,eU,eV⟩:=bs eQ;refine zg 2 rfl (Br (fun L s=>∃(bu:LH) (bC:An) (bD:Nat) (bq:An) (br:Nat),Jn ci H bu [bX bk #[sV bq V.2.1 br,iV V.2.2.1,.int .u64 ((V.2.2.2:Nat):Int)] 92,bX U #[nS,nS] 24,bX O #[sV Z K.1 ag,sV al K.2.1 am] 24,ap,av] [(0,pV bk 0),(4,pV U 0),(5,pV O 0),(6,iV a4.1),(7,iV K.2.2.2.2.2),(8,sV bi a1.1 bn),(9,sV bC V.1 bD)] L s (Al rI bu bC bD V.1∧Al rI bu bq br V.2.1)) ?_ ?_)
     ·rintro _ _ ⟨bu,bC,bD,bq,br,rfl,rfl,a7,bK,ck,cm⟩;refine Di 11 [O] ⟨⟨2,_,rfl⟩,trivial⟩ bK fun ht=>Ca 0 ht underlying24 BS rfl rfl rfl rfl (Fc 1 ht 0 2 bK Ct ?_);refine Ch 2 ht rfl rfl (Ca 5 ht underlying24 BS rfl rfl rfl rfl ?_);refine Fc 6 ht 1 2 bK Ct ?_;refine Ch 7 ht rfl rfl ?_;obtain⟨cn,co,eW⟩:=bs eV;obtain⟨cp,cq,cr⟩:=bs eW;refine IB (i:=3) (j:=8) rfl (by decide+kernel) ?_ ?_
      ·refine Take.lit (pp:=(rL rI)) (jp:=2) [sV bi a1.1 bn] ([a1.1]:List (List Int)) bK rfl rfl rfl rfl underlying22 BV Fp (by decide) rfl rfl rfl ⟨⟨_,_,rfl,(c6.Ah ((a3.Ac a6).Ac a7))⟩,trivial⟩ fun ic c9 da db=>IB (i:=4) (j:=8) rfl (by decide+kernel) ?_ ?_
       ·refine Take.app (pp:=(rL rI)) (jp:=2) 3 5 db rfl co rfl rfl rfl rfl rfl rfl rfl underlying22 underlying22 BV (CR type28) Fp rfl (by decide) (by decide) (bS.Ah ((((((a5.Ac bo).Ac be).Ac bp).Ac a3).Ac a6).Ac a7)) da rfl rfl rfl rfl fun eX eY ie dc eZ e0=>Ca 10 ht underlying24 BS rfl rfl rfl rfl (JG.one (i:=8) rfl (by decide+kernel) ?_);refine Take.lit (pp:=(rL rI)) (jp:=2) [sV bC V.1 bD] ([V.1]:List (List Int)) e0 rfl rfl rfl rfl underlying22 BV Fp (by decide) rfl rfl rfl ⟨⟨_,_,rfl,ck⟩,trivial⟩ fun ig e1 e2 e3=>JG.one (i:=9) rfl (by decide+kernel) (Take.app (pp:=(rL rI)) (jp:=2) 4 6 e3 rfl cq rfl rfl rfl rfl rfl rfl rfl underlying22 underlying22 BV (CR type28) Fp rfl (by decide) (by decide) (bT.Ah ((((((a5.Ac bo).Ac be).Ac bp).Ac a3).Ac a6).Ac a7)) e2 rfl rfl rfl rfl fun e4 e5 ih dd e6 e7=>?_);refine Cg [11,12,13] (EP 3 rfl e7 fun e8=>?_);refine JS.drop 3 e8 rfl fun e9=>EP 4 rfl e9 fun fa=>JS.drop 4 fa rfl fun fb=>Cs (S':= [[(bk,.cells #[sV bq V.2.1 br,iV V.2.2.1,.int .u64 ((V.2.2.2:Nat):Int)] 92 (0,0))],[(U,.cells #[nS,nS] 24 (0,0))],[(O,.cells #[sV Z K.1 ag,sV al K.2.1 am] 24 (0,0))],[],[],c9,e1,dc,dd]) rfl fb fun fc=>BM 2 fc BS fun fd=>?_;refine BJ underlying24 BS rfl rfl rfl (BM 2 fd BS fun fe=>?_);obtain⟨ff,fg,fh⟩:=bs cr;refine zg 4 rfl (Be fg rfl rfl rfl ?_);refine zg 2 rfl (JS.drop 5 fe rfl fun fj=>?_);refine JS.drop 6 fj rfl fun fk=>?_;obtain rfl:=oi fh;exact Ay (b7 _ _ (cn,cp,V.2.1,V.2.2.1,V.2.2.2,ff) ⟨bu,eX,eY,dc,e4,e5,dd,bq,br,rfl,rfl,(((((((bR.Ac a5).Ac bo).Ac be).Ac bp).Ac a3).Ac a6).Ac a7),fk,eZ,e6,cm⟩ bJ) rfl
       ·refine Take.lit (pp:=(rL rI)) (jp:=2) [sV bC V.1 bD] ([V.1]:List (List Int)) db rfl rfl rfl rfl underlying22 BV Fp (by decide) rfl rfl rfl ⟨⟨_,_,rfl,ck⟩,trivial⟩ fun ii fm fo fp=>JG.one (i:=4) rfl (by decide+kernel) (Take.app (pp:=(rL rI)) (jp:=2) 3 5 fp rfl co rfl rfl rfl rfl rfl rfl rfl underlying22 underlying22 BV (CR type28) Fp rfl (by decide) (by decide) (bS.Ah ((((((a5.Ac bo).Ac be).Ac bp).Ac a3).Ac a6).Ac a7)) da rfl rfl rfl rfl fun fq fs ij de fu fv=>?_);refine Ca 10 ht underlying24 BS rfl rfl rfl rfl (JG.one (i:=9) rfl (by decide+kernel) ?_);refine Take.app (pp:=(rL rI)) (jp:=2) 4 6 fv rfl cq rfl rfl rfl rfl rfl rfl rfl underlying22 underlying22 BV (CR type28) Fp rfl (by decide) (by decide) (bT.Ah ((((((a5.Ac bo).Ac be).Ac bp).Ac a3).Ac a6).Ac a7)) fo rfl rfl rfl rfl fun fw fx ik df fy fz=>Cg [11,12,13] (EP 3 rfl fz fun fA=>?_);refine JS.drop 3 fA rfl fun fB=>EP 4 rfl fB fun fC=>JS.drop 4 fC rfl fun fD=>Cs (S':= [[(bk,.cells #[sV bq V.2.1 br,iV V.2.2.1,.int .u64 ((V.2.2.2:Nat):Int)] 92 (0,0))],[(U,.cells #[nS,nS] 24 (0,0))],[(O,.cells #[sV Z K.1 ag,sV al K.2.1 am] 24 (0,0))],[],[],c9,fm,de,df]) rfl fD fun fE=>BM 2 fE BS fun fF=>?_;refine BJ underlying24 BS rfl rfl rfl (BM 2 fF BS fun fG=>?_);obtain⟨fH,fI,fJ⟩:=bs cr;refine zg 4 rfl (Be fI rfl rfl rfl ?_);refine zg 2 rfl (JS.drop 5 fG rfl fun fK=>?_);refine JS.drop 6 fK rfl fun fL=>?_;obtain rfl:=oi fJ;exact Ay (b7 _ _ (cn,cp,V.2.1,V.2.2.1,V.2.2.2,fH) ⟨bu,fq,fs,de,fw,fx,df,bq,br,rfl,rfl,(((((((bR.Ac a5).Ac bo).Ac be).Ac bp).Ac a3).Ac a6).Ac a7),fL,fu,fy,cm⟩ bJ) rfl
      ·refine Take.lit (pp:=(rL rI)) (jp:=2) [sV bC V.1 bD] ([V.1]:List (List Int)) bK rfl rfl rfl rfl underlying22 BV Fp (by decide) rfl rfl rfl ⟨⟨_,_,rfl,ck⟩,trivial⟩ fun il fM fN fO=>JG.one (i:=3) rfl (by decide+kernel) (Take.lit (pp:=(rL rI)) (jp:=2) [sV bi a1.1 bn] ([a1.1]:List (List Int)) fO rfl rfl rfl rfl underlying22 BV Fp (by decide) rfl rfl rfl ⟨⟨_,_,rfl,(c6.Ah ((a3.Ac a6).Ac a7))⟩,trivial⟩ fun io fP fQ fR=>?_);refine JG.one (i:=4) rfl (by decide+kernel) (Take.app (pp:=(rL rI)) (jp:=2) 3 6 fR rfl co rfl rfl rfl rfl rfl rfl rfl underlying22 underlying22 BV (CR type28) Fp rfl (by decide) (by decide) (bS.Ah ((((((a5.Ac bo).Ac be).Ac bp).Ac a3).Ac a6).Ac a7)) fQ rfl rfl rfl rfl fun fS fT iq dg fU fW=>?_);refine Ca 10 ht underlying24 BS rfl rfl rfl rfl (JG.one (i:=9) rfl (by decide+kernel) ?_);refine Take.app (pp:=(rL rI)) (jp:=2) 4 5 fW rfl cq rfl rfl rfl rfl rfl rfl rfl underlying22 underlying22 BV (CR type28) Fp rfl (by decide) (by decide) (bT.Ah ((((((a5.Ac bo).Ac be).Ac bp).Ac a3).Ac a6).Ac a7)) fN rfl rfl rfl rfl fun fX fY ir dh fZ ga=>Cg [11,12,13] (EP 3 rfl ga fun gb=>?_);refine JS.drop 3 gb rfl fun gc=>EP 4 rfl gc fun gd=>JS.drop 4 gd rfl fun ge=>Cs (S':= [[(bk,.cells #[sV bq V.2.1 br,iV V.2.2.1,.int .u64 ((V.2.2.2:Nat):Int)] 92 (0,0))],[(U,.cells #[nS,nS] 24 (0,0))],[(O,.cells #[sV Z K.1 ag,sV al K.2.1 am] 24 (0,0))],[],[],fM,fP,dg,dh]) rfl ge fun gf=>BM 2 gf BS fun gg=>?_;refine BJ underlying24 BS rfl rfl rfl (BM 2 gg BS fun gh=>?_);obtain⟨gi,gj,gk⟩:=bs cr;refine zg 4 rfl (Be gj rfl rfl rfl ?_);refine zg 2 rfl (JS.drop 5 gh rfl fun gl=>?_);refine JS.drop 6 gl rfl fun gm=>?_;obtain rfl:=oi gk;exact Ay (b7 _ _ (cn,cp,V.2.1,V.2.2.1,V.2.2.2,gi) ⟨bu,fS,fT,dg,fX,fY,dh,bq,br,rfl,rfl,(((((((bR.Ac a5).Ac bo).Ac be).Ac bp).Ac a3).Ac a6).Ac a7),gm,fU,fZ,cm⟩ bJ) rfl
     ·intro gn;refine JL.block (CN eU (fun L s a0=>∃(bv:LH) (bL:An) (bM:Nat) (bw:An) (bx:Nat),Jn ci H bv [bX bk #[sV bL a0.1 bM,iV a0.2.1,.int .u64 ((a0.2.2.1:Nat):Int)] 92,bX U #[nS,nS] 24,bX O #[sV Z K.1 ag,sV al K.2.1 am] 24,ap,av] [(0,pV bk 0),(4,pV U 0),(5,pV O 0),(6,iV a4.1),(7,iV K.2.2.2.2.2),(8,sV bi a1.1 bn),(9,sV bw a0.2.2.2.1 bx),(10,iV a0.2.2.2.2)] L s (Al rI bv bL bM a0.1∧Al rI bv bw bx a0.2.2.2.1)) ⟨ci,c7,c8,none,0,rfl,rfl,Ar,eT,eR,Al.nil⟩ ?_);rintro _ _ a0 ⟨bv,bL,bM,bw,bx,rfl,rfl,di,dj,dk,ct⟩ gp ⟨it,cu⟩ gq;have dl:=cu;unfold M4 at dl;obtain⟨gr,gt,gu⟩:=bs dl;refine zg 6 rfl (Et [] (fun L s=>∃(cv:LH),Jm bv H cv [bX bk #[sV bL a0.1 bM,iV a0.2.1,.int .u64 ((a0.2.2.1:Nat):Int)] 92,bX U #[nS,nS] 24,bX O #[sV Z K.1 ag,sV al K.2.1 am] 24,ap,av] [(0,pV bk 0),(4,pV U 0),(5,pV O 0),(6,iV a4.1),(7,iV K.2.2.2.2.2),(8,sV bi a1.1 bn),(9,sV bw a0.2.2.2.1 bx),(10,iV a0.2.2.2.2),(50,.bool gr)] L s) ?_ ?_)
      ·rintro _ _ ⟨cv,rfl,rfl,bz,dm⟩;refine JL.done (BF gu (fun gv gw=>?_) (fun gv gx=>?_))
       ·obtain⟨gy,gz,gA⟩:=bs gw;refine zg 7 rfl (Ci gz rfl rfl rfl ?_);refine AB (v:=iV (max (0) gy)) rfl (fun ρ h=>Yl.max2 (h _ _ rfl) (h _ _ rfl)) ?_;obtain⟨iu,gB,gC⟩:=bs gA;refine B6 0 (HX (dk.Ah bz) gB) rfl rfl HK dm rfl ?_;rintro _ iv _ cw ⟨iw,iy,rfl,rfl,gD⟩ gE;obtain⟨iz,gF,gG⟩:=bs gC;refine zg 6 rfl (B6 0 (Lx gD gF) rfl rfl Kp gE rfl ?_);rintro _ dn _ cy ⟨gH,gI,rfl,rfl,dp⟩ dq;obtain⟨a2,gJ,gK⟩:=bs gG;refine JL.done (Br (fun L s=>∃(bN:LH) (bE:An) (bF:Nat),Jn dn H bN [bX bk #[sV bE a2.2.1 bF,iV a2.2.2.1,.int .u64 ((a2.2.2.2:Nat):Int)] 92,bX U #[nS,nS] 24,bX O #[sV Z K.1 ag,sV al K.2.1 am] 24,ap,av] [(0,pV bk 0),(4,pV U 0),(5,pV O 0),(6,iV a4.1),(7,iV K.2.2.2.2.2),(8,sV bi a1.1 bn),(9,sV bw a0.2.2.2.1 bx),(10,iV a0.2.2.2.2),(11,iV a2.1)] L s (Al rI bN bE bF a2.2.1)) ?_ ?_)
        ·rintro _ _ ⟨bN,bE,bF,rfl,rfl,cz,dr,gL⟩;obtain⟨cA,gM,gN⟩:=bs gK;refine zg 6 rfl (Br (fun L s=>∃(bZ:LH) (b0:An) (b1:Nat),Jn bN H bZ [bX bk #[sV bE a2.2.1 bF,iV a2.2.2.1,.int .u64 ((a2.2.2.2:Nat):Int)] 92,bX U #[nS,nS] 24,bX O #[sV Z K.1 ag,sV al K.2.1 am] 24,ap,av] [(0,pV bk 0),(4,pV U 0),(5,pV O 0),(6,iV a4.1),(7,iV K.2.2.2.2.2),(8,sV bi a1.1 bn),(9,sV b0 cA b1),(10,iV a0.2.2.2.2)] L s (Al rI bZ b0 b1 cA)) ?_ ?_)
         ·rintro _ _ ⟨bZ,b0,b1,rfl,rfl,dt,gO,gP⟩;obtain⟨gQ,gR,gS⟩:=bs gN;refine zg 3 rfl (Ci gR rfl rfl rfl ?_);refine zg 2 rfl ?_;obtain rfl:=oi gS;exact Ay (gq _ _ (a2.2.1,a2.2.2.1,a2.2.2.2,cA,gQ) ⟨bZ,bE,bF,b0,b1,rfl,rfl,(((((di.Ac bz).Ac cw).Ac cy).Ac cz).Ac dt),gO,(gL.Ah dt),gP⟩ cu) rfl
         ·intro du;refine AN gM (fun gT gU=>?_) (fun gT gV=>?_)
          ·obtain⟨iA,gW,gX⟩:=bs gU;refine zg 3 rfl (BL (Tr (ct.Ah (((bz.Ac cw).Ac cy).Ac cz)) gW) rfl rfl (AR func98 rfl) dr ?_);rintro _ gY _ gZ ⟨g0,g1,rfl,rfl,g3⟩ g4;refine Cs (S':= [[(bk,.cells #[sV bE a2.2.1 bF,iV a2.2.2.1,.int .u64 ((a2.2.2.2:Nat):Int)] 92 (0,0))],[(U,.cells #[nS,nS] 24 (0,0))],[(O,.cells #[sV Z K.1 ag,sV al K.2.1 am] 24 (0,0))],ap,av,[]]) rfl g4 fun g5=>zg 2 rfl ?_;obtain rfl:=oi gX;exact Ay (du _ _ ⟨gY,g0,g1,rfl,rfl,gZ,g5,g3⟩) rfl
          ·refine JL.skip ?_;obtain rfl:=oi gV;exact Ay (du _ _ ⟨bN,bw,bx,rfl,rfl,Ar,dr,(ct.Ah (((bz.Ac cw).Ac cy).Ac cz))⟩) rfl
        ·intro dv;refine BF gJ (fun g6 g7=>?_) (fun g6 g8=>?_)
         ·obtain⟨iB,g9,ha⟩:=bs g7;refine zg 3 rfl (Ci g9 rfl rfl rfl ?_);obtain⟨cB,hb,hc⟩:=bs ha;refine B6 0 (HX dp hb) rfl rfl HK dq rfl ?_;rintro _ hd _ he ⟨dw,dx,rfl,rfl,hf⟩ hj;refine Cs (S':= [[(bk,.cells #[sV dw cB.2.1 dx,iV cB.2.2.1,.int .u64 ((cB.2.2.2:Nat):Int)] 92 (0,0))],[(U,.cells #[nS,nS] 24 (0,0))],[(O,.cells #[sV Z K.1 ag,sV al K.2.1 am] 24 (0,0))],ap,av]) rfl hj fun hk=>zg 2 rfl ?_;obtain rfl:=oi hc;exact Ay (dv _ _ ⟨hd,dw,dx,rfl,rfl,he,hk,hf⟩) rfl
         ·refine JL.skip ?_;obtain rfl:=oi g8;exact Ay (dv _ _ ⟨dn,gH,gI,rfl,rfl,Ar,dq,dp⟩) rfl
       ·refine JL.exit rfl ?_;obtain rfl:=oi gx;obtain rfl:=gp _ cu;exact Ay (gn _ _ ⟨cv,bw,bx,bL,bM,rfl,rfl,(di.Ac bz),dm,(ct.Ah bz),(dk.Ah bz)⟩) rfl
      ·intro dy;refine D7 47 gt (fun hl hm=>?_) (fun hl hn=>?_)
       ·refine zg 3 rfl ?_;obtain rfl:=oi hm;exact Ay (dy _ _ ⟨bv,rfl,rfl,Ar,dj⟩) rfl
       ·refine zg 3 rfl ?_;obtain rfl:=oi hn;exact Ay (dy _ _ ⟨bv,rfl,rfl,Ar,dj⟩) rfl
    ·intro dz;refine BF eH (fun ho hp=>?_) (fun ho hq=>?_)
     ·obtain⟨iC,hr,hu⟩:=bs hp;refine zg 3 rfl (Ci hr rfl rfl rfl ?_);obtain⟨bO,hv,hw⟩:=bs hu;refine B6 0 (HX c4 hv) rfl rfl HK c5 rfl ?_;rintro _ iD _ hx ⟨dA,dB,rfl,rfl,hy⟩ hz;refine DC (pp:=rI) [iV bO.1] [bO.1] rfl rfl rfl underlying28 AU CM (by decide) rfl rfl rfl ⟨rfl,trivial⟩ hz fun hA iE hB hC=>zg 2 rfl (B5 5 hB hC rfl fun hD dC hE hF=>?_);refine Cs (S':= [[(bk,.cells #[sV dA bO.2.1 dB,iV bO.2.2.1,.int .u64 ((bO.2.2.2:Nat):Int)] 92 (0,0))],[(U,.cells #[nS,nS] 24 (0,0))],[(O,.cells #[sV Z K.1 ag,sV al K.2.1 am] 24 (0,0))],ap,av,[]]) rfl hF fun hG=>?_;obtain rfl:=oi hw;exact Ay (dz _ _ ⟨hD,(AZ hA),1,dA,dB,rfl,rfl,(hx.Ac dC),hG,hE,(hy.Ah dC)⟩) rfl
     ·refine JL.skip ?_;obtain rfl:=oi hq;exact Ay (dz _ _ ⟨c0,bV,bW,c1,c3,rfl,rfl,Ar,c5,(eC.Ah be),c4⟩) rfl
   ·intro dD;refine BF ez (fun hH hI=>?_) (fun hH hJ=>?_)
    ·obtain⟨iF,hK,hL⟩:=bs hI;refine zg 5 rfl (Ci hK rfl rfl rfl ?_);obtain⟨cC,hM,hN⟩:=bs hL;refine B6 0 (Pe cY hM) rfl rfl N8 cZ rfl ?_;rintro _ iG _ dE ⟨dF,dG,rfl,rfl,hO⟩ hP;refine Cs (S':= [[(bk,.cells #[sV dF cC.2.1 dG,iV cC.2.2.1,.int .u64 ((cC.2.2.2:Nat):Int)] 92 (0,0))],[(U,.cells #[nS,nS] 24 (0,0))],[(O,.cells #[sV Z K.1 ag,sV al K.2.1 am] 24 (0,0))],ap,av,et]) rfl hP fun hQ=>B5 5 (cV.Ah (a5.Ac dE)) hQ rfl fun iH dH hR hS=>?_;obtain⟨iI,hT,hU⟩:=bs hN;refine BL (Tr hR hT) rfl rfl (AR func98 rfl) hS ?_;rintro _ hV _ dI ⟨hW,hX,rfl,rfl,hY⟩ hZ;refine zg 2 rfl ?_;obtain rfl:=oi hU;exact Ay (dD _ _ ⟨hV,hW,hX,dF,dG,rfl,rfl,((dE.Ac dH).Ac dI),hZ,hY,(hO.Ah (dH.Ac dI))⟩) rfl
    ·refine JL.skip (B5 5 (cV.Ah a5) cZ rfl fun h0 dJ h1 h2=>?_);refine Cs (S':= [[(bk,.cells #[sV cW ca.2.1 cX,iV ca.2.2.1,.int .u64 ((ca.2.2.2:Nat):Int)] 92 (0,0))],[(U,.cells #[nS,nS] 24 (0,0))],[(O,.cells #[sV Z K.1 ag,sV al K.2.1 am] 24 (0,0))],ap,av,[]]) rfl h2 fun h3=>?_;obtain rfl:=oi hJ;exact Ay (dD _ _ ⟨h0,(AZ er),1,cW,cX,rfl,rfl,dJ,h3,h1,(cY.Ah dJ)⟩) rfl
  ·refine JL.exit rfl ?_;obtain rfl:=oi em;obtain rfl:=ej _ bJ;exact Ay (ei _ _ ⟨bA,bP,bQ,Z,ag,ap,al,am,av,rfl,rfl,bR,cQ,cR,bS,bT⟩) rfl
def Nr(fuel:Nat)(p1:A1)(U:Int×(BX))(K:(List Int)×Int×Nat×Int×Int):Option (Bi ((List Int)×Int×Nat×Int×Int) (Int×BX)):= if K.2.2.2.2<U.1 then((ix p1.1 K.2.2.2.1).bind fun V=> (f99 fuel (K.1,K.2.1,K.2.2.1) V).bind fun O=> (As (K.2.2.2.2+1)).bind fun Y=> some (.more (O.2.1,O.2.2.1,O.2.2.2,O.1,Y))) else(some (.done (K.2.2.2.1,K.1,K.2.1,K.2.2.1)))
def M9(fuel:Nat)(p1:A1)(p2:Int)(K:(List Int)×Int×Nat×Int×(List Int)×Int):Option (Bi ((List Int)×Int×Nat×Int×(List Int)×Int) ((List Int)×BX)):= if K.2.2.2.2.2<p2 then((room K.2.2.2.2.1 K.2.2.2.1).bind fun U=> (ix p1.1 K.2.2.2.1).bind fun V=> (f99 fuel (K.1,K.2.1,K.2.2.1) V).bind fun O=> (As (K.2.2.2.2.2+1)).bind fun Y=> some (.more (O.2.1,O.2.2.1,O.2.2.2,O.1,U,Y))) else(some (.done (K.2.2.2.2.1,K.1,K.2.1,K.2.2.1)))
def f45(fuel:Nat)(p0:BX)(p1:A1)(p2:Int):Option (Int×(List Int)×(BX)):= (f41 fuel p0 6).bind fun K=> Option.bind (iter (Nr fuel p1 K) fuel (K.2.1,K.2.2.1,K.2.2.2,0,0)) fun O=> Option.bind (iter (M9 fuel p1 p2) fuel (O.2.1,O.2.2.1,O.2.2.2,O.1,[],0)) fun U=> some (K.1,U.1,U.2)
theorem ak{bk:Nat}{bz:An}{c2:Nat}{bA:An}{bB:Nat}{bC:An}{bD:Nat}{p0:BX}{p1:A1}{p2:Int}(bU:Al rI E bz c2 p0.1)(bE:Al (rL rI) E bA bB p1.1)(dd:Al (rL rI) E bC bD p1.2){fuel:Nat}{r:Int×(List Int)×(BX)}(bF:f45 fuel p0 p1 p2=some r):AL J 45 [pV bk 0,.agg #[sV bA p1.1 bB,sV bC p1.2 bD],iV p2] E [(bk,.cells #[sV bz p0.1 c2,iV p0.2.1,.int .u64 ((p0.2.2:Nat):Int)] 92 (0,0))] (fun w E' B'=>∃(bG:An) (bH:Nat) (bI:An) (bJ:Nat),w= .tuple #[iV r.1,sV bG r.2.1 bH]∧B'= [(bk,.cells #[sV bI r.2.2.1 bJ,iV r.2.2.2.1,.int .u64 ((r.2.2.2.2:Nat):Int)] 92 (0,0))]∧Al rI E' bG bH r.2.1∧Al rI E' bI bJ r.2.2.1):=by
 refine A4 func45 fun Q de cs H bV bW=>?_;unfold f45 at bF;refine zg 2 rfl (B4 bV fun bq df ap bK bY=>?_);obtain⟨av,bZ,b0⟩:=bs bF;refine zg 6 rfl (B6 0 (HX (bU.Ah ap) bZ) rfl rfl HK bY rfl ?_);rintro _ br _ Y ⟨b1,b2,rfl,rfl,b3⟩ b4;obtain⟨Z,b5,b6⟩:=bs b0;refine zg 8 rfl (Br (fun L s=>∃(U:LH) (a0:An) (a1:Nat),Jn br H U [bX bk #[sV a0 Z.2.1 a1,iV Z.2.2.1,.int .u64 ((Z.2.2.2:Nat):Int)] 92] [(0,pV bk 0),(2,iV p2),(4,pV bq 0),(8,iV av.1),(9,iV Z.1)] L s (Al rI U a0 a1 Z.2.1)) ?_ ?_)
 ·rintro _ _ ⟨U,a0,a1,rfl,rfl,bu,b7,b8⟩;obtain⟨V,b9,ca⟩:=bs b6;refine zg 9 rfl (Br (fun L s=>∃(a2:LH) (a3:An) (a4:Nat) (bv:Seg) (a5:An) (a6:Nat),Jn U H a2 [bX bk #[sV a5 V.2.1 a6,iV V.2.2.1,.int .u64 ((V.2.2.2:Nat):Int)] 92,bv] [(8,iV av.1),(11,sV a3 V.1 a4)] L s (OL 3 rI a2 a3 a4 bv V.1∧Al rI a2 a5 a6 V.2.1)) ?_ ?_)
  ·rintro _ _ ⟨a2,a3,a4,bv,a5,a6,rfl,rfl,cb,cc,cd,ce⟩;refine zg 7 rfl (B5 1 cd cc rfl fun dg bL cf cg=>?_);obtain rfl:=oi ca;exact AD func45 rfl rfl (bW ((((ap.Ac Y).Ac bu).Ac cb).Ac bL) rfl ⟨a3,a4,a5,a6,rfl,rfl,cf,(ce.Ah bL)⟩ cg)
  ·intro ci;refine JL.block (CN b9 (fun L s K=>∃(ag:LH) (a7:An) (a8:Nat) (al:An) (am:Nat) (a9:Seg),Jn U H ag [bX bk #[sV a7 K.1 a8,iV K.2.1,.int .u64 ((K.2.2.1:Nat):Int)] 92,a9] [(0,pV bk 0),(2,iV p2),(4,pV bq 0),(8,iV av.1),(9,iV K.2.2.2.1),(11,sV al K.2.2.2.2.1 am),(12,iV K.2.2.2.2.2)] L s (Al rI ag a7 a8 K.1∧OL 3 rI ag al am a9 K.2.2.2.2.1)) ⟨U,a0,a1,none,0,[],rfl,rfl,Ar,b7,b8,OL.nil⟩ ?_);rintro _ _ K ⟨ag,a7,a8,al,am,a9,rfl,rfl,bb,bM,bN,bO⟩ ck ⟨dh,bw⟩ cm;have bP:=bw;unfold M9 at bP;refine zg 7 rfl (AN bP (fun cn co=>?_) (fun cn cp=>?_))
   ·obtain⟨cq,cr,ct⟩:=bs co;refine zg 7 rfl (JS.app (pp:=rI) (v:=iV K.2.2.2.1) (a:=al) (c:=am) 1 cr rfl rfl rfl rfl (fun _=>rfl) rfl (fun _=>rfl) rfl rfl rfl underlying28 underlying28 underlying28 AU (CR type3) CM rfl (by decide) (by decide) (by decide) (by decide) bO rfl bM rfl fun di cu cv cw cy cz=>?_);refine zg 4 rfl (JL.fl 0 (bK.Ah ((Y.Ac bu).Ac bb)) underlying24 BS Ct ?_);obtain⟨dj,cA,cB⟩:=bs ct;refine zg 1 rfl (B9 (bE.Ah (((ap.Ac Y).Ac bu).Ac bb)) cA underlying22 BV ?_);rintro dk dl _ ⟨dm,dn,rfl,cC⟩ cD;refine BW 0 cD CQ rfl rfl rfl ?_;obtain⟨bd,cE,cF⟩:=bs cB;refine B6 0 (NQ bN cC cE) rfl rfl Mc cz rfl ?_;rintro _ cG _ bQ ⟨cH,cI,rfl,rfl,cJ⟩ cK;obtain⟨cM,cN,cO⟩:=bs cF;refine zg 5 rfl (Be cN rfl rfl rfl ?_);refine zg 2 rfl ?_;obtain rfl:=oi cO;exact Ay (cm _ _ (bd.2.1,bd.2.2.1,bd.2.2.2,bd.1,cq,cM) ⟨cG,cH,cI,cu,cv,cw,rfl,rfl,(bb.Ac bQ),cK,cJ,(cy.Ah bQ)⟩ bw) rfl
   ·refine JL.exit rfl ?_;obtain rfl:=oi cp;obtain rfl:=ck _ bw;exact Ay (ci _ _ ⟨ag,al,am,a9,a7,a8,rfl,rfl,bb,bM,bO,bN⟩) rfl
 ·intro cP;refine JL.block (CN b5 (fun L s O=>∃(be:LH) (bi:An) (bn:Nat),Jn br H be [bX bk #[sV bi O.1 bn,iV O.2.1,.int .u64 ((O.2.2.1:Nat):Int)] 92] [(0,pV bk 0),(2,iV p2),(4,pV bq 0),(8,iV av.1),(9,iV O.2.2.2.1),(10,iV O.2.2.2.2)] L s (Al rI be bi bn O.1)) ⟨br,b1,b2,rfl,rfl,Ar,b4,b3⟩ ?_);rintro _ _ O ⟨be,bi,bn,rfl,rfl,bo,bR,bS⟩ cQ ⟨dp,bx⟩ cR;have bT:=bx;unfold Nr at bT;refine zg 7 rfl (AN bT (fun cT cV=>?_) (fun cT cW=>?_))
  ·refine zg 5 rfl (JL.fl 0 (bK.Ah (Y.Ac bo)) underlying24 BS Ct ?_);obtain⟨dq,cX,cY⟩:=bs cV;refine zg 1 rfl (B9 (bE.Ah ((ap.Ac Y).Ac bo)) cX underlying22 BV ?_);rintro dr dt _ ⟨du,dv,rfl,cZ⟩ c0;refine BW 0 c0 CQ rfl rfl rfl ?_;obtain⟨bp,c1,c3⟩:=bs cY;refine B6 0 (NQ bS cZ c1) rfl rfl Mc bR rfl ?_;rintro _ c4 _ c5 ⟨c6,c7,rfl,rfl,c8⟩ c9;obtain⟨da,db,dc⟩:=bs c3;refine zg 5 rfl (Be db rfl rfl rfl ?_);refine zg 2 rfl ?_;obtain rfl:=oi dc;exact Ay (cR _ _ (bp.2.1,bp.2.2.1,bp.2.2.2,bp.1,da) ⟨c4,c6,c7,rfl,rfl,(bo.Ac c5),c9,c8⟩ bx) rfl
  ·refine JL.exit rfl ?_;obtain rfl:=oi cW;obtain rfl:=cQ _ bx;exact Ay (cP _ _ ⟨be,bi,bn,rfl,rfl,bo,bR,bS⟩) rfl
def Pa(fuel:Nat)(p1:A1)(p2:List Int)(p4:Bool)(K:(List Int)×Int×Nat×(AI)×Int×Int):Option (Bi ((List Int)×Int×Nat×(AI)×Int×Int) ((AI)×BX)):= if 0<K.2.2.2.2.2 then((As ((p2.length:Int) - 1)).bind fun ag=> (As (K.2.2.2.2.1+2)).bind fun al=> (f96 fuel (K.1,K.2.1,K.2.2.1) K.2.2.2.2.1 (min ag al)).bind fun O=> (ix p2 O.1).bind fun am=> (ix p2 O.1).bind fun ap=> (ix p1.2 ap).bind fun Z=> Option.bind (if p4=true then(some (decide (0<(Z.length:Int)))) else(some false)) fun av=> Option.bind (if av=true then((f97 fuel O.2 2).bind fun a0=> some a0) else(some (false,O.2.1,O.2.2.1,O.2.2.2))) fun U=> Option.bind (if U.1=true then((f99 fuel U.2 Z).bind fun V=> some (V.2.1,V.2.2.1,V.2.2.2,V.1)) else(some (U.2.1,U.2.2.1,U.2.2.2,am))) fun Y=> (room K.2.2.2.1 (O.1,Y.2.2.2)).bind fun a1=> (As (K.2.2.2.2.2 - 1)).bind fun a2=> some (.more (Y.1,Y.2.1,Y.2.2.1,a1,O.1,a2))) else(some (.done (K.2.2.2.1,K.1,K.2.1,K.2.2.1)))
def f46(fuel:Nat)(p0:BX)(p1:A1)(p2:List Int)(p3:Int)(p4:Bool):Option ((AI)×(BX)):= (f41 fuel p0 p3).bind fun K=> Option.bind (iter (Pa fuel p1 p2 p4) fuel (K.2.1,K.2.2.1,K.2.2.2,[],0,K.1)) fun O=> some O
theorem aH{bk:Nat}{bB:An}{c2:Nat}{bC:An}{bD:Nat}{bE:An}{bF:Nat}{ag:An}{al:Nat}{p0:BX}{p1:A1}{p2:List Int}{p3:Int}{p4:Bool}(b7:Al rI E bB c2 p0.1)(dK:Al (rL rI) E bC bD p1.1)(b8:Al (rL rI) E bE bF p1.2)(bG:Al rI E ag al p2){fuel:Nat}{r:(AI)×(BX)}(bH:f46 fuel p0 p1 p2 p3 p4=some r):AL J 46 [pV bk 0,.agg #[sV bC p1.1 bD,sV bE p1.2 bF],sV ag p2 al,iV p3,.bool p4] E [(bk,.cells #[sV bB p0.1 c2,iV p0.2.1,.int .u64 ((p0.2.2:Nat):Int)] 92 (0,0))] (fun w E' B'=>∃(bI:An) (bJ:Nat) (g0:Seg) (bK:An) (bL:Nat),w= sV bI r.1 bJ∧B'= [(bk,.cells #[sV bK r.2.1 bL,iV r.2.2.1,.int .u64 ((r.2.2.2:Nat):Int)] 92 (0,0))]++g0∧OL 27 Bp E' bI bJ g0 r.1∧Al rI E' bK bL r.2.1):=by
 refine A4 func46 fun Q dL cs H b9 ca=>?_;unfold f46 at bH;refine zg 2 rfl (B4 b9 fun a7 dM a1 cb cc=>?_);obtain⟨dN,cd,ce⟩:=bs bH;refine zg 15 rfl (B6 0 (HX (b7.Ah a1) cd) rfl rfl HK cc rfl ?_);rintro _ bw _ a2 ⟨cf,cg,rfl,rfl,ci⟩ ck;obtain⟨am,cm,cn⟩:=bs ce;refine zg 2 rfl (Br (fun L s=>∃(a8:LH) (a9:An) (bb:Nat) (bd:Seg) (be:An) (bi:Nat),Jn bw H a8 [bX bk #[sV be am.2.1 bi,iV am.2.2.1,.int .u64 ((am.2.2.2:Nat):Int)] 92,bd] [(11,sV a9 am.1 bb)] L s (OL 27 Bp a8 a9 bb bd am.1∧Al rI a8 be bi am.2.1)) ?_ ?_)
 ·rintro _ _ ⟨a8,a9,bb,bd,be,bi,rfl,rfl,co,cp,cq,cr⟩;refine zg 5 rfl ?_;obtain rfl:=oi cn;exact AD func46 rfl rfl (ca ((a1.Ac a2).Ac co) rfl ⟨a9,bb,bd,be,bi,rfl,(by first | rfl | simp | (simp [Value.cells])),cq,cr⟩ cp)
 ·intro ct;refine JL.block (CN cm (fun L s K=>∃(a3:LH) (bn:An) (bo:Nat) (V:An) (Y:Nat) (Z:Seg),Jn bw H a3 [bX bk #[sV bn K.1 bo,iV K.2.1,.int .u64 ((K.2.2.1:Nat):Int)] 92,Z] [(0,pV bk 0),(2,sV ag p2 al),(4,.bool p4),(6,pV a7 0),(11,sV V K.2.2.2.1 Y),(12,iV K.2.2.2.2.1),(13,iV K.2.2.2.2.2)] L s (Al rI a3 bn bo K.1∧OL 27 Bp a3 V Y Z K.2.2.2.1)) ⟨bw,cf,cg,none,0,[],rfl,rfl,Ar,ck,ci,OL.nil⟩ ?_);rintro _ _ K ⟨a3,bn,bo,V,Y,Z,rfl,rfl,ap,bM,bN,bO⟩ cu ⟨dO,bx⟩ cv;have bP:=bx;unfold Pa at bP;refine zg 6 rfl (AN bP (fun cw cy=>?_) (fun cw cz=>?_))
  ·refine zg 8 rfl (Bh underlying28 rfl rfl rfl ?_);obtain⟨cA,cB,cC⟩:=bs cy;refine Ci cB rfl rfl rfl ?_;obtain⟨cD,cE,cF⟩:=bs cC;refine zg 1 rfl (Be cE rfl rfl rfl ?_);refine AB (v:=iV (min cA cD)) rfl (fun ρ h=>Yl.min2 (h _ _ rfl) (h _ _ rfl)) ?_;obtain⟨O,cG,cH⟩:=bs cF;refine B6 0 (Pe bN cG) rfl rfl N8 bM rfl ?_;rintro _ dP _ av ⟨bQ,bR,rfl,rfl,bS⟩ cI;obtain⟨bz,cJ,cK⟩:=bs cH;refine zg 7 rfl (B9 (bG.Ah (((a1.Ac a2).Ac ap).Ac av)) cJ underlying28 AU ?_);rintro dQ dR _ rfl cM;refine BW 0 cM Bv rfl rfl rfl (AB (v:= .agg #[iV O.1,iV bz]) rfl (fun ρ h=>CY [(0,1),(1,1)] h Er underlying27 ⟨rfl,Bo type3,rfl,Bo type3,trivial⟩ rfl rfl) ?_);refine Cz cI Er fun a0 cN=>?_;refine BM 2 cN Cc fun bT=>?_;refine zg 3 rfl (CZ 6 fun ht=>?_);refine Ca 0 ht underlying24 BS rfl rfl rfl rfl (Co 1 ht 1 (cb.Ah ((a2.Ac ap).Ac av)) Ct rfl rfl rfl rfl ?_);refine A2 ht rfl [2,3] rfl ?_;obtain⟨dS,cO,cP⟩:=bs cK;refine Cv 4 (bG.Ah (((a1.Ac a2).Ac ap).Ac av)) cO ht underlying28 AU ?_;rintro dT dU _ rfl cQ;refine Co 5 ht 0 cQ Bv rfl rfl rfl rfl (Cg [6,7,8] ?_);obtain⟨bU,cR,cT⟩:=bs cP;refine B9 (b8.Ah (((a1.Ac a2).Ac ap).Ac av)) cR underlying22 BV ?_;rintro dV dW _ ⟨bV,bW,rfl,cV⟩ cW;refine BW 0 cW CQ rfl rfl rfl ?_;obtain⟨cX,cY,cZ⟩:=bs cT;refine zg 6 rfl (Dq 6 4 [bX bk #[sV bQ O.2.1 bR,iV O.2.2.1,.int .u64 ((O.2.2.2:Nat):Int)] 92,Z,bX a0 #[iV O.1,iV bz] 27] [(0,pV bk 0),(2,sV ag p2 al),(4,.bool p4),(6,pV a7 0),(11,sV V K.2.2.2.1 Y),(12,iV O.1),(13,iV K.2.2.2.2.2),(14,pV a0 0),(15,sV bV bU bW),(51,.bool cX)] (fun bY a4 bZ=>?_) (fun b0=>?_))
   ·obtain⟨a5,c0,c1⟩:=bs cZ;refine zg 1 rfl (Et [] (fun L s=>∃(a6:LH) (bp:An) (bq:Nat),Jn bY H a6 [bX bk #[sV bp a5.2.1 bq,iV a5.2.2.1,.int .u64 ((a5.2.2.2:Nat):Int)] 92,Z,bX a0 #[iV O.1,iV bz] 27] [(0,pV bk 0),(2,sV ag p2 al),(4,.bool p4),(6,pV a7 0),(11,sV V K.2.2.2.1 Y),(12,iV O.1),(13,iV K.2.2.2.2.2),(14,pV a0 0),(15,sV bV bU bW),(55,.bool a5.1)] L s (Al rI a6 bp bq a5.2.1)) ?_ ?_)
    ·rintro _ _ ⟨a6,bp,bq,rfl,rfl,bA,b1,b2⟩;obtain⟨U,c3,c4⟩:=bs c1;refine JL.done (Br (fun L s=>∃(br:LH) (bu:An) (bv:Nat),Jn a6 H br [bX bk #[sV bu U.1 bv,iV U.2.1,.int .u64 ((U.2.2.1:Nat):Int)] 92,Z,bX a0 #[iV O.1,iV U.2.2.2] 27] [(0,pV bk 0),(2,sV ag p2 al),(4,.bool p4),(6,pV a7 0),(11,sV V K.2.2.2.1 Y),(12,iV O.1),(13,iV K.2.2.2.2.2),(14,pV a0 0)] L s (Al rI br bu bv U.1)) ?_ ?_)
     ·rintro _ _ ⟨br,bu,bv,rfl,rfl,b3,b4,c5⟩;refine zg 2 rfl (AB rfl (fun ρ h=>FJ (vs:= [iV O.1,iV U.2.2.2]) Gt Cc (h _ _ rfl) (ED (off:=0) 2 b4 rfl rfl)) ?_);obtain⟨c6,c7,c8⟩:=bs c4;refine JS.app (pp:=Bp) (v:= .agg #[iV O.1,iV U.2.2.2]) (a:=V) (c:=Y) 1 c7 rfl rfl rfl rfl (fun _=>rfl) rfl (fun _=>rfl) rfl rfl rfl underlying25 underlying25 underlying25 Cc (CR type27) Er rfl (by decide) (by decide) (by decide) (by decide) (bO.Ah (((av.Ac a4).Ac bA).Ac b3)) ⟨_,_,rfl,rfl,rfl⟩ b4 rfl fun dX c9 da db dc dd=>?_;obtain⟨de,df,dg⟩:=bs c8;refine zg 5 rfl (Ci df rfl rfl rfl ?_);refine zg 2 rfl (JS.drop 2 dd rfl fun dh=>?_);obtain rfl:=oi dg;exact Ay (cv _ _ (U.1,U.2.1,U.2.2.1,c6,O.1,de) ⟨br,bu,bv,c9,da,db,rfl,rfl,((((ap.Ac av).Ac a4).Ac bA).Ac b3),dh,c5,dc⟩ bx) rfl
     ·intro b5;refine BF c3 (fun di dj=>?_) (fun di dk=>?_)
      ·obtain⟨dY,dl,dm⟩:=bs dj;refine zg 3 rfl (B6 0 (NQ b2 (cV.Ah (a4.Ac bA)) dl) rfl rfl Mc b1 rfl ?_);rintro _ dn _ dp ⟨dq,dr,rfl,rfl,dt⟩ du;refine BJ underlying27 AU rfl rfl rfl (BM 2 du AU fun dv=>?_);refine JL.done ?_;obtain rfl:=oi dm;exact Ay (b5 _ _ ⟨dn,dq,dr,rfl,rfl,dp,dv,dt⟩) rfl
      ·refine JL.skip ?_;obtain rfl:=oi dk;exact Ay (b5 _ _ ⟨a6,bp,bq,rfl,rfl,Ar,b1,b2⟩) rfl
    ·intro b6;refine DO 52 c0 (fun dw dx=>?_) (fun dw dy=>?_)
     ·obtain⟨dZ,dz,dA⟩:=bs dx;refine zg 1 rfl (B6 0 (Lx (bS.Ah a4) dz) rfl rfl Kp bZ rfl ?_);rintro _ dB _ dC ⟨dD,dE,rfl,rfl,dF⟩ dG;refine zg 1 rfl ?_;obtain rfl:=oi dA;exact Ay (b6 _ _ ⟨dB,dD,dE,rfl,rfl,dC,dG,dF⟩) rfl
     ·refine zg 3 rfl ?_;obtain rfl:=oi dy;exact Ay (b6 _ _ ⟨bY,bQ,bR,rfl,rfl,Ar,bZ,(bS.Ah a4)⟩) rfl
   ·refine DO 47 cY (fun dH dI=>?_) (fun dH dJ=>?_)
    ·refine zg 1 rfl (Bh underlying28 rfl rfl rfl ?_);refine zg 2 rfl ?_;obtain rfl:=oi dI;exact b0 Ar bT rfl
    ·refine zg 4 rfl ?_;obtain rfl:=oi dJ;exact b0 Ar bT rfl
  ·refine JL.exit rfl ?_;obtain rfl:=oi cz;obtain rfl:=cu _ bx;exact Ay (ct _ _ ⟨a3,V,Y,Z,bn,bo,rfl,rfl,ap,bM,bO,bN⟩) rfl
def Nt(fuel:Nat)(p1:A1)(K:(List Int)×Int×Nat×(AI)×Int):Option (Bi ((List Int)×Int×Nat×(AI)×Int) ((AI)×BX)):= if K.2.2.2.2<(K.2.2.2.1.length:Int) then((f97 fuel (K.1,K.2.1,K.2.2.1) 6).bind fun O=> Option.bind (if O.1=true then((As ((p1.1.length:Int) - 1)).bind fun Y=> (f41 fuel O.2 Y).bind fun U=> (ix K.2.2.2.1 K.2.2.2.2).bind fun Z=> some ((K.2.2.2.1.set (Int.toNat K.2.2.2.2) (Z.1,U.1)),U.2.1,U.2.2.1,U.2.2.2)) else(some (K.2.2.2.1,O.2.1,O.2.2.1,O.2.2.2))) fun V=> (As (K.2.2.2.2+1)).bind fun ag=> some (.more (V.2.1,V.2.2.1,V.2.2.2,V.1,ag))) else(some (.done (K.2.2.2.1,K.1,K.2.1,K.2.2.1)))
def f40(fuel:Nat)(p0:BX)(p1:A1)(p2:Int):Option ((AI)×(BX)):= (f45 fuel p0 p1 5).bind fun O=> (f46 fuel O.2.2 p1 O.2.1 p2 true).bind fun K=> Option.bind (iter (Nt fuel p1) fuel (K.2.1,K.2.2.1,K.2.2.2,K.1,0)) fun U=> some U
theorem au{bk:Nat}{bC:An}{c2:Nat}{bp:An}{bq:Nat}{bD:An}{bE:Nat}{p0:BX}{p1:A1}{p2:Int}(bZ:Al rI E bC c2 p0.1)(bF:Al (rL rI) E bp bq p1.1)(bG:Al (rL rI) E bD bE p1.2){fuel:Nat}{r:(AI)×(BX)}(bH:f40 fuel p0 p1 p2=some r):AL J 40 [pV bk 0,.agg #[sV bp p1.1 bq,sV bD p1.2 bE],iV p2] E [(bk,.cells #[sV bC p0.1 c2,iV p0.2.1,.int .u64 ((p0.2.2:Nat):Int)] 92 (0,0))] (fun w E' B'=>∃(bI:An) (bJ:Nat) (bK:An) (bL:Nat),w= sV bI r.1 bJ∧B'= [(bk,.cells #[sV bK r.2.1 bL,iV r.2.2.1,.int .u64 ((r.2.2.2:Nat):Int)] 92 (0,0))]∧Al Bp E' bI bJ r.1∧Al rI E' bK bL r.2.1):=by
 refine A4 func40 fun Q dd cs H b0 b1=>?_;unfold f40 at bH;refine zg 2 rfl (B4 b0 fun a1 de ag br b2=>?_);refine zg 5 rfl (BQ br BY BC rfl rfl ?_);obtain⟨df,b3,b4⟩:=bs bH;refine B6 0 (ak (bZ.Ah ag) (bF.Ah ag) (bG.Ah ag) b3) rfl rfl (AR func45 rfl) b2 rfl ?_;rintro _ dg _ am ⟨dh,di,dj,dk,rfl,rfl,b5,b6⟩ b7;refine zg 9 rfl (BQ (br.Ah am) BY BC rfl rfl ?_);obtain⟨dl,b8,b9⟩:=bs b4;refine zg 2 rfl (B6 0 (aH b6 (bF.Ah (ag.Ac am)) (bG.Ah (ag.Ac am)) b5 b8) rfl rfl (AR func46 rfl) b7 rfl ?_);rintro _ bu _ bM ⟨ca,cb,cc,cd,ce,rfl,rfl,cf,cg⟩ ci;refine EP 0 rfl ci fun ck=>?_;obtain⟨al,cm,cn⟩:=bs b9;refine zg 7 rfl (Br (fun L s=>∃(a2:LH) (a3:An) (a4:Nat) (bv:Seg) (a5:An) (a6:Nat),Jn bu H a2 [bX bk #[sV a5 al.2.1 a6,iV al.2.2.1,.int .u64 ((al.2.2.2:Nat):Int)] 92,bv] [(9,sV a3 al.1 a4)] L s (OL 27 Bp a2 a3 a4 bv al.1∧Al rI a2 a5 a6 al.2.1)) ?_ ?_)
 ·rintro _ _ ⟨a2,a3,a4,bv,a5,a6,rfl,rfl,co,cp,cq,cr⟩;refine zg 5 rfl (B5 1 cq cp rfl fun dm bN ct cu=>?_);obtain rfl:=oi cn;exact AD func40 rfl rfl (b1 ((((ag.Ac am).Ac bM).Ac co).Ac bN) rfl ⟨a3,a4,a5,a6,rfl,rfl,ct,(cr.Ah bN)⟩ cu)
 ·intro cv;refine JL.block (CN cm (fun L s K=>∃(ap:LH) (a7:An) (a8:Nat) (Y:An) (Z:Nat) (av:Seg),Jn bu H ap [bX bk #[sV a7 K.1 a8,iV K.2.1,.int .u64 ((K.2.2.1:Nat):Int)] 92,av] [(0,pV bk 0),(4,pV a1 0),(9,sV Y K.2.2.2.1 Z),(10,iV K.2.2.2.2)] L s (Al rI ap a7 a8 K.1∧OL 27 Bp ap Y Z av K.2.2.2.1)) ⟨bu,cd,ce,ca,cb,cc,rfl,rfl,Ar,ck,cg,cf⟩ ?_);rintro _ _ K ⟨ap,a7,a8,Y,Z,av,rfl,rfl,bw,bO,bP,bx⟩ cw ⟨dn,bz⟩ cy;have bQ:=bz;unfold Nt at bQ;refine zg 5 rfl (Bh underlying25 rfl rfl rfl ?_);refine zg 2 rfl (AN bQ (fun cz cA=>?_) (fun cz cB=>?_))
  ·obtain⟨cC,cD,cE⟩:=bs cA;refine zg 6 rfl (B6 0 (Lx bP cD) rfl rfl Kp bO rfl ?_);rintro _ bR _ a9 ⟨cF,cG,rfl,rfl,bS⟩ bT;obtain⟨O,cH,cI⟩:=bs cE;refine JL.done (Br (fun L s=>∃(a0:LH) (bb:An) (bd:Nat) (be:Seg) (bi:An) (bn:Nat),Jn bR H a0 [bX bk #[sV bi O.2.1 bn,iV O.2.2.1,.int .u64 ((O.2.2.2:Nat):Int)] 92,be] [(0,pV bk 0),(4,pV a1 0),(9,sV bb O.1 bd),(10,iV K.2.2.2.2)] L s (OL 27 Bp a0 bb bd be O.1∧Al rI a0 bi bn O.2.1)) ?_ ?_)
   ·rintro _ _ ⟨a0,bb,bd,be,bi,bn,rfl,rfl,cJ,cK,cM,cN⟩;obtain⟨cO,cP,cQ⟩:=bs cI;refine zg 3 rfl (Be cP rfl rfl rfl ?_);refine zg 2 rfl ?_;obtain rfl:=oi cQ;exact Ay (cy _ _ (O.2.1,O.2.2.1,O.2.2.2,O.1,cO) ⟨a0,bi,bn,bb,bd,be,rfl,rfl,((bw.Ac a9).Ac cJ),cK,cN,cM⟩ bz) rfl
   ·intro bU;refine BF cH (fun cR cT=>?_) (fun cR cV=>?_)
    ·refine zg 4 rfl (JL.fl 0 (br.Ah (((am.Ac bM).Ac bw).Ac a9)) underlying24 BS Ct ?_);refine Bh underlying22 rfl rfl rfl ?_;obtain⟨cW,cX,cY⟩:=bs cT;refine Ci cX rfl rfl rfl ?_;obtain⟨U,cZ,c0⟩:=bs cY;refine B6 0 (HX bS cZ) rfl rfl HK bT rfl ?_;rintro _ c1 _ bV ⟨c3,c4,rfl,rfl,c5⟩ c6;obtain⟨V,c7,c8⟩:=bs c0;refine I4 1 (bx.Ah (a9.Ac bV)) c7 rfl rfl rfl rfl rfl rfl underlying25 Cc ?_;rintro bA bo f138 _ c9 ⟨_,_,rfl,rfl,rfl⟩ da bW db dp dq;refine BJ underlying27 AU rfl rfl rfl (JS.store (v:=iV U.1) (off:=bo+1) 1 rfl rfl rfl c6 rfl rfl AU (by simp [Value.cells,CG]) c9 (by have:=bW;simp only [Rp.n,rK,rN,rB,rP,rL] at this;show _+1≤_;omega) fun bY=>?_);rw [Ui (m:=1) (ws:= [iV V.1,iV V.2]) (vs:= [iV V.1,iV U.1]) (by have:=bW;simp only [Rp.n,rK,rN,rB,rP,rL] at this;show _+2≤_;omega) da rfl (Nat.le_of_ble_eq_true rfl)] at bY ⊢;have dc:=db ((V.1,U.1)) [iV V.1,iV U.1] ⟨_,_,rfl,rfl,rfl⟩;have bB:(K.2.2.2.1.set (Int.toNat K.2.2.2.2) (V.1,U.1)).length=K.2.2.2.1.length:=List.length_set;refine Gi (L':= [(0,pV bk 0),(4,pV a1 0),(9,.slice Y ((K.2.2.2.1.set (Int.toNat K.2.2.2.2) (V.1,U.1))).length Z),(10,iV K.2.2.2.2),(22,iV K.2.2.2.2),(23,.slice Y ((K.2.2.2.1.set (Int.toNat K.2.2.2.2) (V.1,U.1))).length Z),(24,iV (K.2.2.2.1.length:Int)),(25,.bool (decide (K.2.2.2.2<(K.2.2.2.1.length:Int)))),(28,pV bk 0),(29,.bool cC.1),(30,.slice Y ((K.2.2.2.1.set (Int.toNat K.2.2.2.2) (V.1,U.1))).length Z),(31,iV K.2.2.2.2),(32,pV bk 0),(33,pV a1 0),(34,.slice bp p1.1.length bq),(35,iV (p1.1.length:Int)),(36,iV cW),(37,iV U.1),(38,pV bA bo),(39,pV bA (bo+1))]) ⟨rfl,rfl,by rw [bB];rfl,rfl,rfl,by rw [bB];rfl,rfl,rfl,rfl,rfl,by rw [bB];rfl,rfl,rfl,rfl,rfl,rfl,rfl,rfl,rfl,rfl,trivial⟩ ?_;refine JL.done ?_;obtain rfl:=oi c8;exact Ay (bU _ _ ⟨c1,Y,Z,[(bA,.cells (AX f138 bo [iV V.1,iV U.1]) 27 (0,0))],c3,c4,rfl,rfl,bV,bY,dc,c5⟩) rfl
    ·refine JL.skip ?_;obtain rfl:=oi cV;exact Ay (bU _ _ ⟨bR,Y,Z,av,cF,cG,rfl,rfl,Ar,bT,(bx.Ah a9),bS⟩) rfl
  ·refine JL.exit rfl ?_;obtain rfl:=oi cB;obtain rfl:=cw _ bz;exact Ay (cv _ _ ⟨ap,Y,Z,av,a7,a8,rfl,rfl,bw,bO,bx,bP⟩) rfl
def f24(fuel:Nat)(p0:A1)(p1:BX):Option ((List A1)×(BX)):= (f39 fuel p1 7).bind fun K=> some (([p0,K.1,K.1]:List A1),K.2)
theorem aw{Y:An}{c2:Nat}{Z:An}{ag:Nat}{bk:Nat}{ap:An}{av:Nat}{p0:A1}{p1:BX}(bi:Al (rL rI) E Y c2 p0.1)(bn:Al (rL rI) E Z ag p0.2)(bo:Al rI E ap av p1.1){fuel:Nat}{r:(List A1)×(BX)}(a0:f24 fuel p0 p1=some r):AL J 24 [.agg #[sV Y p0.1 c2,sV Z p0.2 ag],pV bk 0] E [(bk,.cells #[sV ap p1.1 av,iV p1.2.1,.int .u64 ((p1.2.2:Nat):Int)] 92 (0,0))] (fun w E' B'=>∃(a1:An) (a2:Nat) (a3:An) (a4:Nat),w= sV a1 r.1 a2∧B'= [(bk,.cells #[sV a3 r.2.1 a4,iV r.2.2.1,.int .u64 ((r.2.2.2:Nat):Int)] 92 (0,0))]∧Al (rP (rL (rL rI)) (rL (rL rI))) E' a1 a2 r.1∧Al rI E' a3 a4 r.2.1):=by
 refine A4 func24 fun Q bL cs H bp bq=>?_;unfold f24 at a0;refine zg 2 rfl (B4 bp fun bM bN U br bu=>?_);obtain⟨K,bv,bw⟩:=bs a0;refine zg 5 rfl (B6 0 (aL (bo.Ah U) bv) rfl rfl (AR func39 rfl) bu rfl ?_);rintro _ bO _ V ⟨a5,a6,a7,a8,al,am,rfl,rfl,a9,bb,bx⟩ bz;refine Cz bz GW fun bA bB=>?_;refine Cs (S':= [[(bk,.cells #[sV al K.2.1 am,iV K.2.2.1,.int .u64 ((K.2.2.2:Nat):Int)] 92 (0,0))],[],[(bA,.cells #[nS,nS] 24 (0,0))]]) rfl bB fun bC=>BM 2 bC BC fun bD=>?_;refine CV 2 bD rfl fun bP O bd bE=>zg 3 rfl (BQ (br.Ah (V.Ac O)) BY BC rfl rfl ?_);refine BQ bd BY BC rfl rfl (BQ bd BY BC rfl rfl ?_);refine DC (pp:=(rP (rL (rL rI)) (rL (rL rI)))) [.agg #[sV Y p0.1 c2,sV Z p0.2 ag],.agg #[sV a5 K.1.1 a6,sV a7 K.1.2 a8],.agg #[sV a5 K.1.1 a6,sV a7 K.1.2 a8]] [p0,K.1,K.1] rfl rfl rfl underlying33 BC GW (by decide) rfl rfl rfl ⟨⟨_,_,rfl,⟨_,_,rfl,(bi.Ah ((U.Ac V).Ac O))⟩,⟨_,_,rfl,(bn.Ah ((U.Ac V).Ac O))⟩⟩,⟨_,_,rfl,⟨_,_,rfl,(a9.Ah O)⟩,⟨_,_,rfl,(bb.Ah O)⟩⟩,⟨_,_,rfl,⟨_,_,rfl,(a9.Ah O)⟩,⟨_,_,rfl,(bb.Ah O)⟩⟩,trivial⟩ bE fun bF bQ bG bH=>zg 2 rfl (B5 3 bG bH rfl fun bR be bI bJ=>?_);refine Cs (S':= [[(bk,.cells #[sV al K.2.1 am,iV K.2.2.1,.int .u64 ((K.2.2.2:Nat):Int)] 92 (0,0))],[],[],[]]) rfl bJ fun bK=>?_;obtain rfl:=oi bw;exact AD func24 rfl rfl (bq (((U.Ac V).Ac O).Ac be) rfl ⟨(AZ bF),3,al,am,rfl,rfl,bI,(bx.Ah (O.Ac be))⟩ bK)
end Pal
namespace Pal
theorem Cl{S A:Type}{body:S→Option (Bi S A)}{Q:A→Prop}{K:S}{F:Nat}(n:Nat)(I:Nat→S→Prop)(V:I 0 K)(Z:n<F)
  (round:∀i s,i<n→I i s→A0 (body s) (Bi.sat (I (i+1)) Q)) (last:∀s,I n s→A0 (body s) (fun st=>∃a,st= .done a∧Q a)):A0 (Pal.iter body F K) Q:=by
 refine MD (fun m s=>∃i,i≤n∧m=n - i∧I i s) ?_ (m:=n - 0) ⟨0,Nat.zero_le _,rfl,V⟩ (by omega);rintro m s ⟨i,hi,rfl,O⟩;rcases Nat.lt_or_ge i n with Y | ag
 ·refine(round i s Y O).Ah ?_;intro st U;cases st with
  | more s'=>exact⟨n - (i+1),by omega,i+1,by omega,rfl,U⟩
  | done a=>exact U
 ·obtain rfl:i=n:=by omega
  refine(last s O).Ah ?_;rintro st ⟨a,rfl,h⟩;exact h
theorem CE{α:Type}{o:Option α}{a:α}(h:A0 o (fun x=>x=a)):o=some a:=by obtain⟨x,K,rfl⟩:=h;exact K
theorem HR(F:Nat)(a lo hi:Int):f101 F a lo hi=some (decide (a<lo∨hi<a)):=by
 unfold f101;by_cases h:a<lo
 ·simp [h]
 ·simp [h]
theorem WQ(F:Nat){s n:Nat}(hs:s<65536)(V:n≤16):f103 F s (n:Int)=some (s.testBit n):=by
 unfold f103;have K:LI s (n:Int)=some (s>>>n):=by unfold LI;rw [if_pos (by omega)];rfl
 rw [K];simp only [Option.bind_some];have O:s>>>n<65536:=Nat.lt_of_le_of_lt (Nat.shiftRight_le _ _) hs;have U:Kf (s>>>n) 1=some (s>>>n&&& 1):=if_pos ⟨O,by omega⟩;rw [U];simp only [Option.bind_some];rw [W6]
theorem O8(F:Nat){s n:Nat}(hs:s<65536)(K:n<16):f90 F s (n:Int)=some (s ||| 1<<<n):=by
 unfold f90;have O:Lu (n:Int)=some (1<<<n):=by unfold Lu;rw [if_pos (by omega)];rfl
 rw [O];simp only [Option.bind_some];have U:1<<<n<65536:=by rw [Nat.one_shiftLeft];exact Nat.pow_lt_pow_right (by omega) (show n<16 from K)
 have V:Jl s (1<<<n)=some (s ||| 1<<<n):=if_pos ⟨hs,U⟩;rw [V];rfl
theorem ND{a b:Nat}(K:a<65536)(hb:b<65536):a ||| b<65536:=Nat.or_lt_two_pow (n:=16) K hb
theorem SL{n:Nat}(K:n<16):1<<<n<65536:=by rw [Nat.one_shiftLeft];exact Nat.pow_lt_pow_right (by omega) (show n<16 from K)
def HF(n:Nat)(l:List Int):Prop:=∀x∈l,0≤x∧x<(n:Int)
def CS(l:List Int):Nat:=l.foldl (fun s x=>s ||| 1<<<x.toNat) 0
theorem UC(l:List Int)(x:Int):CS (l++ [x])=CS l ||| 1<<<x.toNat:=by simp [CS]
theorem Rs{l:List Int}(h:HF 16 l):CS l<65536:=by
 have key:∀(l:List Int) (s:Nat),s<65536→HF 16 l→l.foldl (fun s x=>s ||| 1<<<x.toNat) s<65536:=by
  intro l
  induction l with
  | nil=>intro s hs _;exact hs
  | cons x l O=>
   intro s hs K;have V:=K x (by simp);exact O _ (ND hs (SL (by omega))) fun y U=>K y (by simp [U])
 exact key l 0 (by omega) h
theorem KB{l:List Int}(h:∀x∈l,0≤x)(n:Nat):(CS l).testBit n=decide ((n:Int)∈l):=by
 have key:∀(l:List Int) (s:Nat),(∀x∈l,0≤x)→(l.foldl (fun s x=>s ||| 1<<<x.toNat) s).testBit n=(s.testBit n || decide ((n:Int)∈l)):=by
  intro l
  induction l with
  | nil=>intro s _;simp
  | cons x l O=>
   intro s K;have V:=K x (by simp);rw [List.foldl_cons,O _ fun y U=>K y (by simp [U]),Nat.testBit_or];have e:(1<<<x.toNat).testBit n=decide ((n:Int)=x):=by
    rw [Nat.one_shiftLeft,Nat.testBit_two_pow];exact decide_eq_decide.2 ⟨fun h=>by omega,fun h=>by omega⟩
   rw [e,Bool.or_assoc];congr 1;simp
 rw [CS,key l 0 h];simp
theorem RB{F:Nat}{l:List Int}(V:100<F)(Y:l.length<100)(h:HF 16 l):f120 F l=some (CS l):=by
 refine CE ?_;unfold f120;refine AE (S:=fun r=>r=CS l) ?_ (by rintro r rfl;exact Ak rfl);refine Cl l.length (fun i s=>s=(CS (l.take i),(i:Int))) (by simp [CS]) (by omega) ?_ ?_
 ·rintro i s hi rfl;unfold ML;refine Bs (by simp;omega) (Bl (m:=i) rfl hi ?_);have Z:=h l[i] (List.getElem_mem hi);have O:l[i]=((l[i].toNat:Nat):Int):=by omega
  have hs:CS (l.take i)<65536:=Rs fun y U=>h y (List.mem_of_mem_take U);have K:=O8 F (n:=l[i].toNat) hs (by omega);rw [← O] at K;refine AM K ?_;refine AW ((i+1:Nat):Int) (by simp) (by omega) (by omega) ?_;refine Ak ?_;show _=_;rw [List.take_add_one,List.getElem?_eq_getElem hi];simp only [Option.toList_some];rw [UC]
 ·rintro s rfl;unfold ML;exact A5 (by simp) (Ak ⟨_,rfl,by simp⟩)
def Cm(s:Nat)(k:Nat):List Int:=((List.range k).filter (fun n=>s.testBit n)).map (fun(n:Nat)=>(n:Int))
theorem Ol(s k:Nat):Cm s (k+1)=if s.testBit k=true then Cm s k++ [(k:Int)] else Cm s k:=by
 unfold Cm;rw [List.range_succ,List.filter_append];by_cases h:s.testBit k=true
 ·rw [if_pos h];simp [h]
 ·rw [if_neg h];simp [h]
theorem Kt(s k:Nat):(Cm s k).length≤k:=by
 unfold Cm;rw [List.length_map];exact Nat.le_trans (List.length_filter_le _ _) (by simp)
theorem Io{s k:Nat}{x:Int}:x∈Cm s k↔∃n:Nat,n<k∧s.testBit n=true∧x=(n:Int):=by
 unfold Cm;simp only [List.mem_map,List.mem_filter,List.mem_range];exact⟨fun⟨n,⟨K,O⟩,U⟩=>⟨n,K,O,U.symm⟩,fun⟨n,K,O,U⟩=>⟨n,⟨K,O⟩,U.symm⟩⟩
theorem Nc{F s:Nat}(K:100<F)(hs:s<65536):f89 F s=some (Cm s 16):=by
 refine CE ?_;unfold f89;refine AE (S:=fun r=>r=Cm s 16) ?_ (by rintro r rfl;exact Ak rfl);refine Cl 16 (fun i st=>st=(Cm s i,(i:Int))) rfl (by omega) ?_ ?_
 ·rintro i st hi rfl;unfold Nj;refine Bs (by simp only;omega) (AM (WQ F hs (by omega)) ?_);have hlen:=Kt s i;refine AE (S:=fun r=>r=Cm s (i+1)) ?_ ?_
  ·rw [Ol];refine Bn (fun h=>?_) (fun h=>?_)
   ·rw [if_pos h];exact IT (by simp only;omega) (Ak rfl)
   ·rw [if_neg h];exact Ak rfl
  ·rintro r rfl;exact AW ((i+1:Nat):Int) (by simp) (by omega) (by omega) (Ak rfl)
 ·rintro st rfl;unfold Nj;exact A5 (by simp) (Ak ⟨_,rfl,rfl⟩)
end Pal
namespace Pal
abbrev JW:=List (List Int)×List (List Int)
structure VL (n:Nat) (l:List Int):Prop where
 len:l.length≤3
 inr:HF n l
 IQ:l.Pairwise (·<·)
structure VJ (n:Nat) (J:JW):Prop where
 pos:0<n
 le:n≤8
 l1:J.1.length=n
 l2:J.2.length=n
 nx:∀(i:Nat) l,J.1[i]? =some l→VL n l∧0<l.length
 fl:∀(i:Nat) l,J.2[i]? =some l→VL n l∧(i:Int) ∉ l
theorem Zg{l:List Int}(h:l.Pairwise (·<·)){i:Nat}(hi:i<l.length)(K:0<i):¬(l[i]≤l[i - 1]'(by omega)):=by
 have:=List.pairwise_iff_getElem.1 h (i - 1) i (by omega) hi (by omega);omega
theorem RD{F n:Nat}{J:JW}{m:Nat}{l:List Int}{b:Bool}(O:100<F)(U:J.1.length=n)(V:0<n∧n≤8)(K:VL n l)(hb:b=true∨(m:Int) ∉ l):f136 F J (m:Int) l b=some none:=by
 refine CE ?_;unfold f136;have hlen:=K.len;refine AE (S:=fun q=>q=Sum.inr ()) ?_ (by rintro q rfl;exact Ak rfl);refine Cl l.length (fun i s=>s=(i:Int)) rfl (by omega) ?_ ?_
 ·rintro i s hi rfl;unfold JI;have Y:=K.inr l[i] (List.getElem_mem hi);refine Bs (by omega) (Bl (m:=i) rfl hi ?_);refine AW ((n - 1:Nat):Int) (by omega) (by omega) (by omega) (AM (HR F _ _ _) ?_);refine A5 (by simp;omega) (AE (S:=fun c=>c=false) ?_ ?_)
  ·refine Bn (fun h=>?_) (fun h=>Ak rfl);rcases hb with rfl | hb
   ·exact Ak rfl
   ·exact absurd (h▸List.getElem_mem hi) hb
  ·rintro c rfl;refine A5 (by simp) (AE (S:=fun c=>c=false) ?_ ?_)
   ·refine Bn (fun h=>?_) (fun h=>Ak rfl);refine AW ((i - 1:Nat):Int) (by omega) (by omega) (by omega) (Bl (m:=i - 1) rfl (by omega) ?_);exact Ak (decide_eq_false (Zg K.IQ hi (by omega)))
   ·rintro c rfl;refine A5 (by simp) (AW ((i+1:Nat):Int) (by simp) (by omega) (by omega) ?_);exact Ak rfl
 ·rintro s rfl;unfold JI;exact A5 (by omega) (Ak ⟨_,rfl,rfl⟩)
theorem XQ{F n:Nat}{J:JW}(U:100<F)(K:VJ n J):f113 F J=some none:=by
 have V:=K.l1;have al:=K.l2;have Y:=K.pos;have Z:=K.le;refine CE ?_;unfold f113;refine A5 (by omega) (A5 (by omega) (A5 (by omega) ?_));refine AE (S:=fun q=>q=Sum.inr ()) ?_ (by rintro q rfl;exact Ak rfl);refine Cl n (fun i s=>s=(i:Int)) rfl (by omega) ?_ ?_
 ·rintro i s hi rfl;unfold JK;have ag:i<J.1.length:=by omega
  have O:i<J.2.length:=by omega
  obtain⟨v1,v2⟩:=K.nx i _ (List.getElem?_eq_getElem ag);obtain⟨w1,w2⟩:=K.fl i _ (List.getElem?_eq_getElem O);have am:=v1.len;have g2:=w1.len;refine Bs (by omega) (Bl (m:=i) rfl ag ?_);refine A5 (by omega) (A5 (by omega) ?_);refine AM (RD U V ⟨Y,Z⟩ v1 (.inl rfl)) (A5 (by simp) ?_);refine Bl (m:=i) rfl O (A5 (by omega) ?_);refine Bl (m:=i) rfl O (AM (RD U V ⟨Y,Z⟩ w1 (.inr w2)) ?_);refine A5 (by simp) (AW ((i+1:Nat):Int) (by simp) (by omega) (by omega) ?_);exact Ak rfl
 ·rintro s rfl;unfold JK;exact A5 (by omega) (Ak ⟨_,rfl,rfl⟩)
theorem Qe(F:Nat):Ls F none=some 0:=by
 unfold Ls f112;have h:∃b,f135 F=some b:=by unfold f135;exact⟨_,rfl⟩
 obtain⟨b,hb⟩:=h;rw [hb];cases b <;> rfl
def GK(nx:List (List Int))(s:Nat):Nat:=(Cm s 16).foldl (fun o m=>o ||| CS (nx.getD m.toNat [])) 0
theorem VJ.FR{n:Nat}{J:JW}(K:VJ n J)(m:Nat):VL n (J.1.getD m []):=by
 rw [List.getD_eq_getElem?_getD];cases h:J.1[m]? with
 | none=>exact⟨by simp,fun x O=>by simp at O,by simp⟩
 | some l=>exact(K.nx m l h).1
theorem HF.Ah{n m:Nat}{l:List Int}(h:HF n l)(hle:n≤m):HF m l:=fun x K=>by have:=h x K;omega
theorem OS{n:Nat}{J:JW}(U:VJ n J)(s k:Nat):(GK J.1 s).testBit k=true↔∃m,m<16∧s.testBit m=true∧(k:Int)∈J.1.getD m []:=by
 have key:∀(l:List Int) (o:Nat),(l.foldl (fun o m=>o ||| CS (J.1.getD m.toNat [])) o).testBit k=true↔o.testBit k=true∨∃m∈l,(k:Int)∈J.1.getD m.toNat []:=by
  intro l
  induction l with
  | nil=>intro o;simp
  | cons x l V=>
   intro o;rw [List.foldl_cons,V,Nat.testBit_or,Bool.or_eq_true,KB fun y Y=>((U.FR x.toNat).inr y Y).1,decide_eq_true_eq];simp only [List.mem_cons,exists_eq_or_imp,or_assoc]
 unfold GK;rw [key];simp only [Nat.zero_testBit,Bool.false_eq_true,false_or];constructor
 ·rintro⟨x,Z,ag⟩;obtain⟨m,K,O,rfl⟩:=Io.1 Z;exact⟨m,K,O,ag⟩
 ·rintro⟨m,K,O,al⟩;exact⟨(m:Int),Io.2 ⟨m,K,O,rfl⟩,by simpa using al⟩
theorem Uo{n s:Nat}(h:∀k,n≤k→s.testBit k=false):s<2 ^ n:=Nat.lt_pow_two_of_testBit s h
theorem Sq{n:Nat}{J:JW}(K:VJ n J)(s:Nat):GK J.1 s<2 ^ n:=by
 refine Uo fun k U=>?_;cases h:(GK J.1 s).testBit k with
 | false=>rfl
 | true=>
  obtain⟨m,_,_,O⟩:=(OS K s k).1 h;have:=(K.FR m).inr _ O;omega
theorem R3{n:Nat}(h:n≤8):2 ^ n≤256:=Nat.pow_le_pow_right (by omega) h
theorem I2{n s k:Nat}(h:s<2 ^ n)(O:s.testBit k=true):k<n:=by
 rcases Nat.lt_or_ge k n with K | K
 ·exact K
 ·rw [Nat.testBit_lt_two_pow (Nat.lt_of_lt_of_le h (Nat.pow_le_pow_right (by omega) K))] at O;cases O
theorem Ww{F n:Nat}{J:JW}{A:List Nat}{s:Nat}(V:100<F)(K:VJ n J)(hs:s<2 ^ n):Ly F (J.1,J.2,A) s=some (GK J.1 s,(J.1,J.2,A)):=by
 have am:=K.l1;have al:=K.le;have ap:=R3 al;refine CE ?_;unfold Ly;refine AM (Nc V (by omega)) ?_;refine AE (S:=fun r=>r=GK J.1 s) ?_ (by rintro r rfl;exact Ak rfl);have hlen:=Kt s 16;refine Cl (Cm s 16).length (fun i st=>st=(((Cm s 16).take i).foldl (fun o m=>o ||| CS (J.1.getD m.toNat [])) 0,(i:Int))∧((Cm s 16).take i).foldl (fun o m=>o ||| CS (J.1.getD m.toNat [])) 0<65536) ⟨rfl,by simp⟩ (by omega) ?_ ?_
 ·rintro i st hi ⟨rfl,Y⟩;unfold MC;obtain⟨m,av,g2,Z⟩:=Io.1 (List.getElem_mem hi);have hm:=I2 hs g2;have O:m<J.1.length:=by omega
  have U:=(K.nx m _ (List.getElem?_eq_getElem O)).1;have a0:=U.len;refine Bs (by simp;omega) ?_;refine Bl (m:=i) rfl hi ?_;refine Bl (m:=m) Z O ?_;refine AM (RB V (show J.1[m].length<100 by omega) (U.inr.Ah (by omega))) ?_;have ag:CS J.1[m]<65536:=Rs (U.inr.Ah (by omega));refine AM (b:=((Cm s 16).take i).foldl (fun o m=>o ||| CS (J.1.getD m.toNat [])) 0 ||| CS J.1[m]) (if_pos ⟨Y,ag⟩) ?_;refine AW ((i+1:Nat):Int) (by simp) (by omega) (by omega) ?_;have e:((Cm s 16).take (i+1)).foldl (fun o m=>o ||| CS (J.1.getD m.toNat [])) 0=((Cm s 16).take i).foldl (fun o m=>o ||| CS (J.1.getD m.toNat [])) 0 ||| CS J.1[m]:=by
   rw [List.take_add_one,List.getElem?_eq_getElem hi,List.foldl_append,Z];simp [List.getD_eq_getElem?_getD,O]
  refine Ak ⟨?_,?_⟩
  ·rw [e]
  ·rw [e];exact ND Y ag
 ·rintro st ⟨rfl,_⟩;unfold MC;refine A5 (by simp) (Ak ⟨_,rfl,?_⟩);rw [List.take_length];rfl
def AG(J:JW):Nat→Nat
 | 0=>1
 | a+1=>GK J.1 (AG J a)
theorem IH{n:Nat}{J:JW}(K:VJ n J):∀a,AG J a<2 ^ n
 | 0=>Nat.one_lt_two_pow (by have:=K.pos;omega)
 | a+1=>Sq K _
def Gb(J:JW):List Nat:=(List.range 13).map (AG J)
def LC(J:JW)(n k:Nat)(A:List Nat):Prop:=A.length=13∧(∀i,i≤k→i<13→A[i]? =some (AG J i))∧∀x∈A,x<2 ^ n
theorem LC.all{J:JW}{n:Nat}{A:List Nat}(h:LC J n 12 A):A=Gb J:=by
 apply List.ext_getElem?;intro i;rcases Nat.lt_or_ge i 13 with hi | hi
 ·rw [h.2.1 i (by omega) hi];simp [Gb,hi]
 ·rw [List.getElem?_eq_none (by rw [h.1];exact hi),List.getElem?_eq_none (by simp [Gb];exact hi)]
theorem QL{F n:Nat}{J:JW}{A:List Nat}(al:100<F)(Y:VJ n J)(am:A.length=13)(Z:∀x∈A,x<2 ^ n):
  A0 (iter (Lo F) F (J.1,J.2,A,A,0)) (fun r=>r.1=J.1∧r.2.1=J.2∧r.2.2.1=A∧r.2.2.2.length=13∧r.2.2.2[0]? =A[0]? ∧(∀i,i<12→∀s,A[i]? =some s→r.2.2.2[i+1]? =some (GK J.1 s))∧∀x∈r.2.2.2,x<2 ^ n):=by
 refine Cl 12 (fun k st=>∃B:List Nat,st=(J.1,J.2,A,B,(k:Int))∧B.length=13∧B[0]? =A[0]? ∧(∀i,i<k→∀s,A[i]? =some s→B[i+1]? =some (GK J.1 s))∧∀x∈B,x<2 ^ n) ⟨A,rfl,am,rfl,fun i hi=>by omega,Z⟩ (by omega) ?_ ?_
 ·rintro k st av ⟨B,rfl,K,O,hs,hb⟩;unfold Lo;have U:k<A.length:=by omega
  have ag:k+1<B.length:=by omega
  refine Bs (by simp only;omega) (AW ((k+1:Nat):Int) (by simp) (by omega) (by omega) ?_);refine Bl (m:=k) rfl U (AM (Ww al Y (Z _ (List.getElem_mem U))) ?_);refine Bl (m:=k+1) rfl ag (AW ((k+1:Nat):Int) (by simp) (by omega) (by omega) ?_);refine Ak ⟨B.set (k+1) (GK J.1 A[k]),rfl,by simpa using K,?_,?_,?_⟩
  ·rw [List.getElem?_set_ne (by omega)];exact O
  ·intro i hi s V;by_cases e:i=k
   ·subst e;rw [List.getElem?_set_self ag];have:A[i]=s:=by rw [List.getElem?_eq_getElem U] at V;exact Option.some.inj V
    rw [this]
   ·rw [List.getElem?_set_ne (by omega)];exact hs i (by omega) s V
  ·intro x ap;rcases List.mem_or_eq_of_mem_set ap with h | h
   ·exact hb x h
   ·subst h;exact Sq Y _
 ·rintro st ⟨B,rfl,K,O,hs,hb⟩;unfold Lo;refine A5 (by simp) (Ak ⟨_,rfl,rfl,rfl,rfl,K,O,hs,hb⟩)
theorem SG{F n:Nat}{J:JW}(av:100<F)(al:VJ n J):f92 F J=some (some (J.1,J.2,Gb J)):=by
 have a7:=al.pos;refine CE ?_;unfold f92;refine Bl (m:=0) rfl (by simp) ?_;refine AE (S:=fun q=>q=Sum.inl (some (J.1,J.2,Gb J))) ?_ (by rintro q rfl;exact Ak rfl);refine Cl 12 (fun k st=>∃A:List Nat,st=(J.1,J.2,A)∧LC J n k A) ?_ (by omega) ?_ ?_
 ·refine⟨_,rfl,by simp,fun i hi _=>?_,fun x a0=>?_⟩
  ·obtain rfl:i=0:=by omega
   rfl
  ·rcases List.mem_or_eq_of_mem_set a0 with h | h
   ·simp at h;subst h;exact Nat.two_pow_pos n
   ·subst h;exact Nat.one_lt_two_pow (by omega)
 ·rintro k st a8 ⟨A,rfl,K⟩;unfold M1;refine AE (QL av al K.1 K.2.2) ?_;rintro⟨a1,a2,am,B⟩ ⟨Y,Z,ag,O,g2,U,V⟩;simp only at Y Z ag O g2 U V ⊢;subst Y Z ag;refine Bn (fun h=>?_) (fun h=>?_)
  ·refine Ak ⟨B,rfl,O,fun i hi ap=>?_,V⟩;cases i with
   | zero=>rw [g2];exact K.2.1 0 (by omega) (by omega)
   | succ i=>exact U i (by omega) _ (K.2.1 i (by omega) (by omega))
  ·have e:B=am:=Decidable.byContradiction fun a3=>h a3;subst e;refine Ak ?_;show _=_;have a4:LC J n 12 B:=by
    refine⟨O,fun i hi ap=>?_,V⟩;have:∀i,i<13→B[i]? =some (AG J i):=by
     intro i
     induction i with
     | zero=>intro _;exact K.2.1 0 (by omega) (by omega)
     | succ i a5=>intro h;exact U i (by omega) _ (a5 (by omega))
    exact this i ap
   rw [a4.all]
 ·rintro st ⟨A,rfl,K⟩;unfold M1;refine AE (QL av al K.1 K.2.2) ?_;rintro⟨a1,a2,am,B⟩ ⟨Y,Z,ag,O,g2,U,V⟩;simp only at Y Z ag O g2 U V ⊢;subst Y Z ag;have a6:LC J n 12 B:=by
   refine⟨O,fun i hi ap=>?_,V⟩;cases i with
   | zero=>rw [g2];exact K.2.1 0 (by omega) (by omega)
   | succ i=>exact U i (by omega) _ (K.2.1 i (by omega) (by omega))
  have e:B=am:=by rw [a6.all,K.all]
  refine A5 (by rw [e];simp) (Ak ⟨_,rfl,?_⟩);rw [K.all]
end Pal
namespace Pal
theorem XX(J:JW){a:Nat}(K:a<13):(Gb J)[a]? =some (AG J a):=by simp [Gb,K]
abbrev EA:=List Int×Int×Nat
def BG(k:Nat)(b:EA):Prop:=0≤b.2.1∧b.2.1≤(k:Int)
theorem BG.Ah{k k':Nat}{b:EA}(h:BG k b)(K:k≤k'):BG k' b:=⟨h.1,by have:=h.2;omega⟩
theorem Xr{F k:Nat}{b:EA}(hb:BG k b)(K:k<1000000):A0 (f100 F b) (fun r=>r.1<2 ^ 64∧BG (k+1) r.2):=by
 obtain⟨O,U⟩:=hb;unfold f100;refine AW (b.2.1+1) rfl (by omega) (by omega) ?_;have key:∀x:Nat,(x % 2 ^ 64)>>>11<2 ^ 64:=fun x=>Nat.lt_of_le_of_lt (Nat.shiftRight_le _ _) (Nat.mod_lt _ (Nat.two_pow_pos 64));refine AE (S:=fun _=>True) ?_ ?_
 ·refine Bn (fun h=>?_) (fun h=>?_)
  ·refine AW b.2.1 (by omega) (by omega) (by omega) (Bl (m:=b.2.1.toNat) (by omega) (by omega) ?_);exact Ak trivial
  ·exact Ak trivial
 ·intro x _;exact Ak ⟨key _,by simp only;omega,by simp only;omega⟩
theorem Vs{a:Nat}(h:a<2 ^ 62):LQ a=(a:Int):=by
 unfold LQ;exact IU (by omega)
theorem HU{F k:Nat}{b:EA}{m:Int}(hb:BG k b)(O:k<1000000)(hm:m<1000000):A0 (f41 F b m) (fun r=>0≤r.1∧(r.1≤m∨r.1=0)∧BG (k+1) r.2):=by
 unfold f41;refine AE (Xr hb O) ?_;rintro⟨x,Z⟩ ⟨ag,K⟩;refine Bn (fun h=>?_) (fun h=>?_)
 ·exact Ak ⟨by simp,.inr rfl,K⟩
 ·have U:Dh m=m.toNat:=by unfold Dh;omega
  have V:(Dh m+1) % 2 ^ 64=m.toNat+1:=by rw [U];omega
  have Y:x % (m.toNat+1)<m.toNat+1:=Nat.mod_lt _ (by omega);refine AM (b:=x % (m.toNat+1)) (by rw [V];unfold NO;rw [if_neg (by omega)]) ?_;refine Ak ?_;simp only;generalize x % (m.toNat+1)=z at Y ⊢;rw [Vs (by omega)];exact⟨by omega,.inl (by omega),K⟩
theorem Pd{F k:Nat}{b:EA}{lo hi:Int}(hb:BG k b)(O:k<1000000)(V:0≤lo)(Y:lo≤hi)(Z:hi<1000):A0 (f96 F b lo hi) (fun r=>lo≤r.1∧r.1≤hi∧BG (k+1) r.2):=by
 unfold f96;refine AW (hi - lo) rfl (by omega) (by omega) (AE (HU hb O (by omega)) ?_);rintro⟨x,ag⟩ ⟨U,g2,K⟩;simp only at U g2 K ⊢;exact AW (lo+x) rfl (by omega) (by omega) (Ak ⟨by simp only;omega,by simp only;omega,K⟩)
theorem Ln{F k:Nat}{b:EA}{m:Int}(hb:BG k b)(K:k<1000000)(U:1≤m)(V:m<1000):A0 (f97 F b m) (fun r=>BG (k+1) r.2):=by
 unfold f97;refine AW (m - 1) rfl (by omega) (by omega) (AE (HU hb K (by omega)) ?_);rintro⟨x,Y⟩ ⟨Z,g2,O⟩;exact Ak O
theorem Nl{F k:Nat}{b:EA}{l:List Int}(hb:BG k b)(U:k<1000000)(Y:0<l.length)(Z:l.length<1000):A0 (f99 F b l) (fun r=>r.1∈l∧BG (k+1) r.2):=by
 unfold f99;refine AW ((l.length - 1:Nat):Int) (by omega) (by omega) (by omega) (AE (HU hb U (by omega)) ?_);rintro⟨x,ag⟩ ⟨V,g2,K⟩;simp only at V g2 K ⊢;have O:x.toNat<l.length:=by omega
 exact Bl (m:=x.toNat) (by omega) O (Ak ⟨List.getElem_mem O,K⟩)
theorem XA{F:Nat}{x:Int}(K:100<F):f98 F [] x=some [x]:=by
 obtain⟨F,rfl⟩:∃k,F=k+1:=⟨F - 1,by omega⟩;refine CE ?_;unfold f98;refine AM (b:=([],false)) ?_ ?_
 ·unfold iter;rfl
 ·refine AM (b:= [x]) ?_ (Ak rfl)
  rfl
theorem XD{F:Nat}{a x:Int}(ap:100<F):f98 F [a] x=some (if x<a then [x,a] else if x=a then [a] else [a,x]):=by
 obtain⟨F,rfl⟩:∃k,F=k+2:=⟨F - 2,by omega⟩;refine CE ?_;unfold f98;have U:As 1=some 1:=rfl;have V:ix [a] 0=some a:=rfl;have r0:room ([]:List Int) x=some [x]:=if_pos (by simp);have ag:room ([]:List Int) a=some [a]:=if_pos (by simp);have al:room [x] a=some [x,a]:=if_pos (by simp);have am:room [a] x=some [a,x]:=if_pos (by simp);have step:JZ (F+2) [a] x ([],false,0)=some (.more (if x<a then([x,a],true,1) else if x=a then([x],true,1) else([a],false,1))):=by
  unfold JZ;rcases Int.lt_trichotomy x a with h | h | h
  ·have Y:x≤a:=by omega
   have Z:a≠x:=by omega
   simp [V,h,Y,Z,r0,al,U]
  ·subst h;simp [V,r0,U]
  ·have Y:¬x≤a:=by omega
   have Z:a≠x:=by omega
   have K:¬x<a:=by omega
   have O:¬x=a:=by omega
   simp [V,Y,Z,K,O,ag,U]
 have last:∀(o:List Int) (b:Bool),JZ (F+2) [a] x (o,b,1)=some (.done (o,b)):=by
  intro o b;unfold JZ;simp
 rcases Int.lt_trichotomy x a with h | h | h
 ·rw [if_pos h] at step;refine AM (b:=([x,a],true)) ?_ ?_
  ·unfold iter;rw [step];simp only;unfold iter;rw [last]
  ·rw [if_pos h];exact AM (b:= [x,a]) (by simp) (Ak rfl)
 ·subst h;rw [if_neg (by omega),if_pos rfl] at step;refine AM (b:=([x],true)) ?_ ?_
  ·unfold iter;rw [step];simp only;unfold iter;rw [last]
  ·rw [if_neg (show ¬x<x by omega),if_pos (rfl:x=x)];exact AM (b:= [x]) (by simp) (Ak rfl)
 ·have K:¬x<a:=by omega
  have O:¬x=a:=by omega
  rw [if_neg K,if_neg O] at step;refine AM (b:=([a],false)) ?_ ?_
  ·unfold iter;rw [step];simp only;unfold iter;rw [last]
  ·rw [if_neg K,if_neg O];exact AM (b:= [a,x]) (by simp [am]) (Ak rfl)
theorem Ss{F n:Nat}{l:List Int}{x:Int}(O:100<F)(U:HF n l)(V:l.length≤1)(Y:0≤x∧x<(n:Int)):A0 (f98 F l x) (fun r=>VL n r∧0<r.length∧r.length≤l.length+1∧∀y∈r,y=x∨y∈l):=by
 match l,V with
 | [],_=>
  rw [XA O];exact Ak ⟨⟨by simp,fun y K=>by simp at K;subst K;exact Y,by simp⟩,by simp,by simp,fun y K=>by simpa using K⟩
 | [a],_=>
  rw [XD O];have Z:=U a (by simp);refine Ak ?_;rcases Int.lt_trichotomy x a with h | h | h
  ·rw [if_pos h];exact⟨⟨by simp,fun y K=>by simp at K;rcases K with rfl | rfl <;> assumption,by simpa using h⟩,by simp,by simp,fun y K=>by simpa using K⟩
  ·rw [if_neg (by omega),if_pos h];exact⟨⟨by simp,fun y K=>by simp at K;subst K;exact Z,by simp⟩,by simp,by simp,fun y K=>by simp at K;subst K;simp⟩
  ·rw [if_neg (by omega),if_neg (by omega)];exact⟨⟨by simp,fun y K=>by simp at K;rcases K with rfl | rfl <;> assumption,by simpa using h⟩,by simp,by simp,fun y K=>by simp at K;rcases K with rfl | rfl <;> simp⟩
 | a::b::l,h=>simp at h
structure PJ (n i:Nat) (N K:List (List Int)):Prop where
 l1:N.length=i
 l2:K.length=i
 nx:∀(q:Nat) l,N[q]? =some l→VL n l∧0<l.length
 fl:∀(q:Nat) l,K[q]? =some l→VL n l∧(q:Int) ∉ l
theorem PJ.snoc{n i:Nat}{N U:List (List Int)}{a b:List Int}(h:PJ n i N U)(V:VL n a∧0<a.length)(hb:VL n b∧(i:Int) ∉ b):PJ n (i+1) (N++ [a]) (U++ [b]):=by
 refine⟨by simp [h.l1],by simp [h.l2],fun q l K=>?_,fun q l K=>?_⟩
 ·rcases Nat.lt_or_ge q N.length with O | O
  ·rw [List.getElem?_append_left O] at K;exact h.nx q l K
  ·rw [List.getElem?_append_right O] at K;have:q - N.length=0:=by
    rcases Nat.eq_zero_or_pos (q - N.length) with e | e
    ·exact e
    ·rw [List.getElem?_eq_none (by simp;omega)] at K;cases K
   rw [this] at K;simp at K;subst K;exact V
 ·rcases Nat.lt_or_ge q U.length with O | O
  ·rw [List.getElem?_append_left O] at K;exact h.fl q l K
  ·rw [List.getElem?_append_right O] at K;have e:q - U.length=0:=by
    rcases Nat.eq_zero_or_pos (q - U.length) with e | e
    ·exact e
    ·rw [List.getElem?_eq_none (by simp;omega)] at K;cases K
   rw [e] at K;simp at K;subst K;have:q=i:=by have:=h.l2;omega
   subst this;exact hb
theorem UX{F n i k:Nat}{al:Int×EA}{am:(List (List Int))×(List (List Int))×(List Int)×Int×Nat×Int}{b:EA}{c:Int}(a6:100<F)(ap:al.1=(n:Int))(av:am.2.2.2.2.2=(i:Int))(hi:i<n)(bb:n≤8)(hb:BG k b)(bd:k<1000)(be:c=0∨c=1∨c=2):
  A0 (iter (M4 F al am) F (b.1,b.2.1,b.2.2,[],c)) (fun r=>VL n r.1∧(i:Int) ∉ r.1∧BG (k+10) r.2):=by
 refine MD (fun m st=>∃(l:List Int) (K:EA),st=(K.1,K.2.1,K.2.2,l,(m:Int))∧m≤2∧VL n l∧(i:Int) ∉ l∧l.length≤2 - m∧BG (k+10 - 4*m) K) ?_ (m:=c.toNat) ⟨[],b,by simp;omega,by omega,⟨by simp,fun x a7=>by simp at a7,by simp⟩,by simp,by simp,hb.Ah (by omega)⟩ (by omega);rintro m st ⟨l,K,rfl,bi,Y,Z,hlen,a0⟩;unfold M4;refine AE (S:=fun q=>q=decide (0<m∧1<n)) ?_ ?_
 ·refine Bn (fun h=>?_) (fun h=>?_)
  ·refine Ak ?_;rw [ap];exact decide_eq_decide.2 ⟨fun a1=>⟨by simp only at h;omega,by omega⟩,fun a1=>by omega⟩
  ·refine Ak ?_;have:¬0<m:=by simp only at h;omega
   simp [this]
 ·rintro q rfl;refine Bn (fun h=>?_) (fun h=>?_)
  ·have a1:0<m∧1<n:=of_decide_eq_true h;refine AW ((i:Int) - 1) (by rw [av]) (by omega) (by omega) ?_;refine AE (HU (F:=F) (b:=(K.1,K.2.1,K.2.2)) (m:=max 0 ((i:Int) - 1)) a0 (by omega) (by omega)) ?_;rintro⟨y,bn⟩ ⟨a2,g2,a3⟩;simp only at a2 g2 a3 ⊢;refine AE (Ln (F:=F) a3 (by omega) (by omega) (by omega)) ?_;rintro⟨o,bo⟩ ag;simp only at ag ⊢;refine AE (S:=fun r=>0≤r.1∧r.1<(n:Int)∧BG (k+10 - 4*m+1+1+1) r.2) ?_ ?_
   ·refine Bn (fun _=>?_) (fun _=>?_)
    ·refine AW ((n:Int) - 1) (by rw [ap]) (by omega) (by omega) (AE (HU (F:=F) ag (by omega) (by omega)) ?_);rintro⟨z,a4⟩ ⟨O,U,V⟩;exact Ak ⟨O,by simp only at O U ⊢;omega,V⟩
    ·exact Ak ⟨a2,by simp only;omega,BG.Ah ag (by omega)⟩
   ·rintro⟨z,a4⟩ ⟨O,U,V⟩;simp only at O U V ⊢;refine AE (S:=fun r=>VL n r∧(i:Int) ∉ r∧r.length≤l.length+1) ?_ ?_
    ·rw [av];refine Bn (fun a8=>?_) (fun _=>?_)
     ·refine AE (Ss (F:=F) a6 Y.inr (by omega) ⟨O,U⟩) ?_;rintro r ⟨v1,v2,a5,v4⟩;refine Ak ⟨v1,fun a9=>?_,a5⟩;rcases v4 _ a9 with e | e
      ·exact a8 e.symm
      ·exact Z e
     ·exact Ak ⟨Y,Z,by omega⟩
    ·rintro r ⟨v1,v2,a5⟩;exact AW ((m - 1:Nat):Int) (by omega) (by omega) (by omega) (Ak ⟨m - 1,by omega,r,a4,rfl,by omega,v1,v2,by omega,V.Ah (by omega)⟩)
  ·exact Ak ⟨Y,Z,a0.Ah (by omega)⟩
theorem Yy{F k mx:Nat}{b:EA}(a0:100<F)(hb:BG k b)(bo:k<100)(bp:1≤mx)(bq:mx≤8):A0 (f39 F b (mx:Int)) (fun r=>(∃n,n≤mx∧VJ n r.1)∧BG (k+301) r.2):=by
 unfold f39;refine AE (Pd (F:=F) hb (by omega) (by omega) (by omega) (by omega)) ?_;rintro⟨a1,bb⟩ ⟨n1,n2,a2⟩;simp only at n1 n2 a2;obtain⟨n,rfl⟩:∃n:Nat,a1=(n:Int):=⟨a1.toNat,by omega⟩;have br:1≤n:=by omega
 have a3:n≤8:=by omega
 refine AE (S:=fun r=>PJ n n r.2.2.2.1 r.2.2.2.2∧BG (k+301) (r.1,r.2.1,r.2.2.1)) ?_ ?_
 ·refine Cl n (fun i st=>∃(N O:List (List Int)) (Y:EA),st=(N,O,Y.1,Y.2.1,Y.2.2,(i:Int))∧PJ n i N O∧BG (k+1+30*i) Y) ⟨[],[],bb,rfl,⟨rfl,rfl,fun q l ag=>by simp at ag,fun q l ag=>by simp at ag⟩,a2⟩ (by omega) ?_ ?_
  ·rintro i st hi ⟨N,O,Z,rfl,K,al⟩;unfold Nz;refine Bs (by simp only;omega) (AW ((n:Int) - 1) rfl (by omega) (by omega) ?_);refine AW ((i+1:Nat):Int) (by simp) (by omega) (by omega) (AE (Ln (F:=F) (b:=(Z.1,Z.2.1,Z.2.2)) al (by omega) (by omega) (by omega)) ?_);rintro⟨o,bu⟩ g2;simp only at g2 ⊢;have a4:HF n [min ((n:Int) - 1) ((i+1:Nat):Int)]:=fun x U=>by simp at U;subst U;omega
   refine AE (S:=fun r=>VL n r.1∧0<r.1.length∧BG (k+1+30*i+2) r.2) ?_ ?_
   ·refine Bn (fun _=>?_) (fun _=>?_)
    ·refine AW ((n:Int) - 1) rfl (by omega) (by omega) (AE (Pd (F:=F) g2 (by omega) (by omega) (by omega) (by omega)) ?_);rintro⟨y,a5⟩ ⟨am,ap,V⟩;simp only at am ap V ⊢;refine AE (Ss (F:=F) a0 a4 (by simp) ⟨by omega,by omega⟩) ?_;rintro r ⟨v1,v2,bv,v4⟩;exact Ak ⟨v1,v2,V⟩
    ·exact Ak ⟨⟨by simp,a4,by simp⟩,by simp,BG.Ah g2 (by omega)⟩
   ·rintro⟨nx,a5⟩ ⟨w1,w2,w3⟩;simp only at w1 w2 w3 ⊢;refine AE (Ln (F:=F) (b:=a5) w3 (by omega) (by omega) (by omega)) ?_;rintro⟨o2,bw⟩ av;simp only at av ⊢;refine AE (S:=fun r=>VL n r.1∧0<r.1.length∧BG (k+1+30*i+4) r.2) ?_ ?_
    ·refine Bn (fun _=>?_) (fun _=>?_)
     ·refine AW ((n:Int) - 1) rfl (by omega) (by omega) (AE (HU (F:=F) av (by omega) (by omega)) ?_);rintro⟨y,a6⟩ ⟨am,ap,V⟩;simp only at am ap V ⊢;exact Ak ⟨⟨by simp,fun x U=>by simp at U;subst U;omega,by simp⟩,by simp,V⟩
     ·exact Ak ⟨w1,w2,BG.Ah av (by omega)⟩
    ·rintro⟨a7,a6⟩ ⟨u1,u2,a8⟩;simp only at u1 u2 a8 ⊢;refine AE (Nl (F:=F) (b:=a6) a8 (by omega) (by simp) (by simp)) ?_;rintro⟨c,bd⟩ ⟨a9,c2⟩;simp only at a9 c2 ⊢;have be:c=0∨c=1∨c=2:=by simp at a9;omega
     refine AE (UX (F:=F) (b:=bd) a0 rfl rfl hi a3 c2 (by omega) be) ?_;rintro⟨fl,bi⟩ ⟨t1,t2,t3⟩;simp only at t1 t2 t3 ⊢;have bx:=K.l1;have bz:=K.l2;refine AM (b:=N++ [a7]) (if_pos (by simp;omega)) (AM (b:=O++ [fl]) (if_pos (by simp;omega)) ?_);exact AW ((i+1:Nat):Int) (by simp) (by omega) (by omega) (Ak ⟨N++ [a7],O++ [fl],bi,rfl,K.snoc ⟨u1,u2⟩ ⟨t1,t2⟩,t3.Ah (by omega)⟩)
  ·rintro st ⟨N,O,Z,rfl,K,al⟩;unfold Nz;refine A5 (by simp) (Ak ⟨_,rfl,K,al.Ah (by omega)⟩)
 ·rintro⟨bA,bB,bC,N,O⟩ ⟨K,bn⟩;refine Ak ⟨⟨n,by omega,?_⟩,bn⟩;exact⟨by omega,a3,K.l1,K.l2,K.nx,K.fl⟩
end Pal
namespace Pal
open Go Go.Conc Go.Proofs
open Go.Proofs.Tryz
end Pal
namespace Pal
def H7(J:JW)(n a:Nat)(d:List Bool):Prop:=d.length=n∧∀m,m<n→d[m]? =some ((AG J a).testBit m)
def PR(J:JW)(n a k:Nat)(d:List Bool):Prop:=d.length=n∧∀x:Nat,x<n→(d[x]? =some true↔∃m,m<k∧(AG J a).testBit m=true∧(x:Int)∈J.1.getD m [])
theorem PR.due{n a:Nat}{J:JW}{d:List Bool}(K:VJ n J)(h:PR J n a n d):H7 J n (a+1) d:=by
 refine⟨h.1,fun x U=>?_⟩;have V:x<d.length:=by rw [h.1];exact U
 rw [List.getElem?_eq_getElem V];congr 1;have Y:=h.2 x U;rw [List.getElem?_eq_getElem V,Option.some.injEq] at Y;have Z:=OS K (AG J a) x;have e:d[x]=true↔(AG J (a+1)).testBit x=true:=by
  rw [Y];show _↔(GK J.1 (AG J a)).testBit x=true;rw [Z];have al:=K.le;constructor
  ·rintro⟨m,ag,g2,O⟩;exact⟨m,by omega,g2,O⟩
  ·rintro⟨m,ag,g2,O⟩;exact⟨m,I2 (IH K a) g2,g2,O⟩
 cases am:d[x] <;> cases ap:(AG J (a+1)).testBit x <;> simp_all
theorem V3{d:List Bool}{q x:Nat}(K:q<d.length):(d.set q true)[x]? =some true↔d[x]? =some true∨x=q:=by
 by_cases e:q=x
 ·subst e;rw [List.getElem?_set_self K];simp
 ·rw [List.getElem?_set_ne e];constructor
  ·exact .inl
  ·rintro(h | h)
   ·exact h
   ·exact absurd h.symm e
end Pal
namespace Pal
open Go Go.Conc Go.Proofs
open Go.Proofs.Tryz
end Pal
namespace Pal
theorem VJ.PM{n:Nat}{J:JW}(K:VJ n J)(m:Nat):VL n (J.2.getD m []):=by
 rw [List.getD_eq_getElem?_getD];cases h:J.2[m]? with
 | none=>exact⟨by simp,fun x O=>by simp at O,by simp⟩
 | some l=>exact(K.fl m l h).1
end Pal
namespace Pal
abbrev Bb:=List (Int×Int)
structure B8 (n:Nat) (lk:Bb):Prop where
 len:lk.length≤8
 yr:∀l∈lk,0≤l.1∧l.1≤6
 sn:∀l∈lk,0≤l.2∧l.2<(n:Int)
 IQ:lk.Pairwise (fun a b=>a.1≤b.1)
theorem WO{F n:Nat}{J:JW}{lk:Bb}(U:100<F)(K:VJ n J)(O:B8 n lk)(V:lk.length≤4):f116 F J lk=some none:=by
 have Y:=K.l1;have Z:=K.pos;have ag:=K.le;refine CE ?_;unfold f116;refine A5 (by omega) ?_;refine AE (S:=fun q=>q=Sum.inr ()) ?_ (by rintro q rfl;exact Ak rfl);refine Cl lk.length (fun i s=>s=(i:Int)) rfl (by omega) ?_ ?_
 ·rintro i s hi rfl;unfold JE;have hm:=List.getElem_mem hi;have al:=O.yr _ hm;have hs:=O.sn _ hm;refine Bs (by omega) (Bl (m:=i) rfl hi ?_);refine AM (HR F _ _ _) (A5 (by simp;omega) ?_);refine AE (S:=fun c=>c=false) ?_ ?_
  ·refine Bn (fun h=>?_) (fun h=>Ak rfl);refine AW ((i - 1:Nat):Int) (by omega) (by omega) (by omega) (Bl (m:=i - 1) rfl (by omega) ?_);have:=List.pairwise_iff_getElem.1 O.IQ (i - 1) i (by omega) hi (by omega);exact Ak (decide_eq_false (by omega))
  ·rintro c rfl;refine A5 (by simp) (AW ((n - 1:Nat):Int) (by omega) (by omega) (by omega) ?_);refine AM (HR F _ _ _) (A5 (by simp;omega) ?_);exact AW ((i+1:Nat):Int) (by simp) (by omega) (by omega) (Ak rfl)
 ·rintro s rfl;unfold JE;exact A5 (by omega) (Ak ⟨_,rfl,rfl⟩)
theorem OY{F n:Nat}{J:JW}{lk:Bb}(K:100<F)(O:VJ n J)(U:B8 n lk)(V:lk.length≤4):f69 F J lk=some 0:=by
 unfold f69;rw [XQ K O];simp only [Option.bind_some,Option.isSome_none,Bool.false_eq_true,if_false];rw [WO K O U V];simp only [Option.bind_some];rw [Qe];rfl
def CU(lk:Bb):Nat:=match lk.getLast? with
 | some l=>l.1.toNat
 | none=>0
theorem It{n:Nat}{lk:Bb}(K:B8 n lk):CU lk≤6:=by
 unfold CU;split
 ·rename_i l h;have:=K.yr l (List.mem_of_getLast? h);omega
 ·omega
theorem QX{F n:Nat}{O:JW}{A:List Nat}{lk:Bb}{age:Int}{ms:List Int}{fl:Nat}(U:B8 n lk):LA F ((O.1,O.2,A),lk,age,ms,fl)=some ((CU lk:Nat):Int):=by
 have V:=U.len;refine CE ?_;unfold LA CU;refine Bn (fun h=>?_) (fun h=>?_)
 ·simp only at h;have:lk= []:=List.length_eq_zero_iff.1 (by omega);subst this;exact Ak rfl
 ·simp only at h;have K:lk.length - 1<lk.length:=by omega
  refine AW ((lk.length - 1:Nat):Int) (by simp only;omega) (by omega) (by omega) (Bl (m:=lk.length - 1) rfl K ?_);rw [List.getLast?_eq_getElem?,List.getElem?_eq_getElem K];have:=U.yr _ (List.getElem_mem K);refine Ak ?_;simp only;omega
def Fe(J:JW)(m:Int)(l:Int×Int):Bool:=decide (m=l.2) || decide (l.2∈J.2.getD m.toNat [])
def EI(J:JW)(lk:Bb)(y:Nat)(m:Int):Bool:=lk.all fun l=>decide (l.1≠(y:Int)) || Fe J m l
def BT(lk:Bb)(y:Nat)(m:Int):Nat→Nat
 | 0=>0
 | k+1=>match lk[k]? with
  | some l=>if l.1=(y:Int)∧m≠l.2 then BT lk y m k ||| 1<<<k else BT lk y m k
  | none=>BT lk y m k
theorem Nw(lk:Bb)(y:Nat)(m:Int):∀k,k≤16→BT lk y m k<65536
 | 0,_=>by unfold BT;omega
 | k+1,h=>by
  have:=Nw lk y m k (by omega)
  unfold BT
  split
  ·split
   ·exact ND this (SL (by omega))
   ·exact this
  ·exact this
theorem HS(lk:Bb)(y:Nat)(m:Int)(i:Nat):∀k,(BT lk y m k).testBit i=true↔i<k∧∃l,lk[i]? =some l∧l.1=(y:Int)∧m≠l.2
 | 0=>by simp [BT]
 | k+1=>by
  have ag:=HS lk y m i k
  have hb:(1<<<k).testBit i=decide (i=k):=by
   rw [Nat.one_shiftLeft,Nat.testBit_two_pow];exact decide_eq_decide.2 ⟨fun h=>h.symm,fun h=>h.symm⟩
  have key:∀P:Prop,(i<k∧P↔i<k+1∧P)∨i=k:=fun P=>by
   by_cases e:i=k
   ·exact .inr e
   ·exact .inl ⟨fun h=>⟨by omega,h.2⟩,fun h=>⟨by omega,h.2⟩⟩
  unfold BT;split
  ·rename_i l U;split
   ·rename_i V;rw [Nat.testBit_or,Bool.or_eq_true,ag,hb,decide_eq_true_iff];constructor
    ·rintro(⟨O,K⟩ | rfl)
     ·exact⟨by omega,K⟩
     ·exact⟨by omega,l,U,V.1,V.2⟩
    ·rintro⟨O,K⟩;by_cases e:i=k
     ·exact .inr e
     ·exact .inl ⟨by omega,K⟩
   ·rename_i V;rw [ag];constructor
    ·rintro⟨O,K⟩;exact⟨by omega,K⟩
    ·rintro⟨O,al,K,Y,Z⟩;by_cases e:i=k
     ·subst e;rw [U] at K;cases K;exact absurd ⟨Y,Z⟩ V
     ·exact⟨by omega,al,K,Y,Z⟩
  ·rename_i U;rw [ag];constructor
   ·rintro⟨O,K⟩;exact⟨by omega,K⟩
   ·rintro⟨O,al,K,Y,Z⟩;by_cases e:i=k
    ·subst e;rw [U] at K;cases K
    ·exact⟨by omega,al,K,Y,Z⟩
theorem XZ{F:Nat}{l:List Int}{x:Int}(V:100<F)(Y:l.length<100):A0 (f201 F l x) (fun r=>decide (0≤r)=decide (x∈l)):=by
 unfold f201;refine AE (S:=fun q=>match q with | Sum.inl r=>0≤r∧x∈l | Sum.inr _=>x ∉ l) ?_ ?_
 ·refine Cl l.length (fun i s=>s=(i:Int)∧x ∉ l.take i) ⟨rfl,by simp⟩ (by omega) ?_ ?_
  ·rintro i s hi ⟨rfl,K⟩;unfold MN;refine Bs (by omega) (Bl (m:=i) rfl hi ?_);refine Bn (fun h=>?_) (fun h=>?_)
   ·exact Ak ⟨by omega,by rw [h];exact List.getElem_mem hi⟩
   ·refine AW ((i+1:Nat):Int) (by simp) (by omega) (by omega) (Ak ⟨rfl,?_⟩);rw [List.take_add_one,List.getElem?_eq_getElem hi];simp only [Option.toList_some,List.mem_append,List.mem_singleton];rintro(O | O)
    ·exact K O
    ·exact h O
  ·rintro s ⟨rfl,K⟩;unfold MN;exact A5 (by omega) (Ak ⟨_,rfl,by simpa using K⟩)
 ·rintro(r | u) U
  ·exact Ak (by rw [decide_eq_true U.1,decide_eq_true U.2])
  ·exact Ak (by rw [decide_eq_false U];rfl)
theorem XY{F:Nat}{l:List Int}{x:Int}(K:100<F)(O:l.length<100):f199 F l x=some (decide (x∈l)):=by
 refine CE ?_;unfold f199;refine AE (XZ K O) ?_;intro r U;exact Ak U
theorem Xn{F n m:Nat}{J:JW}{A:List Nat}{s:Int}(U:100<F)(O:VJ n J)(hm:m<n):f192 F (J.1,J.2,A) (m:Int) s=some (if(m:Int)=s then some ((m:Int),none) else if s∈J.2.getD m [] then some ((m:Int),some s) else none):=by
 have Y:=O.l2;refine CE ?_;unfold f192;refine Bn (fun h=>?_) (fun h=>?_)
 ·rw [if_pos h];exact Ak rfl
 ·rw [if_neg h];have V:J.2[m]? =some (J.2.getD m []):=by rw [List.getD_eq_getElem?_getD,List.getElem?_eq_getElem (by omega)];rfl
  refine AM (D6 (m:=m) rfl V) (AM (XY U (by have:=(O.PM m).len;omega)) ?_);refine Bn (fun K=>?_) (fun K=>?_)
  ·rw [if_pos (of_decide_eq_true K)];exact Ak rfl
  ·rw [if_neg (of_decide_eq_false (by simpa using K))];exact Ak rfl
theorem W7{F n m y:Nat}{J:JW}{A:List Nat}{lk:Bb}{age:Int}{ms:List Int}{fl:Nat}(al:100<F)(am:VJ n J)(ap:B8 n lk)(hm:m<n):
  Lw F ((J.1,J.2,A),lk,age,ms,fl) (y:Int) (m:Int)=some (if EI J lk y (m:Int)=true then(BT lk y (m:Int) lk.length,true) else(0,false)):=by
 have a2:=ap.len;refine CE ?_;unfold Lw;refine AE (S:=fun q=>(EI J lk y (m:Int)=true∧q=Sum.inr (BT lk y (m:Int) lk.length))∨(EI J lk y (m:Int)=false∧q=Sum.inl (0,false))) ?_ ?_
 ·refine Cl lk.length (fun i s=>s=(BT lk y (m:Int) i,(i:Int))∧∀l∈lk.take i,(decide (l.1≠(y:Int)) || Fe J (m:Int) l)=true) ⟨rfl,by simp⟩ (by omega) ?_ ?_
  ·rintro i s hi ⟨rfl,K⟩;unfold Mz;have av:=Nw lk y (m:Int) i (by omega);have hg:lk[i]? =some lk[i]:=List.getElem?_eq_getElem hi;have step:∀(l:Int×Int),l=lk[i]→(decide (l.1≠(y:Int)) || Fe J (m:Int) l)=true→∀O∈lk.take (i+1),(decide (O.1≠(y:Int)) || Fe J (m:Int) O)=true:=by
    rintro l rfl a0 O V;rw [List.take_add_one,hg] at V;simp only [Option.toList_some,List.mem_append,List.mem_singleton] at V;rcases V with h | rfl
    ·exact K O h
    ·exact a0
   have Y:BT lk y (m:Int) (i+1)=if lk[i].1=(y:Int)∧(m:Int)≠lk[i].2 then BT lk y (m:Int) i ||| 1<<<i else BT lk y (m:Int) i:=by
    rw [BT,hg]
   refine Bs (by simp only;omega) (AE (S:=fun q=>(q=Sum.inr (BT lk y (m:Int) (i+1))∧(decide (lk[i].1≠(y:Int)) || Fe J (m:Int) lk[i])=true)∨(q=Sum.inl (0,false)∧(decide (lk[i].1≠(y:Int)) || Fe J (m:Int) lk[i])=false)) ?_ ?_)
   ·refine Bl (m:=i) rfl hi (Bn (fun h=>?_) (fun h=>?_))
    ·refine Ak (.inl ⟨?_,by rw [decide_eq_true h];rfl⟩);rw [Y,if_neg (fun Z=>h Z.1)]
    ·have a1:lk[i].1=(y:Int):=by simpa using h
     refine AM (Xn al am hm) ?_;by_cases e:(m:Int)=lk[i].2
     ·rw [if_pos e];refine AE (S:=fun q=>q=Sum.inr (BT lk y (m:Int) i)) (Bs rfl (Ak rfl)) ?_;rintro q rfl;refine Ak (.inl ⟨?_,by unfold Fe;rw [decide_eq_true e];simp⟩);rw [Y,if_neg (fun Z=>Z.2 e)]
     ·rw [if_neg e];by_cases U:lk[i].2∈J.2.getD m []
      ·rw [if_pos U];refine AE (S:=fun q=>q=Sum.inr (BT lk y (m:Int) i ||| 1<<<i)) ?_ ?_
       ·refine A5 (by simp [J7]) (Bs rfl ?_);refine AM (O8 F av (by omega)) (Ak rfl)
       ·rintro q rfl;refine Ak (.inl ⟨?_,by unfold Fe;rw [show((m:Int)).toNat=m by omega,decide_eq_true U];simp⟩);rw [Y,if_pos ⟨a1,e⟩]
      ·rw [if_neg U];refine AE (S:=fun q=>q=Sum.inl (0,false)) ?_ ?_
       ·exact A5 (by simp [J7]) (A5 (by simp [LG]) (Ak rfl))
       ·rintro q rfl;refine Ak (.inr ⟨rfl,?_⟩);unfold Fe;rw [show((m:Int)).toNat=m by omega,decide_eq_false U,decide_eq_false e,decide_eq_false h];rfl
   ·rintro q (⟨rfl,ag⟩ | ⟨rfl,ag⟩)
    ·rw [Sum.elim_inr];exact AW ((i+1:Nat):Int) (by simp) (by omega) (by omega) (Ak ⟨rfl,step _ rfl ag⟩)
    ·rw [Sum.elim_inl];refine Ak (.inr ⟨?_,rfl⟩);unfold EI;rw [List.all_eq_false];exact⟨lk[i],List.getElem_mem hi,by rw [ag];simp⟩
  ·rintro s ⟨rfl,K⟩;unfold Mz;refine A5 (by simp only;omega) (Ak ⟨_,rfl,.inl ⟨?_,rfl⟩⟩);rw [List.take_length] at K;unfold EI;exact List.all_eq_true.2 K
 ·rintro q (⟨h,rfl⟩ | ⟨h,rfl⟩)
  ·rw [Sum.elim_inr,if_pos h];exact Ak rfl
  ·rw [Sum.elim_inl,if_neg (by rw [h];simp)];exact Ak rfl
theorem Xe{F n m:Nat}{J:JW}{A:List Nat}{lk:Bb}{age:Int}{ms:List Int}{fl:Nat}(O:100<F)(U:VJ n J)(K:B8 n lk)(hm:m<n)(Z:ms.length<100)(V:fl<65536):
  LF F (J.1,J.2,A) lk age ms fl (m:Int)=some (if EI J lk ms.length (m:Int)=true then some (ms++ [(m:Int)],fl ||| BT lk ms.length (m:Int) lk.length) else none):=by
 refine CE ?_;unfold LF;refine AM (W7 O U K hm) ?_;have Y:=Nw lk ms.length (m:Int) lk.length (by have:=K.len;omega);by_cases h:EI J lk ms.length (m:Int)=true
 ·rw [if_pos h,if_pos h];refine A5 (by simp) (AM (b:=ms) ?_ ?_)
  ·unfold f175 Lq;have:De ([]:List Int) ms=some ms:=by unfold De;rw [if_pos (by simp;omega)];rfl
   rw [this];rfl
  ·refine AM (b:=ms++ [(m:Int)]) ?_ ?_
   ·unfold De;rw [if_pos (by simp;omega)]
   ·exact AM (if_pos ⟨V,Y⟩) (Ak rfl)
 ·rw [if_neg h,if_neg h];exact Bs rfl (Ak rfl)
end Pal
namespace Pal
def D2(J:JW)(lk:Bb):Nat→Nat→List Int→Nat→List (List Int×Nat)
 | 0,_,ms,fl=> [(ms,fl)]
 | k+1,sm,ms,fl=>(Cm sm 16).flatMap fun m=>if EI J lk ms.length m=true then D2 J lk k (CS (J.1.getD m.toNat [])) (ms++ [m]) (fl ||| BT lk ms.length m lk.length) else []
theorem Mt(s:Nat):(Cm s 16).length≤16:=Kt s 16
theorem Ks{α β:Type}{f:α→List β}{b:Nat}:∀{l:List α},(∀x∈l,(f x).length≤b)→(l.flatMap f).length≤l.length*b
 | [],_=>by simp
 | x::l,h=>by
  have O:=h x (by simp)
  have U:=Ks (l:=l) (fun y K=>h y (by simp [K]))
  simp only [List.flatMap_cons,List.length_append,List.length_cons,Nat.succ_mul]
  omega
theorem MJ(J:JW)(lk:Bb):∀k sm ms fl,(D2 J lk k sm ms fl).length≤16 ^ k
 | 0,_,_,_=>by simp [D2]
 | k+1,sm,ms,fl=>by
  unfold D2
  refine Nat.le_trans (Ks (b:=16 ^ k) fun m _=>?_) ?_
  ·split
   ·exact MJ J lk k _ _ _
   ·simp
  ·rw [Nat.pow_succ,Nat.mul_comm];exact Nat.mul_le_mul_left _ (Mt sm)
theorem V7{k:Nat}(h:k≤7):16 ^ k≤268435456:=Nat.le_trans (Nat.pow_le_pow_right (by omega) h) (by decide)
theorem QK{α β:Type}{step:List β→α→Option (List β)}{f:α→List β}:∀{l:List α} {ac:List β},(∀(l1 l2:List α) x,l=l1++x::l2→step (ac++l1.flatMap f) x=some (ac++(l1++ [x]).flatMap f))→Fu step l ac=some (ac++l.flatMap f)
 | [],ac,_=>by simp [Fu]
 | x::l,ac,h=>by
  have K:=h [] l x rfl
  simp only [List.flatMap_nil,List.append_nil,List.nil_append] at K
  unfold Fu
  rw [K]
  simp only [Option.bind_some]
  rw [QK (f:=f) (ac:=ac++ [x].flatMap f) (l:=l) ?_]
  ·simp
  ·intro l1 l2 y O;have:=h (x::l1) l2 y (by rw [O];rfl);simp only [List.flatMap_cons,List.flatMap_nil,List.append_nil,List.cons_append,List.append_assoc] at this ⊢;simpa using this
theorem Uz{α β:Type}{step:List β→α→Option (List β)}{f:α→List β}{l:List α}{ac:List β}(h:∀(l1 l2:List α) x,l=l1++x::l2→step (ac++l1.flatMap f) x=some (ac++l1.flatMap f++f x)):Fu step l ac=some (ac++l.flatMap f):=
 QK fun l1 l2 x e=>by rw [h l1 l2 x e];simp
theorem Zn{F n:Nat}{J:JW}{A:List Nat}{lk:Bb}{age:Int}{ok:List (List Int×Nat)→Bool}(Z:100<F)(O:VJ n J)(U:B8 n lk)(a7:∀l:List (List Int×Nat),l.length≤16 ^ 7→(∀x∈l,x.2<65536)→ok l=true):
  ∀(k g sm:Nat) (ms:List Int) (fl:Nat) (ac:List (List Int×Nat)),ms.length+k=CU lk+1→k<g→sm<2 ^ n→fl<65536→ac.length+16 ^ k≤16 ^ 7→(∀x∈ac,x.2<65536)→
   IN ok F (J.1,J.2,A) lk age g sm ms fl ac=some (ac++D2 J lk k sm ms fl)∧∀x∈D2 J lk k sm ms fl,x.2<65536:=by
 have bu:=It U;have a8:=O.le;have bv:=R3 a8;intro k
 induction k with
 | zero=>
  intro g sm ms fl ac a9 hg av V hlen ag;obtain⟨g,rfl⟩:∃g',g=g'+1:=⟨g - 1,by omega⟩;refine⟨?_,fun x K=>by simp [D2] at K;subst K;exact V⟩;unfold IN;have al:Jk F (J.1,J.2,A) lk age ms fl sm=some none:=by
   unfold Jk;rw [QX U];simp only [Option.bind_some];rw [if_pos (by omega)]
  rw [al];simp only [Option.bind_some,Kg];rw [if_pos]
  ·rfl
  ·refine a7 _ (by simpa using hlen) fun x K=>?_;rcases List.mem_append.1 K with K | K
   ·exact ag x K
   ·simp at K;subst K;exact V
 | succ k a0=>
  intro g sm ms fl ac a9 hg av V hlen ag;obtain⟨g,rfl⟩:∃g',g=g'+1:=⟨g - 1,by omega⟩;have bw:ms.length≤6:=by omega
  have bx:=Mt sm;have a1:∀m∈Cm sm 16,∃q:Nat,m=(q:Int)∧q<n:=fun m hm=>by
   obtain⟨q,_,q2,bb⟩:=Io.1 hm;exact⟨q,bb,I2 av q2⟩
  have a2:∀m:Int,fl ||| BT lk ms.length m lk.length<65536:=fun m=>ND V (Nw _ _ _ _ (by have:=U.len;omega))
  have a3:∀q:Nat,q<n→CS (J.1.getD q [])<2 ^ n:=fun q Y=>by
   rcases Nat.lt_or_ge (CS (J.1.getD q [])) (2 ^ n) with h | h
   ·exact h
   ·obtain⟨i,bz,a4⟩:=Nat.exists_ge_and_testBit_of_ge_two_pow h;rw [KB (fun x K=>((O.FR q).inr x K).1)] at a4;have:=(O.FR q).inr _ (of_decide_eq_true a4);omega
  have a5:∀m∈Cm sm 16,EI J lk ms.length m=true→∀x∈D2 J lk k (CS (J.1.getD m.toNat [])) (ms++ [m]) (fl ||| BT lk ms.length m lk.length),x.2<65536:=fun m hm hb=>by
   obtain⟨q,rfl,Y⟩:=a1 m hm;have bd:16 ^ k≤16 ^ 7:=Nat.pow_le_pow_right (by omega) (by omega);exact(a0 (k+1) _ _ _ [] (by simp;omega) (by omega) (a3 q Y) (a2 _) (by simpa using bd) (fun x K=>by simp at K)).2
  constructor
  ·unfold IN;have al:Jk F (J.1,J.2,A) lk age ms fl sm=some (some (Cm sm 16)):=by
    unfold Jk;rw [QX U];simp only [Option.bind_some];rw [if_neg (by omega),Nc Z (by omega)];rfl
   rw [al];simp only [Option.bind_some,Kg];rw [if_pos (by omega)];have e:D2 J lk (k+1) sm ms fl=(Cm sm 16).flatMap fun m=>if EI J lk ms.length m=true then D2 J lk k (CS (J.1.getD m.toNat [])) (ms++ [m]) (fl ||| BT lk ms.length m lk.length) else []:=rfl
   rw [e];refine Uz fun l1 l2 m hm=>?_;have be:m∈Cm sm 16:=by rw [hm];simp
   obtain⟨q,rfl,Y⟩:=a1 m be;unfold Px;rw [Xe Z O U Y (by omega) V];simp only [Option.bind_some];by_cases hb:EI J lk ms.length (q:Int)=true
   ·rw [if_pos hb,if_pos hb];simp only;have bi:LM F (J.1,J.2,A) lk age (ms++ [(q:Int)]) (fl ||| BT lk ms.length (q:Int) lk.length) (q:Int)=some (CS (J.1.getD q [])):=by
     unfold LM;have bn:J.1[q]? =some (J.1.getD q []):=by rw [List.getD_eq_getElem?_getD,List.getElem?_eq_getElem (by have:=O.l1;omega)];rfl
     have a6:=O.FR q;rw [D6 (m:=q) rfl bn];simp only [Option.bind_some];rw [RB Z (by have:=a6.len;omega) (fun x K=>by have:=a6.inr x K;omega)];rfl
    rw [bi];simp only [Option.bind_some];have bo:l1.length+1≤16:=by
     have:=congrArg List.length hm;simp at this;omega
    have bA:(l1.flatMap fun m=>if EI J lk ms.length m=true then D2 J lk k (CS (J.1.getD m.toNat [])) (ms++ [m]) (fl ||| BT lk ms.length m lk.length) else []).length≤l1.length*16 ^ k:=Ks fun y _=>by
     split
     ·exact MJ _ _ _ _ _ _
     ·simp
    have hmul:l1.length*16 ^ k+16 ^ k≤16 ^ (k+1):=by
     rw [Nat.pow_succ,← Nat.succ_mul,Nat.mul_comm _ 16];exact Nat.mul_le_mul_right _ bo
    have:=a0 g (CS (J.1.getD q [])) (ms++ [(q:Int)]) (fl ||| BT lk ms.length (q:Int) lk.length) (ac++l1.flatMap fun m=>if EI J lk ms.length m=true then D2 J lk k (CS (J.1.getD m.toNat [])) (ms++ [m]) (fl ||| BT lk ms.length m lk.length) else []) (by simp;omega) (by omega) (a3 q Y) (a2 _) (by rw [List.length_append];omega) ?_
    ·rw [this.1,show((q:Int)).toNat=q by omega]
    ·intro x K;rcases List.mem_append.1 K with K | K
     ·exact ag x K
     ·obtain⟨y,bp,am⟩:=List.mem_flatMap.1 K;have bq:y∈Cm sm 16:=by rw [hm];simp [bp]
      split at am
      ·rename_i br;exact a5 y bq br x am
      ·simp at am
   ·rw [if_neg hb,if_neg hb];simp
  ·intro x K;unfold D2 at K;obtain⟨m,hm,ap⟩:=List.mem_flatMap.1 K;split at ap
   ·rename_i hb;exact a5 m hm hb x ap
   ·simp at ap
end Pal
