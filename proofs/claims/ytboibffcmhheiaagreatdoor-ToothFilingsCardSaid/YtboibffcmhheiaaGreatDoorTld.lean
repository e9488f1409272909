/- toothFilings_card. Part 4 of 8. -/
import Derived.Test.YtboibffcmhheiaaGreatDoorTlb
import Derived.Test.YtboibffcmhheiaaGreatDoorTlc
import Derived.Conc.WgGenN3
import Derived.Sort.AssemblyPlain
import Derived.Sort.Walk13a
set_option linter.all false
set_option maxRecDepth 100000
namespace Pal
open Go Go.Conc Go.Proofs
open Go.Proofs.Tryz
noncomputable def Iv:Code:=match Tryz.f127.body with | some (.seq _ (.seq _ (.seq (.seq _ (.block _ (.rangeFunc _ _ a _))) _)))=>a | _=> .skip
noncomputable def Iu:Code:=match Tryz.f127.body with | some (.seq _ (.seq _ (.seq (.seq _ (.block _ (.rangeFunc _ _ _ b))) _)))=>b | _=> .skip
def add1(fuel:Nat)(age:Int)(q:Int×List (Ca))(x:List Int×Nat):Option (Int×List (Ca)):=
 (f130 fuel (age,x.1,x.2)).bind fun n=>IB fuel q.1 q.2 (age,x.1,x.2) n
def Ho(fuel:Nat)(age:Int)(ac:List (List Int×Nat)):Option (Int×List (Ca)):=Ft (add1 fuel age) ac (0,[])
def IP(fuel:Nat)(age:Int)(l K O:Nat)(T:Array Value)(ac:List (List Int×Nat))(E:LH)(X:Seg):Prop:=
 ∃q a c g,Ho fuel age ac=some q∧X=(l,.loop ⟨.ready,none,127,T,#[17],Iv,Iu,O⟩)::([(K,.cells #[iV age,iV q.1,.slice a q.2.length c] 133 (0,0))]++g)∧OL 104 Dp E a c g q.2
theorem IP.Ah{fuel:Nat}{age:Int}{l K O:Nat}{T:Array Value}:∀(ac:List (List Int×Nat)) (E E':LH) (X:Seg),Le E E'→IP fuel age l K O T ac E X→IP fuel age l K O T ac E' X:=
 fun ac E E' X hle ⟨q,a,c,g,U,V,Y⟩=>⟨q,a,c,g,U,V,Y.Ah hle⟩
theorem Qd{α B:Type}{step:B→α→Option B}:∀{l:List α} {x:α} {b:B},Ft step (l++ [x]) b=(Ft step l b).bind fun K=>step K x
 | [],x,b=>by simp [Ft]
 | y::l,x,b=>by
  simp only [List.cons_append,Ft]
  cases step b y with
  | none=>rfl
  | some K=>exact Qd
theorem Rr{J:Judge Tryz.prog}{fuel:Nat}{age:Int}{l K O:Nat}{T:Array Value}(aZ:Has Tryz.f127.ntmps [(6,pV K 0)] T){E:LH}{X:Seg}{ac:List (List Int×Nat)}{ms:List Int}{fl:Nat}{U:An}{V:Nat}(am:Al rI E U V ms)(a0:IP fuel age l K O T ac E X)(a1:(Ho fuel age (ac++ [(ms,fl)])).isSome=true):
  ET J (.func (.yield l) #[] #[]) [.agg #[iV age,.slice U ms.length V,uV fl]] E X (fun w E' a2=>w= .bool true∧IP fuel age l K O T (ac++ [(ms,fl)]) E' a2):=by
 obtain⟨q,a,c,g,ap,rfl,a3⟩:=a0;obtain⟨r,he⟩:=Option.isSome_iff_exists.1 a1;have av:add1 fuel age q (ms,fl)=some r:=by
  have Z:=he;unfold Ho at Z ap;rw [Qd,ap] at Z;exact Z
 refine ET.yield (i:=0) (t:=17) rfl rfl fun Q a4 cs H ag a5=>?_;refine(?_:JL J Q (S9 l 127) Tryz.f127.ntmps [(17,.agg #[iV age,.slice U ms.length V,uV fl]),(6,pV K 0)] [] [.code Iv,.beginRound,.code Iu] (a4::cs) _) _ (aZ.put (d:=some 17) rfl _);refine DG (S':= [[(l,.loop ⟨.ready,none,127,T,#[17],Iv,Iu,O⟩)],[(K,.cells #[iV age,iV q.1,.slice a q.2.length c] 133 (0,0))],g]) (by simp) ag fun ag=>?_;unfold add1 at av;refine JL.region (CF ag GR fun bl a6=>?_);refine BR 3 a6 Cs fun a7=>?_;refine CV 3 a7 rfl fun bm Y aY a8=>JL.done (JL.beginRound 0 rfl rfl a8 rfl rfl fun a9=>?_);refine JL.block (C6 4 fun ht=>?_);refine B8 0 ht underlying133 Dk rfl rfl rfl rfl (Fa 1 ht aY FT Cs rfl rfl rfl ?_);refine Fa 2 ht aY FT Cs rfl rfl rfl ?_;obtain⟨bn,ba,bb⟩:=bs av;refine JG.call (i:=3) (vs:= [.agg #[iV age,sV U ms V,uV fl]]) (ZF (p0:=(age,ms,fl)) (am.Ah Y) ba) (by decide+kernel) rfl rfl rfl (AS func130 rfl) rfl a9 ?_;rintro _ bo _ al ⟨rfl,rfl⟩ bc;refine Ci [4] (DG (S':= [[(l,.loop ⟨.busy,none,127,T,#[17],Iv,Iu,O⟩)],[(K,.cells #[iV age,iV q.1,.slice a q.2.length c] 133 (0,0))]++g]) (by simp) bc fun bd=>?_);refine BZ 1 (Zq ((a3.Ah (Y.Ab al))) (tr:=(age,ms,fl)) (am.Ah (Y.Ab al)) bb) rfl rfl (AS func122 rfl) bd rfl ?_;rintro _ bp _ be ⟨bf,bg,g',rfl,rfl,bh⟩ bi;refine zg 2 rfl (JL.endRound 0 rfl rfl bi rfl fun bj=>?_);exact a5 _ _ _ _ ((Y.Ab al).trans be) rfl ⟨rfl,r,bf,bg,g',he,by simp,bh⟩ bj
end Pal
namespace Pal
open Go Go.Conc Go.Proofs
open Go.Proofs.Tryz
open Go.Conc.Lib Go.ConcR.Gen
theorem Qt{J:Judge Tryz.prog}{E:LH}{bk:Nat}{age:Int}:AK J 129 [pV bk 0,iV age] E [] (fun w E' B'=>∃K O,w= .func (.func 152) #[] [pV K 0,pV O 0].toArray∧B'= []∧At E' K 0 [iV age]∧At E' O 0 [pV bk 0]):=by
 refine A3 func129 fun Q aZ cs H Z ag=>?_;refine zg 2 rfl (B4 Z fun U a0 al am ap=>?_);refine B4 ap fun V a1 Y av aY=>?_;refine zg 4 rfl (AD (v:= .func (.func 152) #[] ([pV V 0,pV U 0]:List Value).toArray) rfl (fun ρ h=>IL (by simp) (by simp [h (.tmp 3) _ rfl,h (.tmp 2) _ rfl])) ?_);refine zg 2 rfl (AA func129 rfl rfl ?_);exact ag (al.Ab Y) rfl ⟨V,U,rfl,by simp,av,(am.Ah Y)⟩ aY
def GA(fuel:Nat)(K:BT)(lk:AI)(age:Int):Option (Int×List (Ca)):=
 (J2 fuel K lk age).bind fun s=>(IE (fun ac=>(Ho fuel age ac).isSome) fuel K lk age fuel s [] 0 []).bind fun tr=>Ho fuel age tr
theorem VM{L:WgLink}(bb:WgLib Tryz.prog L)(bL:L.done=128){F:Fam}{j:Nat}{E:LH}{k1 o2:Nat}{bM bN O:An}{bO bP U:Nat}{bQ:List Value}{av:BT}{lk:AI}{age:Int}(bR:At E k1 o2 (([sV bM av.1 bO,sV bN av.2.1 bP]:List Value)++bQ))(bS:Al (rL rI) E bM bO av.1)(bT:Al (rL rI) E bN bP av.2.1)(bU:(rA 13 (rN .u16)).r E bQ av.2.2)(bV:Al Bo E O U lk){bc bd be ol ka aY kc ag:Nat}(b0:At E bc bd [pV k1 o2])(b1:At E be ol [.slice O lk.length U])(bh:At E ka aY [iV age])(bW:At E kc ag [.chan (some F.ch)])
  {fuel:Nat} {q:Int×List (Ca)} (bf:GA fuel av lk age=some q) (bg:F.has j=decide (0<q.2.length)) (bY:∀E' a c,Le E E'→Al Dp E' a c q.2→F.msg j (.agg #[iV age,iV q.1,.slice a q.2.length c]) E'):
  Way Tryz.prog false (Stop Tryz.prog F (F.start j)) (born Tryz.prog ⟨.fn (.func 127) [.pointer (some F.sA),pV bc bd,pV be ol,pV ka aY,pV kc ag].toArray,#[]⟩) ⟨E,fun _=>none,false⟩:=by
 refine Q3 (fn:=Tryz.f127) (vs:= [.pointer (some F.sA),pV bc bd,pV be ol,pV ka aY,pV kc ag]) func127 rfl rfl (by simp) (Nat.le_of_ble_eq_true rfl) ?_;obtain⟨H,b2⟩:∃H:LH,H=fun _=>none:=⟨_,rfl⟩;rw [← b2];have bZ:Aw E H []:=trivial;refine(?_:JL (Bz Tryz.prog false) (Stop Tryz.prog F (F.start j)) (baseD 127) Tryz.f127.ntmps (FK 0 [.pointer (some F.sA),pV bc bd,pV be ol,pV ka aY,pV kc ag]) [] [.code _] [HR Tryz.prog] (Ao E H []));refine zg 2 rfl (JL.defer (vs:= [.pointer (some F.sA)]) rfl rfl rfl rfl rfl ?_);refine zg 2 rfl (C6 8 fun ht=>?_);refine Cv 0 ht 0 b0 LU rfl rfl rfl rfl (Cv 1 ht 0 b1 HE rfl rfl rfl rfl ?_);refine BB (v:= .agg #[pV k1 o2,sV O lk U,iV 0,nS,uV 0]) 2 ht rfl rfl (fun ρ h s' hs=>Dg [(0,1),(1,1),(2,3)] h (Du type175) underlying175 ⟨rfl,Bu type94,rfl,Bu type25,rfl,Bu type104,trivial⟩ rfl rfl) (Cv 4 ht 0 bh Bv rfl rfl rfl rfl ?_);refine BB (v:= .agg #[iV age,iV 0,nS]) 5 ht rfl rfl (fun ρ h s' hs=>Dg [(0,1),(1,2)] h Ia underlying133 ⟨rfl,Bu type3,rfl,Bu type97,trivial⟩ rfl rfl) (I3 (i:=3) (j:=6) rfl (by decide+kernel) ?_ ?_)
 ·refine Take.Tm (v:= .agg #[pV k1 o2,sV O lk U,iV 0,nS,uV 0]) bZ rfl rfl rfl rfl fun aZ a1=>JG.one (i:=6) rfl (by decide+kernel) (Take.K0 a1 rfl rfl rfl Ia fun al a2=>?_);refine Cj 7 ht rfl rfl (Ci [8] ?_);refine Cq (S':= [[(aZ,.cells #[pV k1 o2,sV O lk U,iV 0,nS,uV 0] 175 (0,0))],[(al,.cells #[iV 0,iV 0,nS] 133 (0,0))]]) rfl a2 fun a3=>BR 1 a3 AR fun Z=>?_;refine zg 3 rfl (Cq (S':= [[(aZ,.cells #[pV k1 o2,.slice O lk.length U,iV 0,nS,uV 0] 175 (0,0))],[(al,.cells #[iV age,iV 0,nS] 133 (0,0))]]) rfl Z fun bi=>?_);refine Iy [(3,pV ka aY),(4,pV kc ag),(5,pV aZ 0),(6,pV al 0)] rfl ?_;have a4:Le E E:=Ar;refine zg 2 rfl (BY 0 (bh.Ah a4) Bv rfl rfl rfl ?_);refine BP Qt rfl rfl (AS func129 rfl) bi ?_;rintro _ b3 _ bj ⟨a5,a6,rfl,rfl,bl,bm⟩ a1;have V:=a4.Ab bj;refine zg 2 rfl (DG (S':= [[(aZ,.cells #[pV k1 o2,.slice O lk.length U,iV 0,nS,uV 0] 175 (0,0))],[(al,.cells #[iV age,iV 0,nS] 133 (0,0))]]) (by simp) a1 fun bn=>?_);refine JL.rangeFunc (caps:= [pV a5 0,pV a6 0]) rfl (by intro e;cases e) rfl (AS func152 rfl) bn fun Y l T a7 bo=>OA (S':= [[(aZ,.cells #[pV k1 o2,.slice O lk.length U,iV 0,nS,uV 0] 175 (0,0))]++([(l,.loop ⟨.ready,none,127,T,#[17],Iv,Iu,Y⟩)]++ [(al,.cells #[iV age,iV 0,nS] 133 (0,0))]),[(Y,.deferred (some []))]]) SB bo fun a2=>?_;unfold GA at bf;obtain⟨b4,bp,bq⟩:=Option.bind_eq_some_iff.1 bf;obtain⟨tr,br,bu⟩:=Option.bind_eq_some_iff.1 bq;refine Rc (vs:= [.func (.yield l) #[] #[],pV a5 0,pV a6 0]) 0 (QN (I:=IP fuel age l al Y T) (ok:=fun ac=>(Ho fuel age ac).isSome) (acc:= []) IP.Ah (bR.Ah V) (bS.Ah V) (bT.Ah V) (Rp.Ah _ V bU) (bV.Ah V) bm bl ⟨(0,[]),none,0,[],rfl,rfl,OL.nil⟩ (fun E' bv ac b5 b6 a c hle bw bx bz=>Rr (a7.sub ⟨rfl,trivial⟩) bw bx bz) bp br) a2 rfl ?_;rintro _ b7 _ bA ⟨bB,bC,bD,bv,rfl,rfl,K,a,c,g,bE,rfl,bF⟩ bG;obtain rfl:K=q:=Option.some.inj (bE.symm.trans bu);refine Sb (S':= [[(aZ,.cells #[pV k1 o2,.slice O lk.length U,bB,bC,bD] 175 (0,0))],[(l,.loop ⟨.ready,none,127,T,#[17],Iv,Iu,Y⟩)],[(al,.cells #[iV age,iV K.1,.slice a K.2.length c] 133 (0,0))],g,[(Y,.deferred (some []))]]) (by simp) bG fun a3=>P0 1 a3 rfl rfl rfl fun Z=>?_;refine(?_:JL (Bz Tryz.prog false) (Stop Tryz.prog F (F.start j)) (baseD 127) Tryz.f127.ntmps [(4,pV kc ag),(6,pV al 0)] [⟨.collected Y,#[]⟩,dcall 128 #[.pointer (some F.sA)]] _ [HR Tryz.prog] _) T (a7.sub ⟨rfl,rfl,trivial⟩);have a8:=V.Ab bA;have bH:dcall 128 #[.pointer (some F.sA)]=dcall L.done #[.pointer (some F.sA)]:=by rw [bL]
  rw [bH];refine zg 3 rfl (BJ underlying133 Dk rfl rfl rfl ?_);refine BJ underlying97 Dt rfl rfl rfl (AD (v:= .slice a K.2.length c) rfl (fun ρ h=>Yl.load EN (h _ _ rfl) (DU (j:=2) (off:=2) Z rfl rfl)) ?_);refine Bg underlying95 rfl rfl rfl (zg 2 rfl ?_);refine OJ (p:=0<((K.2).length:Int)) rfl (fun bI=>?_) (fun bI=>?_)
  ·have ap:F.start j= .Cz j:=by unfold Fam.start;rw [bg,decide_eq_true (show 0<K.2.length by omega)];rfl
   rw [ap];refine JL.region (BY 0 (bW.Ah a8) LS rfl rfl rfl ?_);refine B7 3 bF Z rfl fun b8 bJ bK a9=>AD rfl (fun ρ h=>FY (vs:= [iV age,iV K.1,.slice a K.2.length c]) Cp AR (h _ _ rfl) (FV (off:=0) 2 a9 rfl rfl)) (QH rfl rfl rfl rfl rfl rfl rfl (bY _ _ _ (a8.Ab bJ) bK) ?_);exact JL.done (JL.out rfl (JO.collected 4 rfl a9 rfl fun ba=>JO.Np bb rfl rfl (JO.leaveD rfl func127 rfl (.inr rfl) Km)))
  ·have ap:F.start j= .C5:=by unfold Fam.start;rw [bg,decide_eq_false (show ¬0<K.2.length by omega)];rfl
   rw [ap];exact JL.skip (JL.out rfl (JO.collected 4 rfl Z rfl fun ba=>JO.Np bb rfl rfl (JO.leaveD rfl func127 rfl (.inr rfl) Km)))
 ·refine Take.K0 bZ rfl rfl rfl Ia fun am ba=>JG.one (i:=3) rfl (by decide+kernel) (Take.Tm (v:= .agg #[pV k1 o2,sV O lk U,iV 0,nS,uV 0]) ba rfl rfl rfl rfl fun a0 b9=>?_);refine Cj 7 ht rfl rfl (Ci [8] ?_);refine Cq (S':= [[(am,.cells #[iV 0,iV 0,nS] 133 (0,0))],[(a0,.cells #[pV k1 o2,sV O lk U,iV 0,nS,uV 0] 175 (0,0))]]) rfl b9 fun ca=>BR 0 ca AR fun cb=>?_;refine zg 3 rfl (JS.perm (S':= [[(a0,.cells #[pV k1 o2,.slice O lk.length U,iV 0,nS,uV 0] 175 (0,0))],[(am,.cells #[iV age,iV 0,nS] 133 (0,0))]]) (List.Perm.swap _ _ _) cb fun bi=>?_);refine Iy [(3,pV ka aY),(4,pV kc ag),(5,pV a0 0),(6,pV am 0)] rfl ?_;have a4:Le E E:=Ar;refine zg 2 rfl (BY 0 (bh.Ah a4) Bv rfl rfl rfl ?_);refine BP Qt rfl rfl (AS func129 rfl) bi ?_;rintro _ b3 _ bj ⟨a5,a6,rfl,rfl,bl,bm⟩ a1;have V:=a4.Ab bj;refine zg 2 rfl (DG (S':= [[(a0,.cells #[pV k1 o2,.slice O lk.length U,iV 0,nS,uV 0] 175 (0,0))],[(am,.cells #[iV age,iV 0,nS] 133 (0,0))]]) (by simp) a1 fun bn=>?_);refine JL.rangeFunc (caps:= [pV a5 0,pV a6 0]) rfl (by intro e;cases e) rfl (AS func152 rfl) bn fun Y l T a7 bo=>OA (S':= [[(a0,.cells #[pV k1 o2,.slice O lk.length U,iV 0,nS,uV 0] 175 (0,0))]++([(l,.loop ⟨.ready,none,127,T,#[17],Iv,Iu,Y⟩)]++ [(am,.cells #[iV age,iV 0,nS] 133 (0,0))]),[(Y,.deferred (some []))]]) SB bo fun a2=>?_;unfold GA at bf;obtain⟨b4,bp,bq⟩:=Option.bind_eq_some_iff.1 bf;obtain⟨tr,br,bu⟩:=Option.bind_eq_some_iff.1 bq;refine Rc (vs:= [.func (.yield l) #[] #[],pV a5 0,pV a6 0]) 0 (QN (I:=IP fuel age l am Y T) (ok:=fun ac=>(Ho fuel age ac).isSome) (acc:= []) IP.Ah (bR.Ah V) (bS.Ah V) (bT.Ah V) (Rp.Ah _ V bU) (bV.Ah V) bm bl ⟨(0,[]),none,0,[],rfl,rfl,OL.nil⟩ (fun E' bv ac b5 b6 a c hle bw bx bz=>Rr (a7.sub ⟨rfl,trivial⟩) bw bx bz) bp br) a2 rfl ?_;rintro _ b7 _ bA ⟨bB,bC,bD,bv,rfl,rfl,K,a,c,g,bE,rfl,bF⟩ bG;obtain rfl:K=q:=Option.some.inj (bE.symm.trans bu);refine Sb (S':= [[(a0,.cells #[pV k1 o2,.slice O lk.length U,bB,bC,bD] 175 (0,0))],[(l,.loop ⟨.ready,none,127,T,#[17],Iv,Iu,Y⟩)],[(am,.cells #[iV age,iV K.1,.slice a K.2.length c] 133 (0,0))],g,[(Y,.deferred (some []))]]) (by simp) bG fun a3=>P0 1 a3 rfl rfl rfl fun Z=>?_;refine(?_:JL (Bz Tryz.prog false) (Stop Tryz.prog F (F.start j)) (baseD 127) Tryz.f127.ntmps [(4,pV kc ag),(6,pV am 0)] [⟨.collected Y,#[]⟩,dcall 128 #[.pointer (some F.sA)]] _ [HR Tryz.prog] _) T (a7.sub ⟨rfl,rfl,trivial⟩);have a8:=V.Ab bA;have bH:dcall 128 #[.pointer (some F.sA)]=dcall L.done #[.pointer (some F.sA)]:=by rw [bL]
  rw [bH];refine zg 3 rfl (BJ underlying133 Dk rfl rfl rfl ?_);refine BJ underlying97 Dt rfl rfl rfl (AD (v:= .slice a K.2.length c) rfl (fun ρ h=>Yl.load EN (h _ _ rfl) (DU (j:=2) (off:=2) Z rfl rfl)) ?_);refine Bg underlying95 rfl rfl rfl (zg 2 rfl ?_);refine OJ (p:=0<((K.2).length:Int)) rfl (fun bI=>?_) (fun bI=>?_)
  ·have ap:F.start j= .Cz j:=by unfold Fam.start;rw [bg,decide_eq_true (show 0<K.2.length by omega)];rfl
   rw [ap];refine JL.region (BY 0 (bW.Ah a8) LS rfl rfl rfl ?_);refine B7 3 bF Z rfl fun b8 bJ bK a9=>AD rfl (fun ρ h=>FY (vs:= [iV age,iV K.1,.slice a K.2.length c]) Cp AR (h _ _ rfl) (FV (off:=0) 2 a9 rfl rfl)) (QH rfl rfl rfl rfl rfl rfl rfl (bY _ _ _ (a8.Ab bJ) bK) ?_);exact JL.done (JL.out rfl (JO.collected 4 rfl a9 rfl fun ba=>JO.Np bb rfl rfl (JO.leaveD rfl func127 rfl (.inr rfl) Km)))
  ·have ap:F.start j= .C5:=by unfold Fam.start;rw [bg,decide_eq_false (show ¬0<K.2.length by omega)];rfl
   rw [ap];exact JL.skip (JL.out rfl (JO.collected 4 rfl Z rfl fun ba=>JO.Np bb rfl rfl (JO.leaveD rfl func127 rfl (.inr rfl) Km)))
end Pal
namespace Go.Proofs
abbrev Tryz.link:Go.Conc.Lib.WgLink:={add:=126,done:=128,wait:=132,relMerge:=139,disable:=140,enable:=141,inBubble:=142,associate:=143,fatal:=144,uOr:=145,uAdd:=146,raceRead:=147,uLoad:=148,uStore:=149,disassociate:=150,semrelease:=151,acquire:=157,isAssociated:=158,uCas:=159,raceWrite:=160,semacquire:=161,orU64:=170,addU64:=171,loadU64:=172,storeU64:=173,casU64:=177,tWgP:=189,tUP:=191,tAssoc:=192,tWg:=171,tAU:=168,tU64:=90,tUint:=156,tU32:=169,tPU32:=196,tPAU:=221,tPU64:=223,tNoCopy:=164,tANoCopy:=165,tAlign64:=166}
theorem Tryz.O5:Go.Conc.Lib.WgLib Tryz.prog Tryz.link:=
 ⟨Tryz.func126,Tryz.func128,Tryz.func132,Tryz.func139,Tryz.func140,Tryz.func141,Tryz.func142,Tryz.func143,Tryz.func144,Tryz.func145,Tryz.func146,Tryz.func147,Tryz.func148,Tryz.func149,Tryz.func150,Tryz.func151,Tryz.func157,Tryz.func158,Tryz.func159,Tryz.func160,Tryz.func161,Tryz.func170,Tryz.func171,Tryz.func172,Tryz.func173,Tryz.func177,Tryz.underlying189,Tryz.runUnderlying189,Tryz.sizeOf189,Tryz.isAgg189,Tryz.zeroValue189,Tryz.underlying191,Tryz.runUnderlying191,Tryz.sizeOf191,Tryz.isAgg191,Tryz.zeroValue191,Tryz.underlying192,Tryz.runUnderlying192,Tryz.sizeOf192,Tryz.isAgg192,Tryz.zeroValue192,Tryz.underlying171,Tryz.runUnderlying171,Tryz.sizeOf171,Tryz.isAgg171,Tryz.zeroValue171,Tryz.underlying168,Tryz.runUnderlying168,Tryz.sizeOf168,Tryz.isAgg168,Tryz.zeroValue168,Tryz.underlying90,Tryz.runUnderlying90,Tryz.sizeOf90,Tryz.isAgg90,Tryz.zeroValue90,Tryz.underlying156,Tryz.runUnderlying156,Tryz.sizeOf156,Tryz.isAgg156,Tryz.zeroValue156,Tryz.underlying169,Tryz.runUnderlying169,Tryz.sizeOf169,Tryz.isAgg169,Tryz.zeroValue169,Tryz.underlying196,Tryz.runUnderlying196,Tryz.sizeOf196,Tryz.isAgg196,Tryz.zeroValue196,Tryz.underlying221,Tryz.runUnderlying221,Tryz.sizeOf221,Tryz.isAgg221,Tryz.zeroValue221,Tryz.underlying223,Tryz.runUnderlying223,Tryz.sizeOf223,Tryz.isAgg223,Tryz.zeroValue223,Tryz.underlying0,Tryz.runUnderlying0,Tryz.sizeOf0,Tryz.isAgg0,Tryz.zeroValue0,Tryz.underlying3,Tryz.runUnderlying3,Tryz.sizeOf3,Tryz.isAgg3,Tryz.zeroValue3,Tryz.underlying4,Tryz.runUnderlying4,Tryz.sizeOf4,Tryz.isAgg4,Tryz.zeroValue4,Tryz.underlying9,Tryz.runUnderlying9,Tryz.sizeOf9,Tryz.isAgg9,Tryz.zeroValue9,Tryz.underlying20,Tryz.runUnderlying20,Tryz.sizeOf20,Tryz.isAgg20,Tryz.zeroValue20,Tryz.underlying21,Tryz.runUnderlying21,Tryz.sizeOf21,Tryz.isAgg21,Tryz.zeroValue21,(by decide+kernel),(by decide+kernel)⟩
end Go.Proofs
namespace Pal
open Go Go.Conc Go.Proofs Go.Conc.Lib Go.ConcR.Gen
theorem V7{F:Fam}(O:F.n<2147483648){E:LH}{kc K:Nat}(U:At E kc K [.chan (some F.ch)]):Way Tryz.prog false (Stop Tryz.prog F .C7) (born Tryz.prog ⟨.fn (.func 131) [.pointer (some F.sA),pV kc K].toArray,#[]⟩) ⟨E,fun _=>none,false⟩:=by
 refine Q3 (fn:=Tryz.f131) (vs:= [.pointer (some F.sA),pV kc K]) Tryz.func131 rfl rfl (by simp) (Nat.le_of_ble_eq_true rfl) ?_;obtain⟨H,V⟩:∃H:LH,H=fun _=>none:=⟨_,rfl⟩;rw [← V];refine(?_:JL (Bz Tryz.prog false) (Stop Tryz.prog F .C7) (baseD 131) Tryz.f131.ntmps (FK 0 [.pointer (some F.sA),pV kc K]) [] [.code _] [HR Tryz.prog] (Ao E H []));refine zg 2 rfl (JL.wait Tryz.O5 O rfl rfl rfl rfl rfl ?_);refine zg 2 rfl (BY 0 U LS rfl rfl rfl ?_);refine UB rfl rfl rfl rfl rfl rfl rfl (JL.done ?_);exact JL.out rfl (JO.leaveD rfl Tryz.func131 rfl (.inr rfl) Km)
end Pal
namespace Pal
open Go Go.Conc Go.Proofs
open Go.Proofs.Tryz
open Go.Conc.Lib Go.ConcR.Gen
noncomputable def I4:Code:=match Tryz.f102.body with | some (.seq _ (.seq _ (.seq _ (.seq (.seq _ (.block _ (.loop c))) _))))=>c | _=> .skip
theorem Um{F:Fam}(bq:F.n=13){E:LH}{k1 o2:Nat}{ap av aY:An}{aZ a0 a1:Nat}{a2:List Value}{O:BT}{lk:AI}(a4:At E k1 o2 (([sV ap O.1 aZ,sV av O.2.1 a0]:List Value)++a2))(a5:Al (rL rI) E ap aZ O.1)(a6:Al (rL rI) E av a0 O.2.1)(a7:(rA 13 (rN .u16)).r E a2 O.2.2)(a8:Al Bo E aY a1 lk){V Y Z ol kc ag:Nat}(a9:At E V Y [pV k1 o2])(ba:At E Z ol [.slice aY lk.length a1])(bb:At E kc ag [.chan (some F.ch)]){fuel:Nat}{qs:Nat→Int×List (Ca)}(bc:∀j,j<13→GA fuel O lk ((j:Nat):Int)=some (qs j))(bd:∀j,j<13→F.has j=decide (0<(qs j).2.length))(be:∀j,j<13→∀E' a c,Al Dp E' a c (qs j).2→F.msg j (.agg #[iV ((j:Nat):Int),iV (qs j).1,.slice a (qs j).2.length c]) E'){j:Nat}(al:j<13){am H:LH}(hle:Le E am)(bf:Aw am H []){k:List Item}{cs:List Frame}
  (h:∀U,Le E U→Aw U H []→JL (Bz Tryz.prog true) (Stop Tryz.prog F (F.DN j)) (base 102) Tryz.f102.ntmps [(2,pV V Y),(3,pV Z ol),(5,pV kc ag),(6,.pointer (some F.sA)),(11,iV ((j+1:Nat):Int))] [] (.inLoop I4::k) cs (Ao U H [])):
  JL (Bz Tryz.prog true) (Stop Tryz.prog F (.Fw j)) (base 102) Tryz.f102.ntmps [(2,pV V Y),(3,pV Z ol),(5,pV kc ag),(6,.pointer (some F.sA)),(11,iV ((j:Nat):Int))] [] (.code I4:: .inLoop I4::k) cs (Ao am H []):=by
 refine zg 5 rfl ?_;rw [decide_eq_true (show((j:Nat):Int)<13 by omega)];refine zg 7 rfl (CF bf CM fun bg bh=>?_);refine BR 0 bh AW fun bi=>?_;refine CV 0 bi rfl fun U bj bl bm=>DG (S':= []) (by simp) bm fun bn=>?_;have K:=hle.trans bj;refine zg 3 rfl (UL Tryz.O5 rfl rfl rfl rfl rfl rfl ?_);refine zg 2 rfl (AD (v:= .func (.func 127) #[] ([.pointer (some F.sA),pV V Y,pV Z ol,pV bg 0,pV kc ag]:List Value).toArray) rfl (fun ρ h=>IL (by simp) (by simp [h (.tmp 6) _ rfl,h (.tmp 2) _ rfl,h (.tmp 3) _ rfl,h (.tmp 7) _ rfl,h (.tmp 5) _ rfl])) ?_);have a3:=VM Tryz.O5 rfl (F:=F) (j:=j) (a4.Ah K) (a5.Ah K) (a6.Ah K) (Rp.Ah _ K a7) (a8.Ah K) (a9.Ah K) (ba.Ah K) bl (bb.Ah K) (bc j al) (bd j al) (fun E' a c _ bo=>be j al E' a c bo);refine Yh (fi:= #[]) rfl rfl rfl rfl rfl rfl rfl (by first | exact a3 | (simp only [List.append_toArray,List.nil_append,Array.append_empty,Array.empty_append];exact a3)) ?_
 refine zg 3 rfl ?_;have bp:As (((j:Nat):Int)+1)=some (((j+1:Nat)):Int):=by unfold As;rw [if_pos (by omega)];simp
 refine Bc bp rfl rfl rfl (zg 2 rfl ?_);exact Az (h U K bn) rfl
theorem Vj{F:Fam}(V:F.n=13){E:LH}{k1 o2:Nat}{am ap av:An}{aY aZ a0:Nat}{a1:List Value}{K:BT}{lk:AI}(a4:At E k1 o2 (([sV am K.1 aY,sV ap K.2.1 aZ]:List Value)++a1))(a5:Al (rL rI) E am aY K.1)(a6:Al (rL rI) E ap aZ K.2.1)(a7:(rA 13 (rN .u16)).r E a1 K.2.2)(a8:Al Bo E av a0 lk){Y Z ag ol kc al:Nat}(a9:At E Y Z [pV k1 o2])(ba:At E ag ol [.slice av lk.length a0])(bb:At E kc al [.chan (some F.ch)]){fuel:Nat}{qs:Nat→Int×List (Ca)}(bc:∀j,j<13→GA fuel K lk ((j:Nat):Int)=some (qs j))(bd:∀j,j<13→F.has j=decide (0<(qs j).2.length))(be:∀j,j<13→∀E' a c,Al Dp E' a c (qs j).2→F.msg j (.agg #[iV ((j:Nat):Int),iV (qs j).1,.slice a (qs j).2.length c]) E'){H:LH}{k:List Item}{cs:List Frame}
  (h:∀O,Le E O→Aw O H []→JL (Bz Tryz.prog true) (Stop Tryz.prog F .FM) (base 102) Tryz.f102.ntmps [(2,pV Y Z),(3,pV ag ol),(5,pV kc al),(6,.pointer (some F.sA)),(11,iV 13)] [] (.code I4:: .inLoop I4::k) cs (Ao O H [])):
  ∀(m j:Nat),j+m=13→0<m→∀U,Le E U→Aw U H []→JL (Bz Tryz.prog true) (Stop Tryz.prog F (.Fw j)) (base 102) Tryz.f102.ntmps [(2,pV Y Z),(3,pV ag ol),(5,pV kc al),(6,.pointer (some F.sA)),(11,iV ((j:Nat):Int))] [] (.code I4:: .inLoop I4::k) cs (Ao U H []):=by
 intro m
 induction m with
 | zero=>intro j _ bf;cases bf
 | succ m bg=>
  intro j bj _ U hle bh;refine Um V a4 a5 a6 a7 a8 a9 ba bb bc bd be (by omega) hle bh fun O a2 a3=>JL.again ?_;by_cases hm:m=0
  ·subst hm;have bi:j=12:=by omega
   subst bi;have e:F.DN 12= .FM:=by unfold Fam.DN;rw [V];rfl
   rw [e];exact h O a2 a3
  ·have e:F.DN j= .Fw (j+1):=by unfold Fam.DN;rw [V,if_neg (by omega)]
   rw [e];exact bg (j+1) (by omega) (by omega) O a2 a3
end Pal
namespace Pal
open Go Go.Conc Go.Proofs
open Go.Proofs.Tryz
open Go.Conc.Lib Go.ConcR.Gen
noncomputable def SZ:Code:=match Tryz.f102.body with | some (.seq _ (.seq _ (.seq _ (.seq _ (.seq _ (.seq _ (.seq (.seq _ (.block _ (.loop c))) _)))))))=>c | _=> .skip
def partOf(qs:Nat→Int×List (Ca))(k:Nat):(Bs):=(((k:Nat):Int),(qs k).1,(qs k).2)
theorem ZN{K:List Nat}{kk n:Nat}(O:kk<n)(U:kk ∉ K):((List.range n).filter (fun x=> !(K++ [kk]).contains x)).length<((List.range n).filter (fun x=> !K.contains x)).length:=by
 have e:(List.range n).filter (fun x=> !(K++ [kk]).contains x)=((List.range n).filter (fun x=> !K.contains x)).filter (fun x=>x != kk):=by
  rw [List.filter_filter];apply List.filter_congr;intro x _;by_cases V:x∈K <;> by_cases Y:x=kk <;> simp [V,Y]
 rw [e];apply List.length_filter_lt_length_iff_exists.2;exact⟨kk,by simp [O,U],by simp⟩
theorem Vk{F:Fam}(ag:F.n=13){Q:GP}(a4:∀g s,(DI Tryz.prog).ok Q g s→F.fin g s){qs:Nat→Int×List (Ca)}(a5:∀kk v E',F.msg kk v E'→∃a c,v= .agg #[iV ((kk:Nat):Int),iV (qs kk).1,.slice a (qs kk).2.length c]∧Al Dp E' a c (qs kk).2)
  {E H:LH} {k:List Item} {cs:List Frame}
  (a6:∀(K:List Nat) (V:LH) (a:An) (c:Nat) (g:Seg),Le E V→K.Nodup→(∀x∈K,x<13∧F.has x=true)→(∀x,x<13→F.has x=true→x∈K)→OL 133 Ct V a c g (K.map (partOf qs))→Aw V H [g]→JL (DI Tryz.prog) Q (base 102) Tryz.f102.ntmps [(8,.slice a (K.map (partOf qs)).length c)] [] k cs (Ao V H [g])):
  ∀(m:Nat) (K:List Nat) (vs:List Value) (U:LH) (a:An) (c:Nat) (g:Seg),((List.range 13).filter (fun x=> !K.contains x)).length=m→K.Nodup→(∀x∈K,x<13∧F.has x=true)→K.length+m≤13→Le E U→OL 133 Ct U a c g (K.map (partOf qs))→Aw U H [g]→
   JL (Bz Tryz.prog true) (Stop Tryz.prog F (.Cm K vs)) (base 102) Tryz.f102.ntmps [(8,.slice a (K.map (partOf qs)).length c),(18,.chan (some F.ch))] [] (.code SZ:: .inLoop SZ:: .inBlock 2::k) cs (Ao U H [g]):=by
 intro m
 induction m using Nat.strongRecOn with
 | _ m a7=>
  intro K vs U a c g hm al am hlen hle ap av;refine zg 2 rfl (Ww rfl rfl rfl rfl rfl rfl underlying162 Ia ?_ ?_)
  ·intro kk v E' Y a8 aY aZ a9 ba;rw [ag] at Y;obtain⟨bp,bq,rfl,bb⟩:=a5 kk v E' ba;have bc:Aw E' H [g]:=av.up a9;refine(?_:JL (Bz Tryz.prog true) (Stop Tryz.prog F (.Cm (K++ [kk]) (vs++ [_]))) (base 102) Tryz.f102.ntmps _ [] _ cs (Ao E' H [g]));refine zg 9 rfl (JS.alloc rfl rfl rfl bc Ia fun br bd=>?_);refine BR 1 bd AR fun be=>?_;refine CV 1 be rfl fun bf Z bg bh=>DG (S':= [g]) (by simp) bh fun bi=>zg 3 rfl (BO bg Cp AR rfl rfl ?_);have bj:(K.map (partOf qs)).length+1≤2 ^ 40:=by rw [List.length_map];omega
   refine P3 (pp:=Ct) (xv:=partOf qs kk) 0 rfl rfl rfl rfl (fun w=>rfl) rfl (fun w=>rfl) rfl rfl rfl underlying130 underlying130 underlying130 AR (CR type133) Ia rfl (by decide) (by decide) (by decide) (by decide) bj (ap.Ah (aZ.trans Z)) ⟨_,_,rfl,rfl,⟨_,_,rfl,rfl,⟨_,_,rfl,bb.Ah Z⟩⟩⟩ bi rfl fun w a0 a1 g' a2 bl=>?_;have em:K.map (partOf qs)++ [partOf qs kk]=(K++ [kk]).map (partOf qs):=by simp
   rw [em] at a2;refine Ba (v:= .slice a0 ((K++ [kk]).map (partOf qs)).length a1) rfl rfl rfl (fun ρ h=>by rw [← em];exact Yl.assign (h _ _ rfl)) (zg 2 rfl ?_);refine JL.again ?_;have bm:((List.range 13).filter (fun x=> !(K++ [kk]).contains x)).length<m:=by rw [← hm];exact ZN Y aY
   exact Az (a7 _ bm (K++ [kk]) (vs++ [_]) bf a0 a1 g' rfl (by rw [List.nodup_append];exact⟨al,by simp,by intro x O y a3;simp at a3;subst a3;intro e;exact aY (e▸O)⟩) (by intro x O;simp at O;rcases O with O | rfl;exact am x O;exact⟨Y,a8⟩) (by simp only [List.length_append,List.length_cons,List.length_nil];omega) ((hle.trans aZ).Ab Z) a2 bl) rfl
  ·intro bn T bo;refine a4 _ _ ?_;refine(?_:JL (DI Tryz.prog) Q (base 102) Tryz.f102.ntmps _ [] _ cs (Ao U H [g])) T bo;exact zg 5 rfl (Az (a6 K U a c g hle al am (fun x O hh=>bn x (by rw [ag];exact O) hh) ap av) rfl)
end Pal
namespace Pal
open Go Go.Conc Go.Proofs
open Go.Proofs.Tryz
variable {J:Judge Tryz.prog}{E:LH}
def SC:List Nat:= [0,1,2,2,3,3,3,3,4,4,4,4,4,4,4,4,5,5,5,5,5,5,5,5,5,5,5,5,5,5,5,5,6,6,6,6,6,6,6,6,6,6,6,6,6,6,6,6,6,6,6,6,6,6,6,6,6,6,6,6,6,6,6,6,7,7,7,7,7,7,7,7,7,7,7,7,7,7,7,7,7,7,7,7,7,7,7,7,7,7,7,7,7,7,7,7,7,7,7,7,7,7,7,7,7,7,7,7,7,7,7,7,7,7,7,7,7,7,7,7,7,7,7,7,7,7,7,7,8,8,8,8,8,8,8,8,8,8,8,8,8,8,8,8,8,8,8,8,8,8,8,8,8,8,8,8,8,8,8,8,8,8,8,8,8,8,8,8,8,8,8,8,8,8,8,8,8,8,8,8,8,8,8,8,8,8,8,8,8,8,8,8,8,8,8,8,8,8,8,8,8,8,8,8,8,8,8,8,8,8,8,8,8,8,8,8,8,8,8,8,8,8,8,8,8,8,8,8,8,8,8,8,8,8,8,8,8,8,8,8,8,8,8,8,8,8,8,8,8,8,8,8,8,8,8,8]
def f187(fuel:Nat)(p0:Nat):Option Int:= Option.bind (if(((4294967296):Nat):Int)≤(((p0):Nat):Int) then(some (p0>>>32,32)) else(some (p0,0))) fun K=> Option.bind (if(((65536):Nat):Int)≤(((K.1):Nat):Int) then((As (K.2+16)).bind fun V=> some (K.1>>>16,V)) else(some K)) fun O=> Option.bind (if(((256):Nat):Int)≤(((O.1):Nat):Int) then((As (O.2+8)).bind fun Y=> some (O.1>>>8,Y)) else(some O)) fun U=> (Lt SC (((((U.1) % 256):Nat):Int))).bind fun Z=> (As (((Z):Nat):Int)).bind fun ag=> (As (U.2+ag)).bind fun al=> some al
theorem ZC{p0:Nat}{fuel:Nat}{r:Int}(V:f187 fuel p0=some r):AK J 187 [.int .u64 ((p0:Nat):Int)] E [] (fun w E' B'=>w=iV r∧B'= []):=by
 refine A3 func187 fun Q bw cs H Y av=>?_;unfold f187 at V;obtain⟨K,aY,aZ⟩:=bs V;refine zg 10 rfl (C4 [] [(0,.int .u64 ((K.1:Nat):Int)),(2,iV K.2)] (fun bx a0 Z=>?_) (fun ag=>?_))
 ·obtain⟨O,a1,a2⟩:=bs aZ;refine zg 6 rfl (C4 [] [(0,.int .u64 ((O.1:Nat):Int)),(2,iV O.2)] (fun bz a3 al=>?_) (fun am=>?_))
  ·obtain⟨U,a4,a5⟩:=bs a2;refine zg 6 rfl (C4 [] [(0,.int .u64 ((U.1:Nat):Int)),(2,iV U.2)] (fun bA a6 a7=>?_) (fun ap=>?_))
   ·refine zg 4 rfl (AD (v:= .int .u8 (((U.1) % 256:Nat):Int)) rfl (fun ρ h=>WK underlying90 underlying5 (h _ _ rfl)) ?_);obtain⟨a8,a9,ba⟩:=bs a5;refine AD (v:= .int .u8 ((a8:Nat):Int)) rfl (fun ρ h=>Od (l:=SC) (by decide+kernel) underlying9 (h _ _ rfl) (h _ _ rfl) a9) ?_;obtain⟨bb,bc,bd⟩:=bs ba;refine AD (v:=iV bb) rfl (fun ρ h=>Rv underlying5 underlying3 (h _ _ rfl) bc) ?_;obtain⟨bB,be,bf⟩:=bs bd;refine Bc be rfl rfl rfl (zg 2 rfl ?_);obtain rfl:=oi bf;exact AA func187 rfl rfl (av ((a0.Ab a3).Ab a6) rfl ⟨rfl,rfl⟩ a7)
   ·refine AL a4 (fun bg bh=>?_) (fun bg bi=>?_)
    ·refine zg 3 rfl (AD (v:= .int .u64 ((O.1>>>8:Nat):Int)) rfl (fun ρ h=>Jw 8 (h _ _ rfl) (h _ _ rfl) (by decide)) ?_);obtain⟨bC,bj,bl⟩:=bs bh;refine zg 4 rfl (Bc bj rfl rfl rfl ?_);refine zg 2 rfl ?_;obtain rfl:=oi bl;exact ap Ar al rfl
    ·refine JL.skip ?_;obtain rfl:=oi bi;exact ap Ar al rfl
  ·refine AL a1 (fun bm bn=>?_) (fun bm bo=>?_)
   ·refine zg 3 rfl (AD (v:= .int .u64 ((K.1>>>16:Nat):Int)) rfl (fun ρ h=>Jw 16 (h _ _ rfl) (h _ _ rfl) (by decide)) ?_);obtain⟨bD,bp,bq⟩:=bs bn;refine zg 4 rfl (Bc bp rfl rfl rfl ?_);refine zg 2 rfl ?_;obtain rfl:=oi bq;exact am Ar Z rfl
   ·refine JL.skip ?_;obtain rfl:=oi bo;exact am Ar Z rfl
 ·refine AL aY (fun br bu=>?_) (fun br bv=>?_)
  ·refine zg 3 rfl (AD (v:= .int .u64 ((p0>>>32:Nat):Int)) rfl (fun ρ h=>Jw 32 (h _ _ rfl) (h _ _ rfl) (by decide)) ?_);refine zg 5 rfl ?_;obtain rfl:=oi bu;exact ag Ar Y rfl
  ·refine JL.skip ?_;obtain rfl:=oi bv;exact ag Ar Y rfl
def f163(fuel:Nat)(p0:Nat):Option Int:= (f187 fuel p0).bind fun K=> some K
theorem Sq{p0:Nat}{fuel:Nat}{r:Int}(K:f163 fuel p0=some r):AK J 163 [.int .u64 ((p0:Nat):Int)] E [] (fun w E' B'=>w=iV r∧B'= []):=by
 refine A3 func163 fun Q al cs H O U=>?_;unfold f163 at K;obtain⟨am,V,Y⟩:=bs K;refine zg 10 rfl (BC (ZC V) rfl rfl (AS func187 rfl) O fun ap Z ag=>?_);refine zg 2 rfl ?_;obtain rfl:=oi Y;exact AA func163 rfl rfl (U Z rfl ⟨rfl,rfl⟩ ag)
def f134(fuel:Nat)(p0:Bs)(p1:Bs):Option Int:= (As (p0.1 - p1.1)).bind fun K=> some K
theorem G0{K:An}{c2:Nat}{O:An}{U:Nat}{p0:Bs}{p1:Bs}(a1:Al Dp E K c2 p0.2.2)(a2:Al Dp E O U p1.2.2){fuel:Nat}{r:Int}(V:f134 fuel p0 p1=some r):AK J 134 [.agg #[iV p0.1,iV p0.2.1,sV K p0.2.2 c2],.agg #[iV p1.1,iV p1.2.1,sV O p1.2.2 U]] E [] (fun w E' B'=>w=iV r∧B'= []):=by
 refine A3 func134 fun Q a3 cs H Z ag=>?_;unfold f134 at V;refine zg 2 rfl (B4 Z fun a4 a5 al am ap=>?_);refine B4 ap fun a6 a7 Y av aY=>?_;refine zg 4 rfl (JL.fl 0 (am.Ah Y) underlying133 AW Bv ?_);refine JL.fl 0 av underlying133 AW Bv ?_;obtain⟨a8,aZ,a0⟩:=bs V;refine Cd aZ rfl rfl rfl (zg 2 rfl ?_);obtain rfl:=oi a0;exact AA func134 rfl rfl (ag (al.Ab Y) rfl ⟨rfl,rfl⟩ aY)
def Jv(fuel:Nat)(p1:Int)(K:Int×(List Bs)):Option (Bi (Int×(List Bs)) ((List Bs))):= Option.bind (if p1<K.1 then((ix K.2 K.1).bind fun V=> (As (K.1 - 1)).bind fun Y=> (ix K.2 Y).bind fun Z=> (f134 fuel V Z).bind fun ag=> some (decide (ag<0))) else(some false)) fun al=> if al=true then((As (K.1 - 1)).bind fun O=> (As (K.1 - 1)).bind fun am=> (ix K.2 am).bind fun U=> (ix K.2 K.1).bind fun ap=> (ix (K.2.set (Int.toNat K.1) U) O).bind fun aY=> (As (K.1 - 1)).bind fun av=> some (.more (av,((K.2.set (Int.toNat K.1) U).set (Int.toNat O) ap)))) else(some (.done K.2))
def IY(fuel:Nat)(p1:Int)(p2:Int)(K:Int×(List Bs)):Option (Bi (Int×(List Bs)) ((List Bs))):= if K.1<p2 then(Option.bind (iter (Jv fuel p1) fuel K) fun O=> (As (K.1+1)).bind fun U=> some (.more (U,O))) else(some (.done K.2))
def f178(fuel:Nat)(p0:List Bs)(p1:Int)(p2:Int):Option ((List Bs)):= (As (p1+1)).bind fun K=> Option.bind (iter (IY fuel p1 p2) fuel (K,p0)) fun O=> some O
theorem SX{K:Nat}{U:Nat}{V:Nat}{a6:Array Value}{p0:List (Bs)}{p1:Int}{p2:Int}(hW:WL 133 Ct E K U V a6 p0){fuel:Nat}{r:(List Bs)}(bg:f178 fuel p0 p1 p2=some r):AK J 178 [.slice (AZ K) V U,iV p1,iV p2,(fV 134)] E [(K,.cells a6 133 (0,0))] (fun w E' B'=>∃(bh:Array Value),w= .tuple #[]∧B'= [(K,.cells bh 133 (0,0))]∧WL 133 Ct E' K U V bh r):=by
 refine A3 func178 fun Q cM cs H bE bF=>?_;unfold f178 at bg;obtain⟨cN,bG,bH⟩:=bs bg;refine zg 3 rfl (Bc bG rfl rfl rfl ?_);obtain⟨bI,bJ,bK⟩:=bs bH;refine zg 2 rfl (Br (fun L s=>∃(a7:LH) (f17:Array Value),Jn E H a7 [bX K f17 133] [] L s (WL 133 Ct a7 K U V f17 bI)) ?_ ?_)
 ·rintro _ _ ⟨a7,f17,rfl,rfl,bL,bM,bN⟩;obtain rfl:=oi bK;exact JL.fin (v:= .tuple #[]) rfl rfl (Co.list func178 rfl (vs:= []) trivial) (bF bL rfl ⟨f17,rfl,(by first | rfl | simp | (simp [Value.cells])),bN⟩ bM)
 ·intro bO;refine JL.block (CN bJ (fun L s am=>∃(al:LH) (f25:Array Value),Jn E H al [bX K f25 133] [(0,.slice (AZ K) V U),(1,iV p1),(2,iV p2),(3,(fV 134)),(8,iV am.1)] L s (WL 133 Ct al K U V f25 am.2)) ⟨E,a6,rfl,rfl,Ar,bE,hW⟩ ?_);rintro _ _ am ⟨al,f25,rfl,rfl,bi,bj,bl⟩ bP ⟨cO,a8⟩ bQ;have bm:=a8;unfold IY at bm;refine zg 7 rfl (AL bm (fun bR bS=>?_) (fun bR bT=>?_))
  ·obtain⟨bn,bU,bV⟩:=bs bS;refine zg 8 rfl (Br (fun L s=>∃(a2:LH) (f48:Array Value),Jn al H a2 [bX K f48 133] [(0,.slice (AZ K) V U),(1,iV p1),(2,iV p2),(3,(fV 134)),(8,iV am.1)] L s (WL 133 Ct a2 K U V f48 bn)) ?_ ?_)
   ·rintro _ _ ⟨a2,f48,rfl,rfl,bW,bY,bZ⟩;obtain⟨b0,b1,b2⟩:=bs bV;refine zg 3 rfl (Bc b1 rfl rfl rfl ?_);refine zg 2 rfl ?_;obtain rfl:=oi b2;exact Az (bQ _ _ (b0,bn) ⟨a2,f48,rfl,rfl,(bi.Ab bW),bY,bZ⟩ a8) rfl
   ·intro b3;refine JL.block (CN bU (fun L s ag=>∃(aZ:LH) (f58:Array Value),Jn al H aZ [bX K f58 133] [(0,.slice (AZ K) V U),(1,iV p1),(2,iV p2),(3,(fV 134)),(8,iV am.1),(9,iV ag.1)] L s (WL 133 Ct aZ K U V f58 ag.2)) ⟨al,f25,rfl,rfl,Ar,bj,bl⟩ ?_);rintro _ _ ag ⟨aZ,f58,rfl,rfl,bo,a0,O⟩ b4 ⟨cP,a9⟩ b5;have bp:=a9;unfold Jv at bp;refine zg 2 rfl (Dh 17 [K] ⟨⟨0,_,rfl⟩,trivial⟩ a0 fun ht=>?_);refine A4 ht rfl [0,1,2,3] rfl ?_;obtain⟨b6,bq,b7⟩:=bs bp;refine EY 0 #[true,true,true,true,true,true,true,true,true,true,true,true,true,true,true,true,true] (fun L s=>∃(a3:LH),Jm aZ H a3 [bX K f58 133] [(0,.slice (AZ K) V U),(1,iV p1),(2,iV p2),(3,(fV 134)),(8,iV am.1),(9,iV ag.1),(34,.bool b6)] L s) ?_ ?_
    ·rintro _ _ ⟨a3,rfl,rfl,ap,a4⟩;refine AX.fin (by decide+kernel) (BH b7 (fun b8 b9=>?_) (fun b8 ca=>?_))
     ·refine zg 3 rfl (GZ [15,17] [K] mixed rfl ?_);refine Bp 0 rfl rfl (Bp 1 rfl rfl ?_);refine Bp 2 rfl rfl (Bp 3 rfl rfl ?_);obtain⟨br,cb,cc⟩:=bs b9;refine GG 4 true rfl rfl (fun ρ h s' hs=>Db (h _ _ rfl) (h _ _ rfl) cb) (Bp 5 rfl rfl ?_);refine Bp 6 rfl rfl ?_;obtain⟨cQ,cd,ce⟩:=bs cc;refine GG 7 true rfl rfl (fun ρ h s' hs=>Db (h _ _ rfl) (h _ _ rfl) cd) ?_;obtain⟨Y,bu,cf⟩:=bs ce;obtain⟨_,⟨_,_,rfl,rfl,⟨_,_,rfl,rfl,⟨ba,bb,rfl,cg⟩⟩⟩,ci⟩:=WL.at (O.Ah ap) bu;refine Cu 8 O.2 bu underlying130 AR ?_;refine Ef 9 [iV Y.1,iV Y.2.1,sV ba Y.2.2 bb] 0 a4 ci Cp AR ?_;refine Bp 10 rfl rfl (Bp 11 rfl rfl ?_);obtain⟨Z,a5,ck⟩:=bs cf;obtain⟨_,⟨_,_,rfl,rfl,⟨_,_,rfl,rfl,⟨bc,bd,rfl,cm⟩⟩⟩,cn⟩:=WL.at (O.Ah ap) a5;refine Cu 12 O.2 a5 underlying130 AR ?_;refine Ef 13 [iV Z.1,iV Z.2.1,sV bc Z.2.2 bd] 0 a4 cn Cp AR ?_;refine Cu 14 O.2 a5 underlying130 AR ?_;have a1:=WL.put (x':=Y) (ws':= [iV Y.1,iV Y.2.1,sV ba Y.2.2 bb]) (O.Ah ap) O.2 a5 ⟨_,_,rfl,rfl,⟨_,_,rfl,rfl,⟨_,_,rfl,cg⟩⟩⟩;refine Ed 15 0 a4 AR a1.2 fun co=>?_;obtain⟨cR,be,cp⟩:=bs ck;obtain⟨_,⟨_,_,rfl,rfl,⟨_,_,rfl,rfl,⟨cT,cV,rfl,cW⟩⟩⟩,cX⟩:=WL.at a1.1 be;refine Cu 16 (a1.1).2 be underlying130 AR ?_;have bv:=WL.put (x':=Z) (ws':= [iV Z.1,iV Z.2.1,sV bc Z.2.2 bd]) a1.1 (a1.1).2 be ⟨_,_,rfl,rfl,⟨_,_,rfl,rfl,⟨_,_,rfl,cm⟩⟩⟩;refine Ed 17 0 co AR bv.2 fun cq=>?_;refine JB.fin (by decide+kernel) ?_;obtain⟨cr,ct,cu⟩:=bs cp;refine zg 3 rfl (Cd ct rfl rfl rfl ?_);refine zg 2 rfl ?_;obtain rfl:=oi cu;exact Az (b5 _ _ (cr,((ag.2.set (Int.toNat ag.1) Y).set (Int.toNat br) Z)) ⟨a3,(A0 (A0 f58 (Int.toNat (ag.1)*3) [iV Y.1,iV Y.2.1,sV ba Y.2.2 bb]) (Int.toNat (br)*3) [iV Z.1,iV Z.2.1,sV bc Z.2.2 bd]),rfl,rfl,(bo.Ab ap),cq,bv.1⟩ a9) rfl
     ·refine JL.exit rfl ?_;obtain rfl:=oi ca;obtain rfl:=b4 _ a9;exact Az (b3 _ _ ⟨a3,f58,rfl,rfl,(bo.Ab ap),a4,(O.Ah ap)⟩) rfl
    ·intro bw;refine FG (q:=p1<ag.1) (i:=21) rfl (fun bf=>?_) (fun bf=>?_)
     ·have cv:=ip bq bf;refine A4 ht rfl [4,5,6] rfl ?_;obtain⟨av,bx,cw⟩:=bs cv;obtain⟨_,⟨_,_,rfl,rfl,⟨_,_,rfl,rfl,⟨bz,bA,rfl,cy⟩⟩⟩,cz⟩:=WL.at O bx;refine F2 7 ht (O).2 bx underlying130 AR ?_;refine DY 8 ht [iV av.1,iV av.2.1,sV bz av.2.2 bA] 0 a0 cz Cp AR ?_;refine A4 ht rfl [9,10] rfl ?_;obtain⟨cY,cA,cB⟩:=bs cw;refine BB 11 ht rfl rfl (fun ρ h s' hs=>Db (h _ _ rfl) (h _ _ rfl) cA) ?_;obtain⟨aY,bB,cC⟩:=bs cB;obtain⟨_,⟨_,_,rfl,rfl,⟨_,_,rfl,rfl,⟨bC,bD,rfl,cD⟩⟩⟩,cE⟩:=WL.at O bB;refine F2 12 ht (O).2 bB underlying130 AR ?_;refine DY 13 ht [iV aY.1,iV aY.2.1,sV bC aY.2.2 bD] 0 a0 cE Cp AR ?_;obtain⟨cZ,cF,cG⟩:=bs cC;refine HH (i:=14) ⟨⟨0,_,rfl⟩,trivial⟩ (vs:= [.agg #[iV av.1,iV av.2.1,sV bz av.2.2 bA],.agg #[iV aY.1,iV aY.2.1,sV bC aY.2.2 bD]]) (G0 cy cD cF) (by decide+kernel) rfl rfl rfl rfl GQ rfl a0 ?_;rintro _ cH _ cI ⟨rfl,rfl⟩ cJ;refine A4 ht rfl [15,16] rfl ?_;obtain rfl:=oi cG;refine CZ ?_ (bw _ _ ⟨cH,rfl,rfl,cI,cJ⟩);exact⟨rfl,rfl,rfl,rfl,rfl,rfl,rfl,trivial⟩
     ·have cK:=im bq bf;refine A4 ht rfl [4,5,6,7,8,9,10,11,12,13,14,15,16] rfl ?_;obtain rfl:=oi cK;refine CZ ?_ (bw _ _ ⟨aZ,rfl,rfl,Ar,a0⟩);exact⟨rfl,rfl,rfl,rfl,rfl,rfl,rfl,trivial⟩
  ·refine JL.exit rfl ?_;obtain rfl:=oi bT;obtain rfl:=bP _ a8;exact Az (bO _ _ ⟨al,f25,rfl,rfl,bi,bj,bl⟩) rfl
def f200(fuel:Nat)(p0:List Bs)(p1:Int)(p2:Int)(p3:Int):Option (Int×Int×Int):= (ix p0 p2).bind fun K=> (ix p0 p1).bind fun O=> (f134 fuel K O).bind fun U=> if U<0 then((As (p3+1)).bind fun V=> some (p2,p1,V)) else(some (p1,p2,p3))
theorem OO{K:Nat}{ag:Nat}{al:Nat}{Y:Array Value}{bk:Nat}{p0:List (Bs)}{p1:Int}{p2:Int}{p3:Int}(hW:WL 133 Ct E K ag al Y p0){fuel:Nat}{r:Int×Int×Int}(am:f200 fuel p0 p1 p2 p3=some r):AK J 200 [.slice (AZ K) al ag,iV p1,iV p2,pV bk 0,(fV 134)] E ([(bk,.cells #[iV p3] 3 (0,0))]++ [(K,.cells Y 133 (0,0))]) (fun w E' B'=>w= .tuple #[iV r.1,iV r.2.1]∧B'= [(bk,.cells #[iV r.2.2] 3 (0,0))]++ [(K,.cells Y 133 (0,0))]):=by
 refine A3 func200 fun Q bh cs H O ap=>?_;unfold f200 at am;refine DG (S':= [[(bk,.cells #[iV p3] 3 (0,0))],[(K,.cells Y 133 (0,0))]]) (by simp) O fun O=>zg 7 rfl (Dh 9 [K] ⟨⟨1,_,rfl⟩,trivial⟩ O fun ht=>?_);refine A4 ht rfl [0,1,2] rfl ?_;obtain⟨U,av,a3⟩:=bs am;obtain⟨_,⟨_,_,rfl,rfl,⟨_,_,rfl,rfl,⟨aY,c4,rfl,a4⟩⟩⟩,a5⟩:=WL.at hW av;refine F2 3 ht (hW).2 av underlying130 AR ?_;refine DY 4 ht [iV U.1,iV U.2.1,sV aY U.2.2 c4] 1 O a5 Cp AR ?_;refine A4 ht rfl [5,6] rfl ?_;obtain⟨V,aZ,a6⟩:=bs a3;obtain⟨_,⟨_,_,rfl,rfl,⟨_,_,rfl,rfl,⟨a0,a1,rfl,a7⟩⟩⟩,a8⟩:=WL.at hW aZ;refine F2 7 ht (hW).2 aZ underlying130 AR ?_;refine DY 8 ht [iV V.1,iV V.2.1,sV a0 V.2.2 a1] 1 O a8 Cp AR ?_;refine Ci [9,10] ?_;obtain⟨bi,a9,ba⟩:=bs a6;refine Ku (vs:= [.agg #[iV U.1,iV U.2.1,sV aY U.2.2 c4],.agg #[iV V.1,iV V.2.1,sV a0 V.2.2 a1]]) (G0 a4 a7 a9) rfl rfl rfl rfl GQ rfl O ?_;rintro _ bj _ a2 ⟨rfl,rfl⟩ Z;refine zg 2 rfl (AL ba (fun bb bc=>?_) (fun bb bd=>?_))
 ·refine zg 4 rfl (AD (v:=iV p3) rfl (fun ρ h=>Yl.load Bv (h _ _ rfl) (DU (j:=0) (off:=0) Z rfl rfl)) ?_);obtain⟨bl,be,bf⟩:=bs bc;refine Bc be rfl rfl rfl (zg 1 rfl ?_);refine BR 0 Z AW fun bg=>?_;refine zg 8 rfl ?_;obtain rfl:=oi bf;exact AA func200 rfl rfl (ap a2 rfl ⟨rfl,(by first | rfl | simp | (simp [Value.cells]))⟩ bg)
 ·refine zg 8 rfl ?_;obtain rfl:=oi bd;exact AA func200 rfl rfl (ap a2 rfl ⟨rfl,(by first | rfl | simp | (simp [Value.cells]))⟩ Z)
def f197(fuel:Nat)(p0:List Bs)(p1:Int)(p2:Int)(p3:Int)(p4:Int):Option (Int×Int):= (f200 fuel p0 p1 p2 p4).bind fun K=> (f200 fuel p0 K.2.1 p3 K.2.2).bind fun O=> (f200 fuel p0 K.1 O.1 O.2.2).bind fun U=> some U.2
theorem YW{K:Nat}{Y:Nat}{Z:Nat}{O:Array Value}{bk:Nat}{p0:List (Bs)}{p1:Int}{p2:Int}{p3:Int}{p4:Int}(hW:WL 133 Ct E K Y Z O p0){fuel:Nat}{r:Int×Int}(ag:f197 fuel p0 p1 p2 p3 p4=some r):AK J 197 [.slice (AZ K) Z Y,iV p1,iV p2,iV p3,pV bk 0,(fV 134)] E ([(bk,.cells #[iV p4] 3 (0,0))]++ [(K,.cells O 133 (0,0))]) (fun w E' B'=>w=iV r.1∧B'= [(bk,.cells #[iV r.2] 3 (0,0))]++ [(K,.cells O 133 (0,0))]):=by
 refine A3 func197 fun Q bj cs H U ap=>?_;unfold f197 at ag;refine DG (S':= [[(bk,.cells #[iV p4] 3 (0,0))],[(K,.cells O 133 (0,0))]]) (by simp) U fun U=>?_;obtain⟨av,aY,aZ⟩:=bs ag;refine zg 11 rfl (KB 0 1 rfl rfl U fun a0=>?_);refine BZ 0 (OO hW aY) rfl rfl NU a0 rfl ?_;rintro _ bl _ V ⟨rfl,rfl⟩ a1;refine EO 0 rfl a1 fun a2=>Cq (S':= [[(bk,.cells #[iV av.2.2] 3 (0,0))],[],[(K,.cells O 133 (0,0))]]) rfl a2 fun a3=>?_;obtain⟨a4,a5,a6⟩:=bs aZ;refine zg 13 rfl (KB 0 2 rfl rfl a3 fun a7=>?_);refine BZ 0 (OO (hW.Ah V) a5) rfl rfl NU a7 rfl ?_;rintro _ bm _ al ⟨rfl,rfl⟩ a8;refine EO 0 rfl a8 fun a9=>Cq (S':= [[(bk,.cells #[iV a4.2.2] 3 (0,0))],[],[],[(K,.cells O 133 (0,0))]]) rfl a9 fun ba=>?_;obtain⟨am,bb,bc⟩:=bs a6;refine zg 13 rfl (KB 0 3 rfl rfl ba fun bd=>?_);refine BZ 0 (OO (hW.Ah (V.Ab al)) bb) rfl rfl NU bd rfl ?_;rintro _ bn _ be ⟨rfl,rfl⟩ bf;refine EO 0 rfl bf fun bg=>Cq (S':= [[(bk,.cells #[iV am.2.2] 3 (0,0))],[],[],[],[(K,.cells O 133 (0,0))]]) rfl bg fun bh=>zg 11 rfl (Cq (S':= [[(bk,.cells #[iV am.2.2] 3 (0,0))],[],[],[],[(K,.cells O 133 (0,0))]]) rfl bh fun bi=>?_);obtain rfl:=oi bc;exact AA func197 rfl rfl (ap ((V.Ab al).Ab be) rfl ⟨rfl,(by first | rfl | simp | (simp [Value.cells]))⟩ bi)
def f181(fuel:Nat)(p0:List Bs)(p1:Int)(p2:Int):Option (Int×Int):= (As (p2 - p1)).bind fun K=> (Hu K (4)).bind fun V=> (As (V*1)).bind fun Y=> (As (p1+Y)).bind fun Z=> (Hu K (4)).bind fun ag=> (As (ag*2)).bind fun al=> (As (p1+al)).bind fun U=> (Hu K (4)).bind fun am=> (As (am*3)).bind fun ap=> (As (p1+ap)).bind fun av=> Option.bind (if 8≤K then(Option.bind (if 50≤K then(none) else(some ())) fun aZ=> (f197 fuel p0 Z U av 0).bind fun aY=> some aY) else(some (U,0))) fun O=> if O.2=0 then(some (O.1,1)) else(if O.2=12 then(some (O.1,2)) else(some (O.1,0)))
theorem SI{K:Nat}{Y:Nat}{Z:Nat}{O:Array Value}{p0:List (Bs)}{p1:Int}{p2:Int}(hW:WL 133 Ct E K Y Z O p0){fuel:Nat}{r:Int×Int}(ap:f181 fuel p0 p1 p2=some r):AK J 181 [.slice (AZ K) Z Y,iV p1,iV p2,(fV 134)] E [(K,.cells O 133 (0,0))] (fun w E' B'=>w= .tuple #[iV r.1,iV r.2]∧B'= [(K,.cells O 133 (0,0))]):=by
 refine A3 func181 fun Q b0 cs H a0 ag=>?_;unfold f181 at ap;obtain⟨b1,a1,a2⟩:=bs ap;refine zg 9 rfl (Cd a1 rfl rfl rfl ?_);refine zg 4 rfl (CF a0 CM fun U av=>?_);obtain⟨a3,a4,a5⟩:=bs a2;refine zg 5 rfl (AD (v:=iV a3) rfl (fun ρ h=>KM (h _ _ rfl) (h _ _ rfl) a4) ?_);obtain⟨b2,a6,a7⟩:=bs a5;refine AD rfl (fun ρ h=>KT (h _ _ rfl) (h _ _ rfl) a6) ?_;obtain⟨a8,a9,ba⟩:=bs a7;refine Bc a9 rfl rfl rfl ?_;obtain⟨bb,bc,bd⟩:=bs ba;refine zg 6 rfl (AD (v:=iV bb) rfl (fun ρ h=>KM (h _ _ rfl) (h _ _ rfl) bc) ?_);obtain⟨b3,be,bf⟩:=bs bd;refine AD rfl (fun ρ h=>KT (h _ _ rfl) (h _ _ rfl) be) ?_;obtain⟨bg,bh,bi⟩:=bs bf;refine Bc bh rfl rfl rfl ?_;obtain⟨bj,bl,bm⟩:=bs bi;refine zg 6 rfl (AD (v:=iV bj) rfl (fun ρ h=>KM (h _ _ rfl) (h _ _ rfl) bl) ?_);obtain⟨b4,bn,bo⟩:=bs bm;refine AD rfl (fun ρ h=>KT (h _ _ rfl) (h _ _ rfl) bn) ?_;obtain⟨bp,bq,br⟩:=bs bo;refine Bc bq rfl rfl rfl ?_;obtain⟨al,bu,bv⟩:=bs br;refine zg 8 rfl (C4 [bX K O 133,bX U #[iV al.2] 3] [(11,pV U 0),(13,iV al.1)] (fun b5 am V=>?_) (fun aY=>?_))
 ·refine zg 2 rfl (AD (v:=iV al.2) rfl (fun ρ h=>Yl.load Bv (h _ _ rfl) (DU (j:=1) (off:=0) V rfl rfl)) ?_);refine zg 7 rfl (AL bv (fun bw bx=>?_) (fun bw bz=>?_))
  ·refine zg 6 rfl (JS.drop 1 V rfl fun bA=>?_);obtain rfl:=oi bx;exact AA func181 rfl rfl (ag am rfl ⟨rfl,(by first | rfl | simp | (simp [Value.cells]))⟩ bA)
  ·refine zg 5 rfl (AL bz (fun bB bC=>?_) (fun bB bD=>?_))
   ·refine zg 6 rfl (JS.drop 1 V rfl fun bE=>?_);obtain rfl:=oi bC;exact AA func181 rfl rfl (ag am rfl ⟨rfl,(by first | rfl | simp | (simp [Value.cells]))⟩ bE)
   ·refine zg 6 rfl (JS.drop 1 V rfl fun bF=>?_);obtain rfl:=oi bD;exact AA func181 rfl rfl (ag am rfl ⟨rfl,(by first | rfl | simp | (simp [Value.cells]))⟩ bF)
 ·refine AL bu (fun bG bH=>?_) (fun bG bI=>?_)
  ·obtain⟨b6,bJ,bK⟩:=bs bH;refine zg 6 rfl (C4 [bX K O 133,bX U #[iV 0] 3] [(0,.slice (AZ K) Z Y),(3,(fV 134)),(8,iV 0),(9,iV 0),(11,pV U 0),(12,iV a8),(13,iV bg),(14,iV bp)] (fun b7 aZ bL=>?_) (fun bM=>?_))
   ·obtain⟨bN,bO,bP⟩:=bs bK;refine zg 6 rfl (KB 1 0 rfl rfl bL fun bQ=>?_);refine BZ 1 (YW (hW.Ah aZ) bO) rfl rfl (AS func197 rfl) bQ rfl ?_;rintro _ b8 _ bR ⟨rfl,rfl⟩ bS;refine EO 1 rfl bS fun bT=>Cq (S':= [[],[(U,.cells #[iV bN.2] 3 (0,0))],[(K,.cells O 133 (0,0))]]) rfl bT fun bU=>zg 2 rfl (JS.swap 1 2 rfl rfl rfl bU fun bV=>?_);obtain rfl:=oi bP;exact aY (aZ.Ab bR) bV rfl
   ·refine AL bJ (fun bW bY=>?_) (fun bW bZ=>?_)
    ·refine zg 5 rfl ?_;cases bY
    ·refine JL.skip ?_;obtain rfl:=oi bZ;exact bM Ar av rfl
  ·refine JL.skip ?_;obtain rfl:=oi bI;exact aY Ar av rfl
end Pal
namespace Pal
open Go Go.Conc Go.Proofs
open Go.Proofs.Tryz
variable {J:Judge Tryz.prog}{E:LH}
def HK(fuel:Nat)(K:Int×Int×(List Bs)):Option (Bi (Int×Int×(List Bs)) ((List Bs))):= if K.1<K.2.1 then((ix K.2.2 K.2.1).bind fun O=> (ix K.2.2 K.1).bind fun U=> (As (K.1+1)).bind fun V=> (As (K.2.1 - 1)).bind fun Y=> some (.more (V,Y,((K.2.2.set (Int.toNat K.1) O).set (Int.toNat K.2.1) U)))) else(some (.done K.2.2))
def f182(fuel:Nat)(p0:List Bs)(p1:Int)(p2:Int):Option ((List Bs)):= (As (p2 - 1)).bind fun K=> Option.bind (iter (HK fuel) fuel (p1,K,p0)) fun O=> some O
theorem Sl{K:Nat}{Z:Nat}{ag:Nat}{aY:Array Value}{p0:List (Bs)}{p1:Int}{p2:Int}(hW:WL 133 Ct E K Z ag aY p0){fuel:Nat}{r:(List Bs)}(a5:f182 fuel p0 p1 p2=some r):AK J 182 [.slice (AZ K) ag Z,iV p1,iV p2,(fV 134)] E [(K,.cells aY 133 (0,0))] (fun w E' B'=>∃(a6:Array Value),w= .tuple #[]∧B'= [(K,.cells a6 133 (0,0))]∧WL 133 Ct E' K Z ag a6 r):=by
 refine A3 func182 fun Q bJ cs H bb bc=>?_;unfold f182 at a5;obtain⟨bK,bd,be⟩:=bs a5;refine zg 8 rfl (Cd bd rfl rfl rfl ?_);obtain⟨bf,bg,bh⟩:=bs be;refine zg 2 rfl (Br (fun L s=>∃(aZ:LH) (f17:Array Value),Jn E H aZ [bX K f17 133] [] L s (WL 133 Ct aZ K Z ag f17 bf)) ?_ ?_)
 ·rintro _ _ ⟨aZ,f17,rfl,rfl,bi,bj,bl⟩;obtain rfl:=oi bh;exact JL.fin (v:= .tuple #[]) rfl rfl (Co.list func182 rfl (vs:= []) trivial) (bc bi rfl ⟨f17,rfl,(by first | rfl | simp | (simp [Value.cells])),bl⟩ bj)
 ·intro bm;refine JL.block (CN bg (fun L s Y=>∃(al:LH) (f25:Array Value),Jn E H al [bX K f25 133] [(0,.slice (AZ K) ag Z),(8,iV Y.1),(9,iV Y.2.1)] L s (WL 133 Ct al K Z ag f25 Y.2.2)) ⟨E,aY,rfl,rfl,Ar,bb,hW⟩ ?_);rintro _ _ Y ⟨al,f25,rfl,rfl,a7,am,V⟩ bn ⟨bL,a0⟩ bo;have a8:=a0;unfold HK at a8;refine zg 7 rfl (AL a8 (fun bp bq=>?_) (fun bp br=>?_))
  ·refine zg 3 rfl (GZ [13,15] [K] mixed rfl ?_);refine Bp 0 rfl rfl (Bp 1 rfl rfl ?_);refine Bp 2 rfl rfl (Bp 3 rfl rfl ?_);refine Bp 4 rfl rfl (Bp 5 rfl rfl ?_);obtain⟨O,ap,bu⟩:=bs bq;obtain⟨_,⟨_,_,rfl,rfl,⟨_,_,rfl,rfl,⟨a1,a2,rfl,bv⟩⟩⟩,bw⟩:=WL.at V ap;refine Cu 6 V.2 ap underlying130 AR ?_;refine Ef 7 [iV O.1,iV O.2.1,sV a1 O.2.2 a2] 0 am bw Cp AR ?_;refine Bp 8 rfl rfl (Bp 9 rfl rfl ?_);obtain⟨U,av,bx⟩:=bs bu;obtain⟨_,⟨_,_,rfl,rfl,⟨_,_,rfl,rfl,⟨a3,a4,rfl,bz⟩⟩⟩,bA⟩:=WL.at V av;refine Cu 10 V.2 av underlying130 AR ?_;refine Ef 11 [iV U.1,iV U.2.1,sV a3 U.2.2 a4] 0 am bA Cp AR ?_;refine Cu 12 V.2 av underlying130 AR ?_;have a9:=WL.put (x':=O) (ws':= [iV O.1,iV O.2.1,sV a1 O.2.2 a2]) V V.2 av ⟨_,_,rfl,rfl,⟨_,_,rfl,rfl,⟨_,_,rfl,bv⟩⟩⟩;refine Ed 13 0 am AR a9.2 fun bB=>?_;refine Cu 14 V.2 ap underlying130 AR ?_;have ba:=WL.put (x':=U) (ws':= [iV U.1,iV U.2.1,sV a3 U.2.2 a4]) a9.1 V.2 ap ⟨_,_,rfl,rfl,⟨_,_,rfl,rfl,⟨_,_,rfl,bz⟩⟩⟩;refine Ed 15 0 bB AR ba.2 fun bC=>?_;refine JB.fin (by decide+kernel) ?_;obtain⟨bD,bE,bF⟩:=bs bx;refine zg 3 rfl (Bc bE rfl rfl rfl ?_);obtain⟨bG,bH,bI⟩:=bs bF;refine zg 4 rfl (Cd bH rfl rfl rfl ?_);refine zg 3 rfl ?_;obtain rfl:=oi bI;exact Az (bo _ _ (bD,bG,((Y.2.2.set (Int.toNat Y.1) O).set (Int.toNat Y.2.1) U)) ⟨al,(A0 (A0 f25 (Int.toNat (Y.1)*3) [iV O.1,iV O.2.1,sV a1 O.2.2 a2]) (Int.toNat (Y.2.1)*3) [iV U.1,iV U.2.1,sV a3 U.2.2 a4]),rfl,rfl,a7,bC,ba.1⟩ a0) rfl
  ·refine JL.exit rfl ?_;obtain rfl:=oi br;obtain rfl:=bn _ a0;exact Az (bm _ _ ⟨al,f25,rfl,rfl,a7,am,V⟩) rfl
def I0(fuel:Nat)(p2:Int)(O:Int×Int×(List Bs))(K:Int):Option (Bi Int Int):= Option.bind (if K<p2 then((ix O.2.2 K).bind fun U=> (As (K - 1)).bind fun V=> (ix O.2.2 V).bind fun Y=> (f134 fuel U Y).bind fun Z=> some (decide (¬(Z<0)))) else(some false)) fun ag=> if ag=true then((As (K+1)).bind fun al=> some (.more al)) else(some (.done K))
def RU(fuel:Nat)(K:Int×(List Bs)):Option (Bi (Int×(List Bs)) ((List Bs))):= if 1≤K.1 then((ix K.2 K.1).bind fun O=> (As (K.1 - 1)).bind fun Y=> (ix K.2 Y).bind fun Z=> (f134 fuel O Z).bind fun ag=> if ¬(ag<0) then(some (.done K.2)) else((As (K.1 - 1)).bind fun U=> (As (K.1 - 1)).bind fun al=> (ix K.2 al).bind fun V=> (ix (K.2.set (Int.toNat K.1) V) U).bind fun ap=> (As (K.1 - 1)).bind fun am=> some (.more (am,((K.2.set (Int.toNat K.1) V).set (Int.toNat U) O))))) else(some (.done K.2))
def Rn(fuel:Nat)(p2:Int)(K:Int×(List Bs)):Option (Bi (Int×(List Bs)) ((List Bs))):= if K.1<p2 then((ix K.2 K.1).bind fun O=> (As (K.1 - 1)).bind fun Y=> (ix K.2 Y).bind fun Z=> (f134 fuel O Z).bind fun ag=> if ¬(ag<0) then(some (.done K.2)) else((As (K.1 - 1)).bind fun U=> (As (K.1 - 1)).bind fun al=> (ix K.2 al).bind fun V=> (ix (K.2.set (Int.toNat K.1) V) U).bind fun ap=> (As (K.1+1)).bind fun am=> some (.more (am,((K.2.set (Int.toNat K.1) V).set (Int.toNat U) O))))) else(some (.done K.2))
def MB(fuel:Nat)(p1:Int)(p2:Int)(K:Int×Int×(List Bs)):Option (Bi (Int×Int×(List Bs)) ((Bool×(List Bs))⊕((List Bs)))):= if K.2.1<5 then(Option.bind (iter (I0 fuel p2 K) fuel K.1) fun O=> if O=p2 then(some (.done (Sum.inl (true,K.2.2)))) else((As (p2 - p1)).bind fun ag=> if ag<50 then(some (.done (Sum.inl (false,K.2.2)))) else((As (O - 1)).bind fun U=> (As (O - 1)).bind fun al=> (ix K.2.2 al).bind fun V=> (ix K.2.2 O).bind fun Y=> (ix (K.2.2.set (Int.toNat O) V) U).bind fun a3=> (As (O - p1)).bind fun am=> Option.bind (if 2≤am then((As (O - 1)).bind fun ap=> Option.bind (iter (RU fuel) fuel (ap,((K.2.2.set (Int.toNat O) V).set (Int.toNat U) Y))) fun av=> some av) else(some ((K.2.2.set (Int.toNat O) V).set (Int.toNat U) Y))) fun Z=> (As (p2 - O)).bind fun aY=> Option.bind (if 2≤aY then((As (O+1)).bind fun aZ=> Option.bind (iter (Rn fuel p2) fuel (aZ,Z)) fun a0=> some a0) else(some Z)) fun a1=> (As (K.2.1+1)).bind fun a2=> some (.more (O,a2,a1))))) else(some (.done (Sum.inr K.2.2)))
def f183(fuel:Nat)(p0:List Bs)(p1:Int)(p2:Int):Option (Bool×(List Bs)):= (As (p1+1)).bind fun K=> Option.bind (iter (MB fuel p1 p2) fuel (K,0,p0)) fun O=> Sum.elim (fun r=>some r) (fun U=> some (false,U)) O
theorem Sk{K:Nat}{O:Nat}{U:Nat}{bM:Array Value}{p0:List (Bs)}{p1:Int}{p2:Int}(hW:WL 133 Ct E K O U bM p0){fuel:Nat}{r:Bool×(List Bs)}(b5:f183 fuel p0 p1 p2=some r):AK J 183 [.slice (AZ K) U O,iV p1,iV p2,(fV 134)] E [(K,.cells bM 133 (0,0))] (fun w E' B'=>∃(b6:Array Value),w= .bool r.1∧B'= [(K,.cells b6 133 (0,0))]∧WL 133 Ct E' K O U b6 r.2):=by
 refine A3 func183 fun Q fW cs H c1 bN=>?_;unfold f183 at b5;obtain⟨fX,c2,c3⟩:=bs b5;refine zg 7 rfl (Bc c2 rfl rfl rfl ?_);obtain⟨b7,c4,bO⟩:=bs c3;refine zg 7 rfl (Br (fun L s=>∃(bP:(List Bs)) (bQ:LH) (f18:Array Value),b7=Sum.inr bP∧Jn E H bQ [bX K f18 133] [] L s (WL 133 Ct bQ K O U f18 bP)) ?_ ?_)
 ·rintro _ _ ⟨bP,bQ,f18,rfl,rfl,rfl,c5,c6,c7⟩;have c8:=elim_inr bO;refine zg 4 rfl ?_;obtain rfl:=oi c8;exact AA func183 rfl rfl (bN c5 rfl ⟨f18,rfl,(by first | rfl | simp | (simp [Value.cells])),c7⟩ c6)
 ·intro c9;refine JL.block (CN c4 (fun L s Z=>∃(bv:LH) (f27:Array Value),Jn E H bv [bX K f27 133] [(0,.slice (AZ K) U O),(1,iV p1),(2,iV p2),(3,(fV 134)),(9,iV Z.1),(10,iV Z.2.1)] L s (WL 133 Ct bv K O U f27 Z.2.2)) ⟨E,bM,rfl,rfl,Ar,c1,hW⟩ ?_);rintro _ _ Z ⟨bv,f27,rfl,rfl,bw,b8,ag⟩ bR ⟨fY,bc⟩ da;have b9:=bc;unfold MB at b9;refine zg 6 rfl (AL b9 (fun db dc=>?_) (fun db dd=>?_))
  ·obtain⟨a0,de,df⟩:=bs dc;refine zg 4 rfl (C4 [bX K f27 133] [(0,.slice (AZ K) U O),(1,iV p1),(2,iV p2),(3,(fV 134)),(9,iV a0),(10,iV Z.2.1)] (fun bd a1 be=>?_) (fun dg=>?_))
   ·refine zg 7 rfl (AL df (fun dh di=>?_) (fun dh dj=>?_))
    ·refine zg 4 rfl ?_;obtain rfl:=oi di;obtain rfl:=bR _ bc;have dk:=elim_inl bO;obtain rfl:=oi dk;exact AA func183 rfl rfl (bN (bw.Ab a1) rfl ⟨f27,rfl,(by first | rfl | simp | (simp [Value.cells])),(ag.Ah a1)⟩ be)
    ·obtain⟨fZ,dl,dm⟩:=bs dj;refine zg 6 rfl (Cd dl rfl rfl rfl ?_);refine zg 2 rfl (AL dm (fun dn dp=>?_) (fun dn dq=>?_))
     ·refine zg 4 rfl ?_;obtain rfl:=oi dp;obtain rfl:=bR _ bc;have dr:=elim_inl bO;obtain rfl:=oi dr;exact AA func183 rfl rfl (bN (bw.Ab a1) rfl ⟨f27,rfl,(by first | rfl | simp | (simp [Value.cells])),(ag.Ah a1)⟩ be)
     ·refine zg 2 rfl (GZ [15,17] [K] mixed rfl ?_);refine Bp 0 rfl rfl (Bp 1 rfl rfl ?_);refine Bp 2 rfl rfl (Bp 3 rfl rfl ?_);obtain⟨ca,dt,du⟩:=bs dq;refine GG 4 true rfl rfl (fun ρ h s' hs=>Db (h _ _ rfl) (h _ _ rfl) dt) (Bp 5 rfl rfl ?_);refine Bp 6 rfl rfl ?_;obtain⟨ga,dv,dw⟩:=bs du;refine GG 7 true rfl rfl (fun ρ h s' hs=>Db (h _ _ rfl) (h _ _ rfl) dv) ?_;obtain⟨al,cb,dx⟩:=bs dw;obtain⟨_,⟨_,_,rfl,rfl,⟨_,_,rfl,rfl,⟨bx,bz,rfl,dy⟩⟩⟩,dz⟩:=WL.at (ag.Ah a1) cb;refine Cu 8 ag.2 cb underlying130 AR ?_;refine Ef 9 [iV al.1,iV al.2.1,sV bx al.2.2 bz] 0 be dz Cp AR ?_;refine Bp 10 rfl rfl (Bp 11 rfl rfl ?_);obtain⟨am,bA,dA⟩:=bs dx;obtain⟨_,⟨_,_,rfl,rfl,⟨_,_,rfl,rfl,⟨bB,bC,rfl,dB⟩⟩⟩,dC⟩:=WL.at (ag.Ah a1) bA;refine Cu 12 ag.2 bA underlying130 AR ?_;refine Ef 13 [iV am.1,iV am.2.1,sV bB am.2.2 bC] 0 be dC Cp AR ?_;refine Cu 14 ag.2 bA underlying130 AR ?_;have bf:=WL.put (x':=al) (ws':= [iV al.1,iV al.2.1,sV bx al.2.2 bz]) (ag.Ah a1) ag.2 bA ⟨_,_,rfl,rfl,⟨_,_,rfl,rfl,⟨_,_,rfl,dy⟩⟩⟩;refine Ed 15 0 be AR bf.2 fun dD=>?_;obtain⟨gb,bS,dE⟩:=bs dA;obtain⟨_,⟨_,_,rfl,rfl,⟨_,_,rfl,rfl,⟨gc,gd,rfl,ge⟩⟩⟩,gf⟩:=WL.at bf.1 bS;refine Cu 16 (bf.1).2 bS underlying130 AR ?_;have bT:=WL.put (x':=am) (ws':= [iV am.1,iV am.2.1,sV bB am.2.2 bC]) bf.1 (bf.1).2 bS ⟨_,_,rfl,rfl,⟨_,_,rfl,rfl,⟨_,_,rfl,dB⟩⟩⟩;refine Ed 17 0 dD AR bT.2 fun cc=>?_;refine JB.fin (by decide+kernel) ?_;obtain⟨gg,dF,dG⟩:=bs dE;refine zg 5 rfl (Cd dF rfl rfl rfl ?_);obtain⟨dH,dI,dJ⟩:=bs dG;refine zg 2 rfl (Br (fun L s=>∃(a2:LH) (f99:Array Value),Jn bd H a2 [bX K f99 133] [(0,.slice (AZ K) U O),(1,iV p1),(2,iV p2),(3,(fV 134)),(9,iV a0),(10,iV Z.2.1)] L s (WL 133 Ct a2 K O U f99 dH)) ?_ ?_)
      ·rintro _ _ ⟨a2,f99,rfl,rfl,dK,cd,ce⟩;obtain⟨gh,dL,dM⟩:=bs dJ;refine zg 4 rfl (Cd dL rfl rfl rfl ?_);obtain⟨cf,dN,dO⟩:=bs dM;refine zg 2 rfl (Br (fun L s=>∃(bD:LH) (f109:Array Value),Jn a2 H bD [bX K f109 133] [(0,.slice (AZ K) U O),(1,iV p1),(2,iV p2),(3,(fV 134)),(9,iV a0),(10,iV Z.2.1)] L s (WL 133 Ct bD K O U f109 cf)) ?_ ?_)
       ·rintro _ _ ⟨bD,f109,rfl,rfl,dP,dQ,dR⟩;obtain⟨dS,dT,dU⟩:=bs dO;refine zg 3 rfl (Bc dT rfl rfl rfl ?_);refine zg 2 rfl ?_;obtain rfl:=oi dU;exact Az (da _ _ (a0,dS,cf) ⟨bD,f109,rfl,rfl,(((bw.Ab a1).Ab dK).Ab dP),dQ,dR⟩ bc) rfl
       ·intro cg;refine AL dN (fun dV dW=>?_) (fun dV dX=>?_)
        ·obtain⟨gi,dY,dZ⟩:=bs dW;refine zg 3 rfl (Bc dY rfl rfl rfl ?_);obtain⟨ea,eb,ec⟩:=bs dZ;refine zg 2 rfl (Br (fun L s=>∃(bE:LH) (f134:Array Value),Jn a2 H bE [bX K f134 133] [(0,.slice (AZ K) U O),(1,iV p1),(2,iV p2),(3,(fV 134)),(9,iV a0),(10,iV Z.2.1)] L s (WL 133 Ct bE K O U f134 ea)) ?_ ?_)
         ·rintro _ _ ⟨bE,f134,rfl,rfl,ed,ee,ef⟩;obtain rfl:=oi ec;exact Az (cg _ _ ⟨bE,f134,rfl,rfl,ed,ee,ef⟩) rfl
         ·intro ci;refine JL.block (CN eb (fun L s a3=>∃(bF:LH) (f142:Array Value),Jn a2 H bF [bX K f142 133] [(0,.slice (AZ K) U O),(1,iV p1),(2,iV p2),(3,(fV 134)),(9,iV a0),(10,iV Z.2.1),(12,iV a3.1)] L s (WL 133 Ct bF K O U f142 a3.2)) ⟨a2,f99,rfl,rfl,Ar,cd,ce⟩ ?_);rintro _ _ a3 ⟨bF,f142,rfl,rfl,bU,bg,ap⟩ ck ⟨gj,bG⟩ eg;have cm:=bG;unfold Rn at cm;refine zg 7 rfl (AL cm (fun eh ei=>?_) (fun eh ej=>?_))
          ·refine zg 5 rfl (Dh 10 [K] ⟨⟨0,_,rfl⟩,trivial⟩ bg fun ht=>?_);refine A4 ht rfl [0,1,2] rfl ?_;obtain⟨V,bh,ek⟩:=bs ei;obtain⟨_,⟨_,_,rfl,rfl,⟨_,_,rfl,rfl,⟨bi,bj,rfl,cn⟩⟩⟩,co⟩:=WL.at ap bh;refine F2 3 ht (ap).2 bh underlying130 AR ?_;refine DY 4 ht [iV V.1,iV V.2.1,sV bi V.2.2 bj] 0 bg co Cp AR ?_;refine A4 ht rfl [5,6] rfl ?_;obtain⟨gk,el,em⟩:=bs ek;refine BB 7 ht rfl rfl (fun ρ h s' hs=>Db (h _ _ rfl) (h _ _ rfl) el) ?_;obtain⟨a4,cp,en⟩:=bs em;obtain⟨_,⟨_,_,rfl,rfl,⟨_,_,rfl,rfl,⟨cq,cr,rfl,eo⟩⟩⟩,ep⟩:=WL.at ap cp;refine F2 8 ht (ap).2 cp underlying130 AR ?_;refine DY 9 ht [iV a4.1,iV a4.2.1,sV cq a4.2.2 cr] 0 bg ep Cp AR ?_;refine Ci [10,11,12] ?_;obtain⟨eq,er,et⟩:=bs en;refine Ku (vs:= [.agg #[iV V.1,iV V.2.1,sV bi V.2.2 bj],.agg #[iV a4.1,iV a4.2.1,sV cq a4.2.2 cr]]) (G0 cn eo er) rfl rfl rfl rfl GQ rfl bg ?_;rintro _ ct _ a5 ⟨rfl,rfl⟩ bH;refine zg 1 rfl (AD (v:= .bool (decide (¬(eq<0)))) rfl (fun ρ h=>IX (h _ _ rfl)) ?_);refine JL.done (AL et (fun eu ew=>?_) (fun eu ex=>?_))
           ·refine JL.exit rfl ?_;obtain rfl:=oi ew;obtain rfl:=ck _ bG;exact Az (ci _ _ ⟨ct,f142,rfl,rfl,(bU.Ab a5),bH,(ap.Ah a5)⟩) rfl
           ·refine JL.skip (GZ [15,17] [K] mixed rfl ?_);refine Bp 0 rfl rfl (Bp 1 rfl rfl ?_);refine Bp 2 rfl rfl (Bp 3 rfl rfl ?_);obtain⟨cu,ey,ez⟩:=bs ex;refine GG 4 true rfl rfl (fun ρ h s' hs=>Db (h _ _ rfl) (h _ _ rfl) ey) (Bp 5 rfl rfl ?_);refine Bp 6 rfl rfl ?_;obtain⟨gl,eA,eB⟩:=bs ez;refine GG 7 true rfl rfl (fun ρ h s' hs=>Db (h _ _ rfl) (h _ _ rfl) eA) ?_;obtain⟨aY,cv,eC⟩:=bs eB;obtain⟨_,⟨_,_,rfl,rfl,⟨_,_,rfl,rfl,⟨bV,bW,rfl,eD⟩⟩⟩,eE⟩:=WL.at (ap.Ah a5) cv;refine Cu 8 ap.2 cv underlying130 AR ?_;refine Ef 9 [iV aY.1,iV aY.2.1,sV bV aY.2.2 bW] 0 bH eE Cp AR ?_;refine Bp 10 rfl rfl (Bp 11 rfl rfl ?_);refine Cu 12 ap.2 bh underlying130 AR ?_;refine Ef 13 [iV V.1,iV V.2.1,sV bi V.2.2 bj] 0 bH co Cp AR ?_;refine Cu 14 ap.2 bh underlying130 AR ?_;have bl:=WL.put (x':=aY) (ws':= [iV aY.1,iV aY.2.1,sV bV aY.2.2 bW]) (ap.Ah a5) ap.2 bh ⟨_,_,rfl,rfl,⟨_,_,rfl,rfl,⟨_,_,rfl,eD⟩⟩⟩;refine Ed 15 0 bH AR bl.2 fun eF=>?_;obtain⟨gm,bY,eG⟩:=bs eC;obtain⟨_,⟨_,_,rfl,rfl,⟨_,_,rfl,rfl,⟨gn,gp,rfl,gq⟩⟩⟩,gr⟩:=WL.at bl.1 bY;refine Cu 16 (bl.1).2 bY underlying130 AR ?_;have cw:=WL.put (x':=V) (ws':= [iV V.1,iV V.2.1,sV bi V.2.2 bj]) bl.1 (bl.1).2 bY ⟨_,_,rfl,rfl,⟨_,_,rfl,rfl,⟨_,_,rfl,(cn.Ah a5)⟩⟩⟩;refine Ed 17 0 eF AR cw.2 fun eH=>?_;refine JB.fin (by decide+kernel) ?_;obtain⟨eI,eJ,eK⟩:=bs eG;refine zg 3 rfl (Bc eJ rfl rfl rfl ?_);refine zg 2 rfl ?_;obtain rfl:=oi eK;exact Az (eg _ _ (eI,((a3.2.set (Int.toNat a3.1) aY).set (Int.toNat cu) V)) ⟨ct,(A0 (A0 f142 (Int.toNat (a3.1)*3) [iV aY.1,iV aY.2.1,sV bV aY.2.2 bW]) (Int.toNat (cu)*3) [iV V.1,iV V.2.1,sV bi V.2.2 bj]),rfl,rfl,(bU.Ab a5),eH,cw.1⟩ bG) rfl
          ·refine JL.exit rfl ?_;obtain rfl:=oi ej;obtain rfl:=ck _ bG;exact Az (ci _ _ ⟨bF,f142,rfl,rfl,bU,bg,ap⟩) rfl
        ·refine JL.skip ?_;obtain rfl:=oi dX;exact Az (cg _ _ ⟨a2,f99,rfl,rfl,Ar,cd,ce⟩) rfl
      ·intro cy;refine AL dI (fun eL eM=>?_) (fun eL eN=>?_)
       ·obtain⟨gt,eO,eP⟩:=bs eM;refine zg 3 rfl (Cd eO rfl rfl rfl ?_);obtain⟨eQ,eR,eS⟩:=bs eP;refine zg 2 rfl (Br (fun L s=>∃(bI:LH) (f224:Array Value),Jn bd H bI [bX K f224 133] [(0,.slice (AZ K) U O),(1,iV p1),(2,iV p2),(3,(fV 134)),(9,iV a0),(10,iV Z.2.1)] L s (WL 133 Ct bI K O U f224 eQ)) ?_ ?_)
        ·rintro _ _ ⟨bI,f224,rfl,rfl,eT,eU,eV⟩;obtain rfl:=oi eS;exact Az (cy _ _ ⟨bI,f224,rfl,rfl,eT,eU,eV⟩) rfl
        ·intro cz;refine JL.block (CN eR (fun L s a6=>∃(bJ:LH) (f232:Array Value),Jn bd H bJ [bX K f232 133] [(0,.slice (AZ K) U O),(1,iV p1),(2,iV p2),(3,(fV 134)),(9,iV a0),(10,iV Z.2.1),(11,iV a6.1)] L s (WL 133 Ct bJ K O U f232 a6.2)) ⟨bd,(A0 (A0 f27 (Int.toNat (a0)*3) [iV al.1,iV al.2.1,sV bx al.2.2 bz]) (Int.toNat (ca)*3) [iV am.1,iV am.2.1,sV bB am.2.2 bC]),rfl,rfl,Ar,cc,bT.1⟩ ?_);rintro _ _ a6 ⟨bJ,f232,rfl,rfl,bZ,bm,av⟩ cA ⟨gu,bK⟩ eW;have cB:=bK;unfold RU at cB;refine zg 6 rfl (AL cB (fun eX eY=>?_) (fun eX eZ=>?_))
         ·refine zg 5 rfl (Dh 10 [K] ⟨⟨0,_,rfl⟩,trivial⟩ bm fun ht=>?_);refine A4 ht rfl [0,1,2] rfl ?_;obtain⟨Y,bn,e0⟩:=bs eY;obtain⟨_,⟨_,_,rfl,rfl,⟨_,_,rfl,rfl,⟨bo,bp,rfl,cC⟩⟩⟩,cD⟩:=WL.at av bn;refine F2 3 ht (av).2 bn underlying130 AR ?_;refine DY 4 ht [iV Y.1,iV Y.2.1,sV bo Y.2.2 bp] 0 bm cD Cp AR ?_;refine A4 ht rfl [5,6] rfl ?_;obtain⟨gv,e1,e2⟩:=bs e0;refine BB 7 ht rfl rfl (fun ρ h s' hs=>Db (h _ _ rfl) (h _ _ rfl) e1) ?_;obtain⟨a7,cE,e3⟩:=bs e2;obtain⟨_,⟨_,_,rfl,rfl,⟨_,_,rfl,rfl,⟨cF,cG,rfl,e4⟩⟩⟩,e5⟩:=WL.at av cE;refine F2 8 ht (av).2 cE underlying130 AR ?_;refine DY 9 ht [iV a7.1,iV a7.2.1,sV cF a7.2.2 cG] 0 bm e5 Cp AR ?_;refine Ci [10,11,12] ?_;obtain⟨e6,e7,e8⟩:=bs e3;refine Ku (vs:= [.agg #[iV Y.1,iV Y.2.1,sV bo Y.2.2 bp],.agg #[iV a7.1,iV a7.2.1,sV cF a7.2.2 cG]]) (G0 cC e4 e7) rfl rfl rfl rfl GQ rfl bm ?_;rintro _ cH _ a8 ⟨rfl,rfl⟩ bL;refine zg 1 rfl (AD (v:= .bool (decide (¬(e6<0)))) rfl (fun ρ h=>IX (h _ _ rfl)) ?_);refine JL.done (AL e8 (fun e9 fa=>?_) (fun e9 fb=>?_))
          ·refine JL.exit rfl ?_;obtain rfl:=oi fa;obtain rfl:=cA _ bK;exact Az (cz _ _ ⟨cH,f232,rfl,rfl,(bZ.Ab a8),bL,(av.Ah a8)⟩) rfl
          ·refine JL.skip (GZ [15,17] [K] mixed rfl ?_);refine Bp 0 rfl rfl (Bp 1 rfl rfl ?_);refine Bp 2 rfl rfl (Bp 3 rfl rfl ?_);obtain⟨cI,fc,fd⟩:=bs fb;refine GG 4 true rfl rfl (fun ρ h s' hs=>Db (h _ _ rfl) (h _ _ rfl) fc) (Bp 5 rfl rfl ?_);refine Bp 6 rfl rfl ?_;obtain⟨gw,fe,ff⟩:=bs fd;refine GG 7 true rfl rfl (fun ρ h s' hs=>Db (h _ _ rfl) (h _ _ rfl) fe) ?_;obtain⟨aZ,cJ,fg⟩:=bs ff;obtain⟨_,⟨_,_,rfl,rfl,⟨_,_,rfl,rfl,⟨b0,b1,rfl,fh⟩⟩⟩,fj⟩:=WL.at (av.Ah a8) cJ;refine Cu 8 av.2 cJ underlying130 AR ?_;refine Ef 9 [iV aZ.1,iV aZ.2.1,sV b0 aZ.2.2 b1] 0 bL fj Cp AR ?_;refine Bp 10 rfl rfl (Bp 11 rfl rfl ?_);refine Cu 12 av.2 bn underlying130 AR ?_;refine Ef 13 [iV Y.1,iV Y.2.1,sV bo Y.2.2 bp] 0 bL cD Cp AR ?_;refine Cu 14 av.2 bn underlying130 AR ?_;have bq:=WL.put (x':=aZ) (ws':= [iV aZ.1,iV aZ.2.1,sV b0 aZ.2.2 b1]) (av.Ah a8) av.2 bn ⟨_,_,rfl,rfl,⟨_,_,rfl,rfl,⟨_,_,rfl,fh⟩⟩⟩;refine Ed 15 0 bL AR bq.2 fun fk=>?_;obtain⟨gx,b2,fm⟩:=bs fg;obtain⟨_,⟨_,_,rfl,rfl,⟨_,_,rfl,rfl,⟨gy,gz,rfl,gA⟩⟩⟩,gB⟩:=WL.at bq.1 b2;refine Cu 16 (bq.1).2 b2 underlying130 AR ?_;have cK:=WL.put (x':=Y) (ws':= [iV Y.1,iV Y.2.1,sV bo Y.2.2 bp]) bq.1 (bq.1).2 b2 ⟨_,_,rfl,rfl,⟨_,_,rfl,rfl,⟨_,_,rfl,(cC.Ah a8)⟩⟩⟩;refine Ed 17 0 fk AR cK.2 fun fo=>?_;refine JB.fin (by decide+kernel) ?_;obtain⟨fp,fq,fs⟩:=bs fm;refine zg 3 rfl (Cd fq rfl rfl rfl ?_);refine zg 2 rfl ?_;obtain rfl:=oi fs;exact Az (eW _ _ (fp,((a6.2.set (Int.toNat a6.1) aZ).set (Int.toNat cI) Y)) ⟨cH,(A0 (A0 f232 (Int.toNat (a6.1)*3) [iV aZ.1,iV aZ.2.1,sV b0 aZ.2.2 b1]) (Int.toNat (cI)*3) [iV Y.1,iV Y.2.1,sV bo Y.2.2 bp]),rfl,rfl,(bZ.Ab a8),fo,cK.1⟩ bK) rfl
         ·refine JL.exit rfl ?_;obtain rfl:=oi eZ;obtain rfl:=cA _ bK;exact Az (cz _ _ ⟨bJ,f232,rfl,rfl,bZ,bm,av⟩) rfl
       ·refine JL.skip ?_;obtain rfl:=oi eN;exact Az (cy _ _ ⟨bd,(A0 (A0 f27 (Int.toNat (a0)*3) [iV al.1,iV al.2.1,sV bx al.2.2 bz]) (Int.toNat (ca)*3) [iV am.1,iV am.2.1,sV bB am.2.2 bC]),rfl,rfl,Ar,cc,bT.1⟩) rfl
   ·refine JL.block (Cx de (fun br=> [bX K f27 133]) (fun br=> [(0,.slice (AZ K) U O),(1,iV p1),(2,iV p2),(3,(fV 134)),(9,iV br),(10,iV Z.2.1)]) Ar b8 ?_);rintro br cM a9 bu fu ⟨gC,b3⟩ fv;have cN:=b3;unfold I0 at cN;refine zg 2 rfl (Dh 18 [K] ⟨⟨0,_,rfl⟩,trivial⟩ bu fun ht=>?_);refine A4 ht rfl [0,1,2,3] rfl ?_;obtain⟨fw,cO,fx⟩:=bs cN;refine EY 0 #[true,true,true,true,true,true,true,true,true,true,true,true,true,true,true,true,true,true] (fun L s=>∃(cP:LH),Jm cM H cP [bX K f27 133] [(0,.slice (AZ K) U O),(1,iV p1),(2,iV p2),(3,(fV 134)),(9,iV br),(10,iV Z.2.1),(36,.bool fw)] L s) ?_ ?_
    ·rintro _ _ ⟨cP,rfl,rfl,cQ,cR⟩;refine AX.fin (by decide+kernel) (BH fx (fun fy fz=>?_) (fun fy fA=>?_))
     ·obtain⟨fB,fC,fD⟩:=bs fz;refine zg 4 rfl (Bc fC rfl rfl rfl ?_);refine zg 3 rfl ?_;obtain rfl:=oi fD;exact fv fB (a9.Ab cQ) cR rfl b3
     ·refine JL.exit rfl ?_;obtain rfl:=oi fA;obtain rfl:=fu _ b3;exact dg (a9.Ab cQ) cR rfl
    ·intro cT;refine FG (q:=br<p2) (i:=22) rfl (fun b4=>?_) (fun b4=>?_)
     ·have fE:=ip cO b4;refine A4 ht rfl [4,5,6] rfl ?_;obtain⟨ba,cV,fF⟩:=bs fE;obtain⟨_,⟨_,_,rfl,rfl,⟨_,_,rfl,rfl,⟨cW,cX,rfl,fG⟩⟩⟩,fH⟩:=WL.at (ag.Ah a9) cV;refine BB 7 ht rfl rfl (fun ρ h s' hs=>Gw ((ag.Ah a9)).2 cV underlying130 AR (h _ _ rfl) (h _ _ rfl)) ?_;refine DY 8 ht [iV ba.1,iV ba.2.1,sV cW ba.2.2 cX] 0 bu fH Cp AR ?_;refine A4 ht rfl [9,10] rfl ?_;obtain⟨gD,fI,fJ⟩:=bs fF;refine BB 11 ht rfl rfl (fun ρ h s' hs=>Db (h _ _ rfl) (h _ _ rfl) fI) ?_;obtain⟨bb,cY,fK⟩:=bs fJ;obtain⟨_,⟨_,_,rfl,rfl,⟨_,_,rfl,rfl,⟨cZ,c0,rfl,fL⟩⟩⟩,fM⟩:=WL.at (ag.Ah a9) cY;refine BB 12 ht rfl rfl (fun ρ h s' hs=>Gw ((ag.Ah a9)).2 cY underlying130 AR (h _ _ rfl) (h _ _ rfl)) ?_;refine DY 13 ht [iV bb.1,iV bb.2.1,sV cZ bb.2.2 c0] 0 bu fM Cp AR ?_;obtain⟨fN,fO,fP⟩:=bs fK;refine HH (i:=14) ⟨⟨0,_,rfl⟩,trivial⟩ (vs:= [.agg #[iV ba.1,iV ba.2.1,sV cW ba.2.2 cX],.agg #[iV bb.1,iV bb.2.1,sV cZ bb.2.2 c0]]) (G0 fG fL fO) (by decide+kernel) rfl rfl rfl rfl GQ rfl bu ?_;rintro _ fQ _ fR ⟨rfl,rfl⟩ fS;refine Cj 15 ht rfl rfl ?_;refine BB (v:= .bool (decide (¬(fN<0)))) 16 ht rfl rfl (fun ρ h s' hs=>IX (h _ _ rfl)) ?_;refine Cj 17 ht rfl rfl ?_;obtain rfl:=oi fP;refine CZ ?_ (cT _ _ ⟨fQ,rfl,rfl,fR,fS⟩);exact⟨rfl,rfl,rfl,rfl,rfl,rfl,rfl,trivial⟩
     ·have fT:=im cO b4;refine A4 ht rfl [4,5,6,7,8,9,10,11,12,13,14,15,16,17] rfl ?_;obtain rfl:=oi fT;refine CZ ?_ (cT _ _ ⟨cM,rfl,rfl,Ar,bu⟩);exact⟨rfl,rfl,rfl,rfl,rfl,rfl,rfl,trivial⟩
  ·refine JL.exit rfl ?_;obtain rfl:=oi dd;have fU:b7=(Sum.inr Z.2.2):=(bR _ bc).symm;exact Az (c9 _ _ ⟨Z.2.2,bv,f27,fU,rfl,rfl,bw,b8,ag⟩) rfl
def KG(fuel:Nat)(p0:List Bs)(p1:Int)(p3:Int)(O:Bs)(U:Bs)(V:Int)(K:Int):Option (Bi Int Int):= Option.bind (if K≤V then((ix ((p0.set (Int.toNat p1) O).set (Int.toNat p3) U) K).bind fun Y=> (ix ((p0.set (Int.toNat p1) O).set (Int.toNat p3) U) p1).bind fun Z=> (f134 fuel Y Z).bind fun ag=> some (decide (ag<0))) else(some false)) fun al=> if al=true then((As (K+1)).bind fun am=> some (.more am)) else(some (.done K))
def KH(fuel:Nat)(p0:List Bs)(p1:Int)(p3:Int)(O:Bs)(U:Bs)(V:Int)(K:Int):Option (Bi Int Int):= Option.bind (if V≤K then((ix ((p0.set (Int.toNat p1) O).set (Int.toNat p3) U) K).bind fun Y=> (ix ((p0.set (Int.toNat p1) O).set (Int.toNat p3) U) p1).bind fun Z=> (f134 fuel Y Z).bind fun ag=> some (decide (¬(ag<0)))) else(some false)) fun al=> if al=true then((As (K - 1)).bind fun am=> some (.more am)) else(some (.done K))
def JH(fuel:Nat)(p1:Int)(O:Int×Int×(List Bs))(K:Int):Option (Bi Int Int):= Option.bind (if K≤O.2.1 then((ix O.2.2 K).bind fun U=> (ix O.2.2 p1).bind fun V=> (f134 fuel U V).bind fun Y=> some (decide (Y<0))) else(some false)) fun Z=> if Z=true then((As (K+1)).bind fun ag=> some (.more ag)) else(some (.done K))
def JE(fuel:Nat)(p1:Int)(O:Int×Int×(List Bs))(U:Int)(K:Int):Option (Bi Int Int):= Option.bind (if U≤K then((ix O.2.2 K).bind fun V=> (ix O.2.2 p1).bind fun Y=> (f134 fuel V Y).bind fun Z=> some (decide (¬(Z<0)))) else(some false)) fun ag=> if ag=true then((As (K - 1)).bind fun al=> some (.more al)) else(some (.done K))
def I1(fuel:Nat)(p1:Int)(K:Int×Int×(List Bs)):Option (Bi (Int×Int×(List Bs)) (Int×(List Bs))):= Option.bind (iter (JH fuel p1 K) fuel K.1) fun O=> Option.bind (iter (JE fuel p1 K O) fuel K.2.1) fun U=> if U<O then(some (.done (U,K.2.2))) else((ix K.2.2 U).bind fun V=> (ix K.2.2 O).bind fun Y=> (As (O+1)).bind fun Z=> (As (U - 1)).bind fun ag=> some (.more (Z,ag,((K.2.2.set (Int.toNat O) V).set (Int.toNat U) Y))))
def f185(fuel:Nat)(p0:List Bs)(p1:Int)(p2:Int)(p3:Int):Option (Int×Bool×(List Bs)):= (ix p0 p3).bind fun K=> (ix p0 p1).bind fun O=> (As (p1+1)).bind fun ag=> (As (p2 - 1)).bind fun Z=> Option.bind (iter (KG fuel p0 p1 p3 K O Z) fuel ag) fun Y=> Option.bind (iter (KH fuel p0 p1 p3 K O Y) fuel Z) fun U=> if U<Y then((ix ((p0.set (Int.toNat p1) K).set (Int.toNat p3) O) p1).bind fun al=> (ix ((p0.set (Int.toNat p1) K).set (Int.toNat p3) O) U).bind fun am=> some (U,true,((((p0.set (Int.toNat p1) K).set (Int.toNat p3) O).set (Int.toNat U) al).set (Int.toNat p1) am))) else((ix ((p0.set (Int.toNat p1) K).set (Int.toNat p3) O) U).bind fun ap=> (ix ((p0.set (Int.toNat p1) K).set (Int.toNat p3) O) Y).bind fun av=> (As (Y+1)).bind fun aY=> (As (U - 1)).bind fun aZ=> Option.bind (iter (I1 fuel p1) fuel (aY,aZ,((((p0.set (Int.toNat p1) K).set (Int.toNat p3) O).set (Int.toNat Y) ap).set (Int.toNat U) av))) fun V=> (ix V.2 p1).bind fun a0=> (ix V.2 V.1).bind fun a1=> some (V.1,false,((V.2.set (Int.toNat V.1) a0).set (Int.toNat p1) a1)))
theorem SU{K:Nat}{Y:Nat}{Z:Nat}{av:Array Value}{p0:List (Bs)}{p1:Int}{p2:Int}{p3:Int}(hW:WL 133 Ct E K Y Z av p0){fuel:Nat}{r:Int×Bool×(List Bs)}(cq:f185 fuel p0 p1 p2 p3=some r):AK J 185 [.slice (AZ K) Z Y,iV p1,iV p2,iV p3,(fV 134)] E [(K,.cells av 133 (0,0))] (fun w E' B'=>∃(cr:Array Value),w= .tuple #[iV r.1,.bool r.2.1]∧B'= [(K,.cells cr 133 (0,0))]∧WL 133 Ct E' K Y Z cr r.2.2):=by
 refine A3 func185 fun Q gW cs H bO ct=>?_;unfold f185 at cq;refine zg 6 rfl (GZ [13,15] [K] mixed rfl ?_);refine Bp 0 rfl rfl (Bp 1 rfl rfl ?_);refine Bp 2 rfl rfl (Bp 3 rfl rfl ?_);refine Bp 4 rfl rfl (Bp 5 rfl rfl ?_);obtain⟨O,bE,dD⟩:=bs cq;obtain⟨_,⟨_,_,rfl,rfl,⟨_,_,rfl,rfl,⟨aY,c4,rfl,dE⟩⟩⟩,dF⟩:=WL.at hW bE;refine Cu 6 hW.2 bE underlying130 AR ?_;refine Ef 7 [iV O.1,iV O.2.1,sV aY O.2.2 c4] 0 bO dF Cp AR ?_;refine Bp 8 rfl rfl (Bp 9 rfl rfl ?_);obtain⟨U,bu,dG⟩:=bs dD;obtain⟨_,⟨_,_,rfl,rfl,⟨_,_,rfl,rfl,⟨aZ,a0,rfl,dH⟩⟩⟩,dI⟩:=WL.at hW bu;refine Cu 10 hW.2 bu underlying130 AR ?_;refine Ef 11 [iV U.1,iV U.2.1,sV aZ U.2.2 a0] 0 bO dI Cp AR ?_;refine Cu 12 hW.2 bu underlying130 AR ?_;have cu:=WL.put (x':=O) (ws':= [iV O.1,iV O.2.1,sV aY O.2.2 c4]) hW hW.2 bu ⟨_,_,rfl,rfl,⟨_,_,rfl,rfl,⟨_,_,rfl,dE⟩⟩⟩;refine Ed 13 0 bO AR cu.2 fun dJ=>?_;refine Cu 14 hW.2 bE underlying130 AR ?_;have V:=WL.put (x':=U) (ws':= [iV U.1,iV U.2.1,sV aZ U.2.2 a0]) cu.1 hW.2 bE ⟨_,_,rfl,rfl,⟨_,_,rfl,rfl,⟨_,_,rfl,dH⟩⟩⟩;refine Ed 15 0 dJ AR V.2 fun dK=>?_;refine JB.fin (by decide+kernel) ?_;obtain⟨gX,dL,dM⟩:=bs dG;refine zg 3 rfl (Bc dL rfl rfl rfl ?_);obtain⟨bF,dN,dO⟩:=bs dM;refine zg 1 rfl (Cd dN rfl rfl rfl ?_);obtain⟨bc,dP,dQ⟩:=bs dO;refine zg 4 rfl (C4 [bX K (A0 (A0 av (Int.toNat (p1)*3) [iV O.1,iV O.2.1,sV aY O.2.2 c4]) (Int.toNat (p3)*3) [iV U.1,iV U.2.1,sV aZ U.2.2 a0]) 133] [(0,.slice (AZ K) Z Y),(1,iV p1),(4,(fV 134)),(12,iV bc),(13,iV bF)] (fun gY al dR=>?_) (fun dS=>?_))
 ·obtain⟨bP,dT,dU⟩:=bs dQ;refine JL.seq (C4 [bX K (A0 (A0 av (Int.toNat (p1)*3) [iV O.1,iV O.2.1,sV aY O.2.2 c4]) (Int.toNat (p3)*3) [iV U.1,iV U.2.1,sV aZ U.2.2 a0]) 133] [(0,.slice (AZ K) Z Y),(1,iV p1),(4,(fV 134)),(12,iV bc),(13,iV bP)] (fun bQ ba bd=>?_) (fun dV=>?_))
  ·refine zg 7 rfl (AL dU (fun dW dX=>?_) (fun dW dY=>?_))
   ·refine JL.seq (GZ [13,15] [K] mixed rfl ?_);refine Bp 0 rfl rfl (Bp 1 rfl rfl ?_);refine Bp 2 rfl rfl (Bp 3 rfl rfl ?_);refine Bp 4 rfl rfl (Bp 5 rfl rfl ?_);refine Cu 6 hW.2 bu underlying130 AR ?_;obtain⟨a1,bR,dZ⟩:=bs dX;obtain⟨_,⟨_,_,rfl,rfl,⟨_,_,rfl,rfl,⟨bS,bT,rfl,ea⟩⟩⟩,eb⟩:=WL.at (V.1.Ah (al.Ab ba)) bR;refine Ef 7 [iV a1.1,iV a1.2.1,sV bS a1.2.2 bT] 0 bd eb Cp AR ?_;refine Bp 8 rfl rfl (Bp 9 rfl rfl ?_);obtain⟨a2,bG,ec⟩:=bs dZ;obtain⟨_,⟨_,_,rfl,rfl,⟨_,_,rfl,rfl,⟨bU,bV,rfl,ed⟩⟩⟩,ee⟩:=WL.at (V.1.Ah (al.Ab ba)) bG;refine Cu 10 (V.1).2 bG underlying130 AR ?_;refine Ef 11 [iV a2.1,iV a2.2.1,sV bU a2.2.2 bV] 0 bd ee Cp AR ?_;refine Cu 12 (V.1).2 bG underlying130 AR ?_;have cv:=WL.put (x':=a1) (ws':= [iV a1.1,iV a1.2.1,sV bS a1.2.2 bT]) (V.1.Ah (al.Ab ba)) (V.1).2 bG ⟨_,_,rfl,rfl,⟨_,_,rfl,rfl,⟨_,_,rfl,ea⟩⟩⟩;refine Ed 13 0 bd AR cv.2 fun ef=>?_;refine Cu 14 (V.1).2 bR underlying130 AR ?_;have cw:=WL.put (x':=a2) (ws':= [iV a2.1,iV a2.2.1,sV bU a2.2.2 bV]) cv.1 (V.1).2 bR ⟨_,_,rfl,rfl,⟨_,_,rfl,rfl,⟨_,_,rfl,ed⟩⟩⟩;refine Ed 15 0 ef AR cw.2 fun eg=>?_;refine JB.fin (by decide+kernel) (zg 6 rfl ?_);obtain rfl:=oi ec;exact AA func185 rfl rfl (ct (al.Ab ba) rfl ⟨(A0 (A0 (A0 (A0 av (Int.toNat (p1)*3) [iV O.1,iV O.2.1,sV aY O.2.2 c4]) (Int.toNat (p3)*3) [iV U.1,iV U.2.1,sV aZ U.2.2 a0]) (Int.toNat (bP)*3) [iV a1.1,iV a1.2.1,sV bS a1.2.2 bT]) (Int.toNat (p1)*3) [iV a2.1,iV a2.2.1,sV bU a2.2.2 bV]),rfl,(by first | rfl | simp | (simp [Value.cells])),cw.1⟩ eg)
   ·refine zg 2 rfl (GZ [13,15] [K] mixed rfl ?_);refine Bp 0 rfl rfl (Bp 1 rfl rfl ?_);refine Bp 2 rfl rfl (Bp 3 rfl rfl ?_);refine Bp 4 rfl rfl (Bp 5 rfl rfl ?_);obtain⟨a3,bH,eh⟩:=bs dY;obtain⟨_,⟨_,_,rfl,rfl,⟨_,_,rfl,rfl,⟨bW,bY,rfl,ei⟩⟩⟩,ej⟩:=WL.at (V.1.Ah (al.Ab ba)) bH;refine Cu 6 (V.1).2 bH underlying130 AR ?_;refine Ef 7 [iV a3.1,iV a3.2.1,sV bW a3.2.2 bY] 0 bd ej Cp AR ?_;refine Bp 8 rfl rfl (Bp 9 rfl rfl ?_);obtain⟨a4,bI,ek⟩:=bs eh;obtain⟨_,⟨_,_,rfl,rfl,⟨_,_,rfl,rfl,⟨bZ,b0,rfl,el⟩⟩⟩,em⟩:=WL.at (V.1.Ah (al.Ab ba)) bI;refine Cu 10 (V.1).2 bI underlying130 AR ?_;refine Ef 11 [iV a4.1,iV a4.2.1,sV bZ a4.2.2 b0] 0 bd em Cp AR ?_;refine Cu 12 (V.1).2 bI underlying130 AR ?_;have cy:=WL.put (x':=a3) (ws':= [iV a3.1,iV a3.2.1,sV bW a3.2.2 bY]) (V.1.Ah (al.Ab ba)) (V.1).2 bI ⟨_,_,rfl,rfl,⟨_,_,rfl,rfl,⟨_,_,rfl,ei⟩⟩⟩;refine Ed 13 0 bd AR cy.2 fun en=>?_;refine Cu 14 (V.1).2 bH underlying130 AR ?_;have cz:=WL.put (x':=a4) (ws':= [iV a4.1,iV a4.2.1,sV bZ a4.2.2 b0]) cy.1 (V.1).2 bH ⟨_,_,rfl,rfl,⟨_,_,rfl,rfl,⟨_,_,rfl,el⟩⟩⟩;refine Ed 15 0 en AR cz.2 fun eo=>?_;refine JB.fin (by decide+kernel) ?_;obtain⟨gZ,ep,eq⟩:=bs ek;refine zg 3 rfl (Bc ep rfl rfl rfl ?_);obtain⟨g0,er,et⟩:=bs eq;refine zg 5 rfl (Cd er rfl rfl rfl ?_);obtain⟨b1,eu,ew⟩:=bs et;refine zg 3 rfl (Br (fun L s=>∃(b2:LH) (f102:Array Value),Jn bQ H b2 [bX K f102 133] [(0,.slice (AZ K) Z Y),(1,iV p1),(13,iV b1.1)] L s (WL 133 Ct b2 K Y Z f102 b1.2)) ?_ ?_)
    ·rintro _ _ ⟨b2,f102,rfl,rfl,ex,b3,a8⟩;refine JL.seq (GZ [13,15] [K] mixed rfl ?_);refine Bp 0 rfl rfl (Bp 1 rfl rfl ?_);refine Bp 2 rfl rfl (Bp 3 rfl rfl ?_);refine Bp 4 rfl rfl (Bp 5 rfl rfl ?_);obtain⟨a5,bJ,ey⟩:=bs ew;obtain⟨_,⟨_,_,rfl,rfl,⟨_,_,rfl,rfl,⟨b4,b5,rfl,ez⟩⟩⟩,eA⟩:=WL.at a8 bJ;refine Cu 6 a8.2 bJ underlying130 AR ?_;refine Ef 7 [iV a5.1,iV a5.2.1,sV b4 a5.2.2 b5] 0 b3 eA Cp AR ?_;refine Bp 8 rfl rfl (Bp 9 rfl rfl ?_);obtain⟨a6,bK,eB⟩:=bs ey;obtain⟨_,⟨_,_,rfl,rfl,⟨_,_,rfl,rfl,⟨b6,b7,rfl,eC⟩⟩⟩,eD⟩:=WL.at a8 bK;refine Cu 10 a8.2 bK underlying130 AR ?_;refine Ef 11 [iV a6.1,iV a6.2.1,sV b6 a6.2.2 b7] 0 b3 eD Cp AR ?_;refine Cu 12 a8.2 bK underlying130 AR ?_;have cA:=WL.put (x':=a5) (ws':= [iV a5.1,iV a5.2.1,sV b4 a5.2.2 b5]) a8 a8.2 bK ⟨_,_,rfl,rfl,⟨_,_,rfl,rfl,⟨_,_,rfl,ez⟩⟩⟩;refine Ed 13 0 b3 AR cA.2 fun eE=>?_;refine Cu 14 a8.2 bJ underlying130 AR ?_;have cB:=WL.put (x':=a6) (ws':= [iV a6.1,iV a6.2.1,sV b6 a6.2.2 b7]) cA.1 a8.2 bJ ⟨_,_,rfl,rfl,⟨_,_,rfl,rfl,⟨_,_,rfl,eC⟩⟩⟩;refine Ed 15 0 eE AR cB.2 fun eF=>?_;refine JB.fin (by decide+kernel) (zg 6 rfl ?_);obtain rfl:=oi eB;exact AA func185 rfl rfl (ct ((al.Ab ba).Ab ex) rfl ⟨(A0 (A0 f102 (Int.toNat (b1.1)*3) [iV a5.1,iV a5.2.1,sV b4 a5.2.2 b5]) (Int.toNat (p1)*3) [iV a6.1,iV a6.2.1,sV b6 a6.2.2 b7]),rfl,(by first | rfl | simp | (simp [Value.cells])),cB.1⟩ eF)
    ·intro eG;refine JL.block (CN eu (fun L s a9=>∃(b8:LH) (f127:Array Value),Jn bQ H b8 [bX K f127 133] [(0,.slice (AZ K) Z Y),(1,iV p1),(4,(fV 134)),(12,iV a9.1),(13,iV a9.2.1)] L s (WL 133 Ct b8 K Y Z f127 a9.2.2)) ⟨bQ,(A0 (A0 (A0 (A0 av (Int.toNat (p1)*3) [iV O.1,iV O.2.1,sV aY O.2.2 c4]) (Int.toNat (p3)*3) [iV U.1,iV U.2.1,sV aZ U.2.2 a0]) (Int.toNat (bc)*3) [iV a3.1,iV a3.2.1,sV bW a3.2.2 bY]) (Int.toNat (bP)*3) [iV a4.1,iV a4.2.1,sV bZ a4.2.2 b0]),rfl,rfl,Ar,eo,cz.1⟩ ?_);rintro _ _ a9 ⟨b8,f127,rfl,rfl,cC,eH,ag⟩ eI ⟨g1,b9⟩ eJ;have cD:=b9;unfold I1 at cD;obtain⟨bb,eK,eL⟩:=bs cD;refine zg 2 rfl (C4 [bX K f127 133] [(0,.slice (AZ K) Z Y),(1,iV p1),(4,(fV 134)),(12,iV bb),(13,iV a9.2.1)] (fun g3 a7 eM=>?_) (fun eN=>?_))
     ·obtain⟨ca,eO,eP⟩:=bs eL;refine JL.seq (C4 [bX K f127 133] [(0,.slice (AZ K) Z Y),(1,iV p1),(4,(fV 134)),(12,iV bb),(13,iV ca)] (fun cE be bL=>?_) (fun eQ=>?_))
      ·refine zg 7 rfl (AL eP (fun eR eS=>?_) (fun eR eT=>?_))
       ·refine JL.exit rfl ?_;obtain rfl:=oi eS;obtain rfl:=eI _ b9;exact Az (eG _ _ ⟨cE,f127,rfl,rfl,((cC.Ab a7).Ab be),bL,(ag.Ah (a7.Ab be))⟩) rfl
       ·refine zg 2 rfl (GZ [13,15] [K] mixed rfl ?_);refine Bp 0 rfl rfl (Bp 1 rfl rfl ?_);refine Bp 2 rfl rfl (Bp 3 rfl rfl ?_);refine Bp 4 rfl rfl (Bp 5 rfl rfl ?_);obtain⟨am,bM,eU⟩:=bs eT;obtain⟨_,⟨_,_,rfl,rfl,⟨_,_,rfl,rfl,⟨cb,cc,rfl,eV⟩⟩⟩,eW⟩:=WL.at (ag.Ah (a7.Ab be)) bM;refine Cu 6 ag.2 bM underlying130 AR ?_;refine Ef 7 [iV am.1,iV am.2.1,sV cb am.2.2 cc] 0 bL eW Cp AR ?_;refine Bp 8 rfl rfl (Bp 9 rfl rfl ?_);obtain⟨ap,bN,eX⟩:=bs eU;obtain⟨_,⟨_,_,rfl,rfl,⟨_,_,rfl,rfl,⟨cd,ce,rfl,eY⟩⟩⟩,eZ⟩:=WL.at (ag.Ah (a7.Ab be)) bN;refine Cu 10 ag.2 bN underlying130 AR ?_;refine Ef 11 [iV ap.1,iV ap.2.1,sV cd ap.2.2 ce] 0 bL eZ Cp AR ?_;refine Cu 12 ag.2 bN underlying130 AR ?_;have cF:=WL.put (x':=am) (ws':= [iV am.1,iV am.2.1,sV cb am.2.2 cc]) (ag.Ah (a7.Ab be)) ag.2 bN ⟨_,_,rfl,rfl,⟨_,_,rfl,rfl,⟨_,_,rfl,eV⟩⟩⟩;refine Ed 13 0 bL AR cF.2 fun e0=>?_;refine Cu 14 ag.2 bM underlying130 AR ?_;have cG:=WL.put (x':=ap) (ws':= [iV ap.1,iV ap.2.1,sV cd ap.2.2 ce]) cF.1 ag.2 bM ⟨_,_,rfl,rfl,⟨_,_,rfl,rfl,⟨_,_,rfl,eY⟩⟩⟩;refine Ed 15 0 e0 AR cG.2 fun e1=>?_;refine JB.fin (by decide+kernel) ?_;obtain⟨e2,e3,e4⟩:=bs eX;refine zg 3 rfl (Bc e3 rfl rfl rfl ?_);obtain⟨e5,e6,e7⟩:=bs e4;refine zg 4 rfl (Cd e6 rfl rfl rfl ?_);refine zg 3 rfl ?_;obtain rfl:=oi e7;exact Az (eJ _ _ (e2,e5,((a9.2.2.set (Int.toNat bb) am).set (Int.toNat ca) ap)) ⟨cE,(A0 (A0 f127 (Int.toNat (bb)*3) [iV am.1,iV am.2.1,sV cb am.2.2 cc]) (Int.toNat (ca)*3) [iV ap.1,iV ap.2.1,sV cd ap.2.2 ce]),rfl,rfl,((cC.Ab a7).Ab be),e1,cG.1⟩ b9) rfl
      ·refine JL.block (Cx eO (fun bv=> [bX K f127 133]) (fun bv=> [(0,.slice (AZ K) Z Y),(1,iV p1),(4,(fV 134)),(12,iV bb),(13,iV bv)]) Ar eM ?_);rintro bv cH bf bw e8 ⟨g4,cf⟩ e9;have cI:=cf;unfold JE at cI;refine zg 2 rfl (Dh 17 [K] ⟨⟨0,_,rfl⟩,trivial⟩ bw fun ht=>?_);refine A4 ht rfl [0,1,2,3] rfl ?_;obtain⟨fa,cJ,fb⟩:=bs cI;refine EY 0 #[true,true,true,true,true,true,true,true,true,true,true,true,true,true,true,true,true] (fun L s=>∃(cK:LH),Jm cH H cK [bX K f127 133] [(0,.slice (AZ K) Z Y),(1,iV p1),(4,(fV 134)),(12,iV bb),(13,iV bv),(139,.bool fa)] L s) ?_ ?_
       ·rintro _ _ ⟨cK,rfl,rfl,cM,cN⟩;refine AX.fin (by decide+kernel) (BH fb (fun fc fd=>?_) (fun fc fe=>?_))
        ·obtain⟨ff,fg,fh⟩:=bs fd;refine zg 4 rfl (Cd fg rfl rfl rfl ?_);refine zg 3 rfl ?_;obtain rfl:=oi fh;exact e9 ff (bf.Ab cM) cN rfl cf
        ·refine JL.exit rfl ?_;obtain rfl:=oi fe;obtain rfl:=e8 _ cf;exact eQ (bf.Ab cM) cN rfl
       ·intro cO;refine FG (q:=bb≤bv) (i:=126) rfl (fun cg=>?_) (fun cg=>?_)
        ·have fj:=ip cJ cg;refine A4 ht rfl [4,5,6] rfl ?_;obtain⟨bg,cP,fk⟩:=bs fj;obtain⟨_,⟨_,_,rfl,rfl,⟨_,_,rfl,rfl,⟨cQ,cR,rfl,fm⟩⟩⟩,fo⟩:=WL.at (ag.Ah (a7.Ab bf)) cP;refine BB 7 ht rfl rfl (fun ρ h s' hs=>Gw ((ag.Ah (a7.Ab bf))).2 cP underlying130 AR (h _ _ rfl) (h _ _ rfl)) ?_;refine DY 8 ht [iV bg.1,iV bg.2.1,sV cQ bg.2.2 cR] 0 bw fo Cp AR ?_;refine A4 ht rfl [9,10] rfl ?_;obtain⟨bh,cT,fp⟩:=bs fk;obtain⟨_,⟨_,_,rfl,rfl,⟨_,_,rfl,rfl,⟨cV,cW,rfl,fq⟩⟩⟩,fs⟩:=WL.at (ag.Ah (a7.Ab bf)) cT;refine BB 11 ht rfl rfl (fun ρ h s' hs=>Gw ((ag.Ah (a7.Ab bf))).2 cT underlying130 AR (h _ _ rfl) (h _ _ rfl)) ?_;refine DY 12 ht [iV bh.1,iV bh.2.1,sV cV bh.2.2 cW] 0 bw fs Cp AR ?_;obtain⟨fu,fv,fw⟩:=bs fp;refine HH (i:=13) ⟨⟨0,_,rfl⟩,trivial⟩ (vs:= [.agg #[iV bg.1,iV bg.2.1,sV cQ bg.2.2 cR],.agg #[iV bh.1,iV bh.2.1,sV cV bh.2.2 cW]]) (G0 fm fq fv) (by decide+kernel) rfl rfl rfl rfl GQ rfl bw ?_;rintro _ fx _ fy ⟨rfl,rfl⟩ fz;refine Cj 14 ht rfl rfl ?_;refine BB (v:= .bool (decide (¬(fu<0)))) 15 ht rfl rfl (fun ρ h s' hs=>IX (h _ _ rfl)) ?_;refine Cj 16 ht rfl rfl ?_;obtain rfl:=oi fw;refine CZ ?_ (cO _ _ ⟨fx,rfl,rfl,fy,fz⟩);exact⟨rfl,rfl,rfl,rfl,rfl,rfl,trivial⟩
        ·have fA:=im cJ cg;refine A4 ht rfl [4,5,6,7,8,9,10,11,12,13,14,15,16] rfl ?_;obtain rfl:=oi fA;refine CZ ?_ (cO _ _ ⟨cH,rfl,rfl,Ar,bw⟩);exact⟨rfl,rfl,rfl,rfl,rfl,rfl,trivial⟩
     ·refine JL.block (Cx eK (fun bx=> [bX K f127 133]) (fun bx=> [(0,.slice (AZ K) Z Y),(1,iV p1),(4,(fV 134)),(12,iV bx),(13,iV a9.2.1)]) Ar eH ?_);rintro bx cX bi bz fB ⟨g5,ci⟩ fC;have cY:=ci;unfold JH at cY;refine zg 2 rfl (Dh 16 [K] ⟨⟨0,_,rfl⟩,trivial⟩ bz fun ht=>?_);refine A4 ht rfl [0,1,2,3] rfl ?_;obtain⟨fD,cZ,fE⟩:=bs cY;refine EY 0 #[true,true,true,true,true,true,true,true,true,true,true,true,true,true,true,true] (fun L s=>∃(c0:LH),Jm cX H c0 [bX K f127 133] [(0,.slice (AZ K) Z Y),(1,iV p1),(4,(fV 134)),(12,iV bx),(13,iV a9.2.1),(120,.bool fD)] L s) ?_ ?_
      ·rintro _ _ ⟨c0,rfl,rfl,c1,c2⟩;refine AX.fin (by decide+kernel) (BH fE (fun fF fG=>?_) (fun fF fH=>?_))
       ·obtain⟨fI,fJ,fK⟩:=bs fG;refine zg 4 rfl (Bc fJ rfl rfl rfl ?_);refine zg 3 rfl ?_;obtain rfl:=oi fK;exact fC fI (bi.Ab c1) c2 rfl ci
       ·refine JL.exit rfl ?_;obtain rfl:=oi fH;obtain rfl:=fB _ ci;exact eN (bi.Ab c1) c2 rfl
      ·intro c3;refine FG (q:=bx≤a9.2.1) (i:=108) rfl (fun ck=>?_) (fun ck=>?_)
       ·have fL:=ip cZ ck;refine A4 ht rfl [4,5,6] rfl ?_;obtain⟨bj,c5,fM⟩:=bs fL;obtain⟨_,⟨_,_,rfl,rfl,⟨_,_,rfl,rfl,⟨c6,c7,rfl,fN⟩⟩⟩,fO⟩:=WL.at (ag.Ah bi) c5;refine BB 7 ht rfl rfl (fun ρ h s' hs=>Gw ((ag.Ah bi)).2 c5 underlying130 AR (h _ _ rfl) (h _ _ rfl)) ?_;refine DY 8 ht [iV bj.1,iV bj.2.1,sV c6 bj.2.2 c7] 0 bz fO Cp AR ?_;refine A4 ht rfl [9,10] rfl ?_;obtain⟨bl,c8,fP⟩:=bs fM;obtain⟨_,⟨_,_,rfl,rfl,⟨_,_,rfl,rfl,⟨c9,da,rfl,fQ⟩⟩⟩,fR⟩:=WL.at (ag.Ah bi) c8;refine BB 11 ht rfl rfl (fun ρ h s' hs=>Gw ((ag.Ah bi)).2 c8 underlying130 AR (h _ _ rfl) (h _ _ rfl)) ?_;refine DY 12 ht [iV bl.1,iV bl.2.1,sV c9 bl.2.2 da] 0 bz fR Cp AR ?_;obtain⟨g6,fS,fT⟩:=bs fP;refine HH (i:=13) ⟨⟨0,_,rfl⟩,trivial⟩ (vs:= [.agg #[iV bj.1,iV bj.2.1,sV c6 bj.2.2 c7],.agg #[iV bl.1,iV bl.2.1,sV c9 bl.2.2 da]]) (G0 fN fQ fS) (by decide+kernel) rfl rfl rfl rfl GQ rfl bz ?_;rintro _ fU _ fW ⟨rfl,rfl⟩ fX;refine A4 ht rfl [14,15] rfl ?_;obtain rfl:=oi fT;refine CZ ?_ (c3 _ _ ⟨fU,rfl,rfl,fW,fX⟩);exact⟨rfl,rfl,rfl,rfl,rfl,rfl,trivial⟩
       ·have fY:=im cZ ck;refine A4 ht rfl [4,5,6,7,8,9,10,11,12,13,14,15] rfl ?_;obtain rfl:=oi fY;refine CZ ?_ (c3 _ _ ⟨cX,rfl,rfl,Ar,bz⟩);exact⟨rfl,rfl,rfl,rfl,rfl,rfl,trivial⟩
  ·refine JL.block (Cx dT (fun bA=> [bX K (A0 (A0 av (Int.toNat (p1)*3) [iV O.1,iV O.2.1,sV aY O.2.2 c4]) (Int.toNat (p3)*3) [iV U.1,iV U.2.1,sV aZ U.2.2 a0]) 133]) (fun bA=> [(0,.slice (AZ K) Z Y),(1,iV p1),(4,(fV 134)),(12,iV bc),(13,iV bA)]) Ar dR ?_);rintro bA db bm bB fZ ⟨g7,cm⟩ ga;have dc:=cm;unfold KH at dc;refine zg 2 rfl (Dh 17 [K] ⟨⟨0,_,rfl⟩,trivial⟩ bB fun ht=>?_);refine A4 ht rfl [0,1,2,3] rfl ?_;obtain⟨gb,dd,gc⟩:=bs dc;refine EY 0 #[true,true,true,true,true,true,true,true,true,true,true,true,true,true,true,true,true] (fun L s=>∃(de:LH),Jm db H de [bX K (A0 (A0 av (Int.toNat (p1)*3) [iV O.1,iV O.2.1,sV aY O.2.2 c4]) (Int.toNat (p3)*3) [iV U.1,iV U.2.1,sV aZ U.2.2 a0]) 133] [(0,.slice (AZ K) Z Y),(1,iV p1),(4,(fV 134)),(12,iV bc),(13,iV bA),(66,.bool gb)] L s) ?_ ?_
   ·rintro _ _ ⟨de,rfl,rfl,df,dg⟩;refine AX.fin (by decide+kernel) (BH gc (fun gd ge=>?_) (fun gd gf=>?_))
    ·obtain⟨gg,gh,gi⟩:=bs ge;refine zg 4 rfl (Cd gh rfl rfl rfl ?_);refine zg 3 rfl ?_;obtain rfl:=oi gi;exact ga gg (bm.Ab df) dg rfl cm
    ·refine JL.exit rfl ?_;obtain rfl:=oi gf;obtain rfl:=fZ _ cm;exact dV (bm.Ab df) dg rfl
   ·intro dh;refine FG (q:=bc≤bA) (i:=53) rfl (fun cn=>?_) (fun cn=>?_)
    ·have gj:=ip dd cn;refine A4 ht rfl [4,5,6] rfl ?_;obtain⟨bn,di,gk⟩:=bs gj;obtain⟨_,⟨_,_,rfl,rfl,⟨_,_,rfl,rfl,⟨dj,dk,rfl,gl⟩⟩⟩,gm⟩:=WL.at (V.1.Ah (al.Ab bm)) di;refine BB 7 ht rfl rfl (fun ρ h s' hs=>Gw ((V.1.Ah (al.Ab bm))).2 di underlying130 AR (h _ _ rfl) (h _ _ rfl)) ?_;refine DY 8 ht [iV bn.1,iV bn.2.1,sV dj bn.2.2 dk] 0 bB gm Cp AR ?_;refine A4 ht rfl [9,10] rfl ?_;obtain⟨bo,dl,gn⟩:=bs gk;obtain⟨_,⟨_,_,rfl,rfl,⟨_,_,rfl,rfl,⟨dm,dn,rfl,gp⟩⟩⟩,gq⟩:=WL.at (V.1.Ah (al.Ab bm)) dl;refine BB 11 ht rfl rfl (fun ρ h s' hs=>Gw ((V.1.Ah (al.Ab bm))).2 dl underlying130 AR (h _ _ rfl) (h _ _ rfl)) ?_;refine DY 12 ht [iV bo.1,iV bo.2.1,sV dm bo.2.2 dn] 0 bB gq Cp AR ?_;obtain⟨gr,gt,gu⟩:=bs gn;refine HH (i:=13) ⟨⟨0,_,rfl⟩,trivial⟩ (vs:= [.agg #[iV bn.1,iV bn.2.1,sV dj bn.2.2 dk],.agg #[iV bo.1,iV bo.2.1,sV dm bo.2.2 dn]]) (G0 gl gp gt) (by decide+kernel) rfl rfl rfl rfl GQ rfl bB ?_;rintro _ gv _ gw ⟨rfl,rfl⟩ gx;refine Cj 14 ht rfl rfl ?_;refine BB (v:= .bool (decide (¬(gr<0)))) 15 ht rfl rfl (fun ρ h s' hs=>IX (h _ _ rfl)) ?_;refine Cj 16 ht rfl rfl ?_;obtain rfl:=oi gu;refine CZ ?_ (dh _ _ ⟨gv,rfl,rfl,gw,gx⟩);exact⟨rfl,rfl,rfl,rfl,rfl,rfl,trivial⟩
    ·have gy:=im dd cn;refine A4 ht rfl [4,5,6,7,8,9,10,11,12,13,14,15,16] rfl ?_;obtain rfl:=oi gy;refine CZ ?_ (dh _ _ ⟨db,rfl,rfl,Ar,bB⟩);exact⟨rfl,rfl,rfl,rfl,rfl,rfl,trivial⟩
 ·refine JL.block (Cx dP (fun bC=> [bX K (A0 (A0 av (Int.toNat (p1)*3) [iV O.1,iV O.2.1,sV aY O.2.2 c4]) (Int.toNat (p3)*3) [iV U.1,iV U.2.1,sV aZ U.2.2 a0]) 133]) (fun bC=> [(0,.slice (AZ K) Z Y),(1,iV p1),(4,(fV 134)),(12,iV bC),(13,iV bF)]) Ar dK ?_);rintro bC dp bp bD gz ⟨g8,co⟩ gA;have dq:=co;unfold KG at dq;refine zg 2 rfl (Dh 16 [K] ⟨⟨0,_,rfl⟩,trivial⟩ bD fun ht=>?_);refine A4 ht rfl [0,1,2,3] rfl ?_;obtain⟨gB,dr,gC⟩:=bs dq;refine EY 0 #[true,true,true,true,true,true,true,true,true,true,true,true,true,true,true,true] (fun L s=>∃(dt:LH),Jm dp H dt [bX K (A0 (A0 av (Int.toNat (p1)*3) [iV O.1,iV O.2.1,sV aY O.2.2 c4]) (Int.toNat (p3)*3) [iV U.1,iV U.2.1,sV aZ U.2.2 a0]) 133] [(0,.slice (AZ K) Z Y),(1,iV p1),(4,(fV 134)),(12,iV bC),(13,iV bF),(47,.bool gB)] L s) ?_ ?_
  ·rintro _ _ ⟨dt,rfl,rfl,du,dv⟩;refine AX.fin (by decide+kernel) (BH gC (fun gD gE=>?_) (fun gD gF=>?_))
   ·obtain⟨gG,gH,gI⟩:=bs gE;refine zg 4 rfl (Bc gH rfl rfl rfl ?_);refine zg 3 rfl ?_;obtain rfl:=oi gI;exact gA gG (bp.Ab du) dv rfl co
   ·refine JL.exit rfl ?_;obtain rfl:=oi gF;obtain rfl:=gz _ co;exact dS (bp.Ab du) dv rfl
  ·intro dw;refine FG (q:=bC≤bF) (i:=35) rfl (fun cp=>?_) (fun cp=>?_)
   ·have gJ:=ip dr cp;refine A4 ht rfl [4,5,6] rfl ?_;obtain⟨bq,dx,gK⟩:=bs gJ;obtain⟨_,⟨_,_,rfl,rfl,⟨_,_,rfl,rfl,⟨dy,dz,rfl,gL⟩⟩⟩,gM⟩:=WL.at (V.1.Ah bp) dx;refine BB 7 ht rfl rfl (fun ρ h s' hs=>Gw ((V.1.Ah bp)).2 dx underlying130 AR (h _ _ rfl) (h _ _ rfl)) ?_;refine DY 8 ht [iV bq.1,iV bq.2.1,sV dy bq.2.2 dz] 0 bD gM Cp AR ?_;refine A4 ht rfl [9,10] rfl ?_;obtain⟨br,dA,gN⟩:=bs gK;obtain⟨_,⟨_,_,rfl,rfl,⟨_,_,rfl,rfl,⟨dB,dC,rfl,gO⟩⟩⟩,gP⟩:=WL.at (V.1.Ah bp) dA;refine BB 11 ht rfl rfl (fun ρ h s' hs=>Gw ((V.1.Ah bp)).2 dA underlying130 AR (h _ _ rfl) (h _ _ rfl)) ?_;refine DY 12 ht [iV br.1,iV br.2.1,sV dB br.2.2 dC] 0 bD gP Cp AR ?_;obtain⟨g9,gQ,gR⟩:=bs gN;refine HH (i:=13) ⟨⟨0,_,rfl⟩,trivial⟩ (vs:= [.agg #[iV bq.1,iV bq.2.1,sV dy bq.2.2 dz],.agg #[iV br.1,iV br.2.1,sV dB br.2.2 dC]]) (G0 gL gO gQ) (by decide+kernel) rfl rfl rfl rfl GQ rfl bD ?_;rintro _ gS _ gT ⟨rfl,rfl⟩ gU;refine A4 ht rfl [14,15] rfl ?_;obtain rfl:=oi gR;refine CZ ?_ (dw _ _ ⟨gS,rfl,rfl,gT,gU⟩);exact⟨rfl,rfl,rfl,rfl,rfl,rfl,trivial⟩
   ·have gV:=im dr cp;refine A4 ht rfl [4,5,6,7,8,9,10,11,12,13,14,15] rfl ?_;obtain rfl:=oi gV;refine CZ ?_ (dw _ _ ⟨dp,rfl,rfl,Ar,bD⟩);exact⟨rfl,rfl,rfl,rfl,rfl,rfl,trivial⟩
end Pal
namespace Pal
open Go Go.Conc Go.Proofs
open Go.Proofs.Tryz
variable {J:Judge Tryz.prog}{E:LH}
def Ml(fuel:Nat)(p0:List Bs)(p1:Int)(p2:Int)(p3:Int)(a6:Unit):Option (Bi Unit (((List Bs))⊕(Unit))):= (As (p2 - p1)).bind fun Z=> if Z≤12 then((f178 fuel p0 p1 p2).bind fun ag=> some (.done (Sum.inl ag))) else(if p3=0 then(none) else((f181 fuel p0 p1 p2).bind fun O=> Option.bind (if O.2=2 then((f182 fuel p0 p1 p2).bind fun al=> (As (p2 - 1)).bind fun am=> (As (O.1 - p1)).bind fun ap=> (As (am - ap)).bind fun av=> some (av,1,al)) else(some (O.1,O.2,p0))) fun K=> Option.bind (if K.2.1=1 then((f183 fuel K.2.2 p1 p2).bind fun U=> if U.1=true then(some (Sum.inl U.2)) else(some (Sum.inr U.2))) else(some (Sum.inr K.2.2))) fun aY=>Sum.elim (fun r=>some (.done (Sum.inl r))) (fun V=> Option.bind (if 0<p1 then((As (p1 - 1)).bind fun aZ=> (ix V aZ).bind fun a0=> (ix V K.1).bind fun a1=> (f134 fuel a0 a1).bind fun a2=> some (decide (¬(a2<0)))) else(some false)) fun a3=> if a3=true then(none) else((f185 fuel V p1 p2 K.1).bind fun Y=> (As (Y.1 - p1)).bind fun a4=> (As (p2 - Y.1)).bind fun a5=> (Hu Z (8)).bind fun a7=> if a4<a5 then(none) else((As (Y.1+1)).bind fun a8=> none))) aY))
def IA(fuel:Nat)(p0:List Bs)(p1:Int)(p2:Int)(p3:Int):Option ((List Bs)):= Option.bind (iter (Ml fuel p0 p1 p2 p3) fuel ()) fun K=> Sum.elim (fun r=>some r) (fun O=> none) K
theorem Rs{K:Nat}{O:Nat}{U:Nat}{aY:Array Value}{p0:List (Bs)}{p1:Int}{p2:Int}{p3:Int}(hW:WL 133 Ct E K O U aY p0){fuel:Nat}{r:(List Bs)}(a4:IA fuel p0 p1 p2 p3=some r):AK J 162 [.slice (AZ K) U O,iV p1,iV p2,iV p3,(fV 134)] E [(K,.cells aY 133 (0,0))] (fun w E' B'=>∃(a5:Array Value),w= .tuple #[]∧B'= [(K,.cells a5 133 (0,0))]∧WL 133 Ct E' K O U a5 r):=by
 refine A3 func162 fun Q c9 cs H bz a6=>?_;unfold IA at a4;obtain⟨da,bA,a7⟩:=bs a4;refine zg 8 rfl (Br (fun L s=>False) ?_ ?_)
 ·intro _ _ bB;exact bB.elim
 ·intro db;refine JL.block (Cx bA (fun a8=> [bX K aY 133]) (fun a8=> [(0,.slice (AZ K) U O),(1,iV p1),(2,iV p2),(3,iV p3),(4,(fV 134)),(10,.bool true),(11,.bool true)]) Ar bz ?_);rintro a8 dc V a9 ba ⟨dd,aZ⟩ de;have bb:=aZ;unfold Ml at bb;obtain⟨a0,bC,bD⟩:=bs bb;refine zg 5 rfl (Cd bC rfl rfl rfl ?_);refine zg 8 rfl (AL bD (fun bE bF=>?_) (fun bE bG=>?_))
  ·obtain⟨df,bH,bI⟩:=bs bF;refine zg 6 rfl (BZ 0 (SX (hW.Ah V) bH) rfl rfl NT a9 rfl ?_);rintro _ dg _ bJ ⟨f32,rfl,rfl,bK⟩ bL;refine JL.done ?_;obtain rfl:=oi bI;obtain rfl:=ba _ aZ;have bM:=elim_inl a7;obtain rfl:=oi bM;exact AA func162 rfl rfl (a6 (V.Ab bJ) rfl ⟨f32,rfl,(by first | rfl | simp | (simp [Value.cells])),bK⟩ bL)
  ·refine zg 7 rfl (AL bG (fun bN bO=>?_) (fun bN bP=>?_))
   ·refine zg 6 rfl ?_;cases bO
   ·refine zg 5 rfl (AD (v:= .bool false) rfl (fun ρ h=>Yl.not (c:=true) (h _ _ rfl)) ?_);obtain⟨dh,bQ,bR⟩:=bs bP;refine zg 9 rfl (BZ 0 (SI (hW.Ah V) bQ) rfl rfl (AS func181 rfl) a9 rfl ?_);rintro _ bc _ a1 ⟨rfl,rfl⟩ bd;obtain⟨Y,bS,bT⟩:=bs bR;refine zg 12 rfl (Br (fun L s=>∃(al:LH) (f56:Array Value),Jn bc H al [bX K f56 133] [(0,.slice (AZ K) U O),(1,iV p1),(2,iV p2),(3,iV p3),(4,(fV 134)),(10,.bool true),(11,.bool true),(12,iV a0),(13,iV Y.1),(14,iV Y.2.1)] L s (WL 133 Ct al K O U f56 Y.2.2)) ?_ ?_)
    ·rintro _ _ ⟨al,f56,rfl,rfl,bU,be,bf⟩;obtain⟨bV,bW,bg⟩:=bs bT;refine zg 12 rfl (Br (fun L s=>∃(a2:(List Bs)) (am:LH) (f65:Array Value),bV=Sum.inr a2∧Jn al H am [bX K f65 133] [(0,.slice (AZ K) U O),(1,iV p1),(2,iV p2),(3,iV p3),(4,(fV 134)),(10,.bool true),(11,.bool true),(12,iV a0),(13,iV Y.1)] L s (WL 133 Ct am K O U f65 a2)) ?_ ?_)
     ·rintro _ _ ⟨a2,am,f65,rfl,rfl,rfl,di,ap,av⟩;have bY:=elim_inr bg;refine zg 2 rfl (Dh 17 [K] ⟨⟨0,_,rfl⟩,trivial⟩ ap fun ht=>?_);refine A4 ht rfl [0,1,2] rfl ?_;obtain⟨bZ,bh,b0⟩:=bs bY;refine EY 0 #[true,true,true,true,true,true,true,true,true,true,true,true,true,true,true,true,true] (fun L s=>∃(bi:LH),Jm am H bi [bX K f65 133] [(0,.slice (AZ K) U O),(1,iV p1),(2,iV p2),(3,iV p3),(4,(fV 134)),(10,.bool true),(11,.bool true),(12,iV a0),(13,iV Y.1),(97,.bool bZ)] L s) ?_ ?_
      ·rintro _ _ ⟨bi,rfl,rfl,b1,b2⟩;refine AX.fin (by decide+kernel) (BH b0 (fun b3 b4=>?_) (fun b3 b5=>?_))
       ·refine zg 7 rfl ?_;cases b4
       ·obtain⟨dj,b6,b7⟩:=bs b5;refine zg 8 rfl (BZ 0 (SU (av.Ah b1) b6) rfl rfl (AS func185 rfl) b2 rfl ?_);rintro _ dk _ dl ⟨f83,rfl,rfl,dm⟩ dn;obtain⟨dp,b8,b9⟩:=bs b7;refine zg 15 rfl (Cd b8 rfl rfl rfl ?_);obtain⟨dq,ca,cb⟩:=bs b9;refine zg 2 rfl (Cd ca rfl rfl rfl ?_);obtain⟨cc,cd,ce⟩:=bs cb;refine zg 6 rfl (AD (v:=iV cc) rfl (fun ρ h=>KM (h _ _ rfl) (h _ _ rfl) cd) ?_);refine zg 8 rfl (AL ce (fun cf cg=>?_) (fun cf ci=>?_))
        ·refine zg 14 rfl ?_;cases cg
        ·obtain⟨dr,ck,cm⟩:=bs ci;refine zg 11 rfl (Bc ck rfl rfl rfl ?_);refine zg 3 rfl ?_;cases cm
      ·intro bj;refine FG (q:=0<p1) (i:=83) rfl (fun a3=>?_) (fun a3=>?_)
       ·have cn:=ip bh a3;refine A4 ht rfl [3,4,5] rfl ?_;obtain⟨dt,co,cp⟩:=bs cn;refine BB 6 ht rfl rfl (fun ρ h s' hs=>Db (h _ _ rfl) (h _ _ rfl) co) ?_;obtain⟨Z,bl,cq⟩:=bs cp;obtain⟨_,⟨_,_,rfl,rfl,⟨_,_,rfl,rfl,⟨bm,bn,rfl,cr⟩⟩⟩,ct⟩:=WL.at av bl;refine F2 7 ht (av).2 bl underlying130 AR ?_;refine DY 8 ht [iV Z.1,iV Z.2.1,sV bm Z.2.2 bn] 0 ap ct Cp AR ?_;refine A4 ht rfl [9,10] rfl ?_;obtain⟨ag,bo,cu⟩:=bs cq;obtain⟨_,⟨_,_,rfl,rfl,⟨_,_,rfl,rfl,⟨bp,bq,rfl,cv⟩⟩⟩,cw⟩:=WL.at av bo;refine F2 11 ht (av).2 bo underlying130 AR ?_;refine DY 12 ht [iV ag.1,iV ag.2.1,sV bp ag.2.2 bq] 0 ap cw Cp AR ?_;obtain⟨cy,cz,cA⟩:=bs cu;refine HH (i:=13) ⟨⟨0,_,rfl⟩,trivial⟩ (vs:= [.agg #[iV Z.1,iV Z.2.1,sV bm Z.2.2 bn],.agg #[iV ag.1,iV ag.2.1,sV bp ag.2.2 bq]]) (G0 cr cv cz) (by decide+kernel) rfl rfl rfl rfl GQ rfl ap ?_;rintro _ cB _ cC ⟨rfl,rfl⟩ cD;refine Cj 14 ht rfl rfl ?_;refine BB (v:= .bool (decide (¬(cy<0)))) 15 ht rfl rfl (fun ρ h s' hs=>IX (h _ _ rfl)) ?_;refine Cj 16 ht rfl rfl ?_;obtain rfl:=oi cA;refine CZ ?_ (bj _ _ ⟨cB,rfl,rfl,cC,cD⟩);exact⟨rfl,rfl,rfl,rfl,rfl,rfl,rfl,rfl,rfl,rfl,trivial⟩
       ·have cE:=im bh a3;refine A4 ht rfl [3,4,5,6,7,8,9,10,11,12,13,14,15,16] rfl ?_;obtain rfl:=oi cE;refine CZ ?_ (bj _ _ ⟨am,rfl,rfl,Ar,ap⟩);exact⟨rfl,rfl,rfl,rfl,rfl,rfl,rfl,rfl,rfl,rfl,trivial⟩
     ·intro br;refine AL bW (fun cF cG=>?_) (fun cF cH=>?_)
      ·obtain⟨cI,cJ,cK⟩:=bs cG;refine zg 6 rfl (BZ 0 (Sk bf cJ) rfl rfl (AS func183 rfl) be rfl ?_);rintro _ cM _ bu ⟨f133,rfl,rfl,bv⟩ bw;refine JL.done (BH cK (fun cN cO=>?_) (fun cN cP=>?_))
       ·obtain rfl:=oi cO;have cQ:=elim_inl bg;obtain rfl:=oi cQ;obtain rfl:=ba _ aZ;have cR:=elim_inl a7;obtain rfl:=oi cR;exact AA func162 rfl rfl (a6 (((V.Ab a1).Ab bU).Ab bu) rfl ⟨f133,rfl,(by first | rfl | simp | (simp [Value.cells])),bv⟩ bw)
       ·exact JL.skip (Az (br _ _ ⟨cI.2,cM,f133,(Option.some.inj cP).symm,rfl,rfl,bu,bw,bv⟩) rfl)
      ·exact JL.skip (Az (br _ _ ⟨Y.2.2,al,f56,(Option.some.inj cH).symm,rfl,rfl,Ar,be,bf⟩) rfl)
    ·intro bx;refine AL bS (fun cT cV=>?_) (fun cT cW=>?_)
     ·obtain⟨du,cX,cY⟩:=bs cV;refine zg 6 rfl (BZ 0 (Sl (hW.Ah (V.Ab a1)) cX) rfl rfl (AS func182 rfl) bd rfl ?_);rintro _ cZ _ c0 ⟨f156,rfl,rfl,c1⟩ c2;obtain⟨dv,c3,c4⟩:=bs cY;refine zg 4 rfl (Cd c3 rfl rfl rfl ?_);obtain⟨dw,c5,c6⟩:=bs c4;refine zg 2 rfl (Cd c5 rfl rfl rfl ?_);obtain⟨dx,c7,c8⟩:=bs c6;refine Cd c7 rfl rfl rfl (zg 5 rfl ?_);obtain rfl:=oi c8;exact Az (bx _ _ ⟨cZ,f156,rfl,rfl,c0,c2,c1⟩) rfl
     ·refine JL.skip ?_;obtain rfl:=oi cW;exact Az (bx _ _ ⟨bc,aY,rfl,rfl,Ar,bd,(hW.Ah (V.Ab a1))⟩) rfl
def Hl(fuel:Nat)(p3:Int)(K:Int×Int×Bool×Bool×(List Bs)):Option (Bi (Int×Int×Bool×Bool×(List Bs)) (((List Bs))⊕(Unit))):= Option.bind ((As (K.2.1 - K.1)).bind fun al=> if al≤12 then((f178 fuel K.2.2.2.2 K.1 K.2.1).bind fun aY=> some (Sum.inl aY)) else(if p3=0 then(none) else(Option.bind (if(!K.2.2.1)=true then(none) else(some ())) fun bh=> (f181 fuel K.2.2.2.2 K.1 K.2.1).bind fun V=> Option.bind (if V.2=2 then((f182 fuel K.2.2.2.2 K.1 K.2.1).bind fun aZ=> (As (K.2.1 - 1)).bind fun a0=> (As (V.1 - K.1)).bind fun a1=> (As (a0 - a1)).bind fun a2=> some (a2,1,aZ)) else(some (V.1,V.2,K.2.2.2.2))) fun U=> Option.bind (if K.2.2.1=true then(some K.2.2.2.1) else(some false)) fun a3=> Option.bind (if a3=true then(some (decide (U.2.1=1))) else(some false)) fun a4=> Option.bind (if a4=true then((f183 fuel U.2.2 K.1 K.2.1).bind fun Z=> if Z.1=true then(some (Sum.inl Z.2)) else(some (Sum.inr Z.2))) else(some (Sum.inr U.2.2))) fun a5=>Sum.elim (fun r=>some (Sum.inl r)) (fun ag=> Option.bind (if 0<K.1 then((As (K.1 - 1)).bind fun a6=> (ix ag a6).bind fun a7=> (ix ag U.1).bind fun a8=> (f134 fuel a7 a8).bind fun a9=> some (decide (¬(a9<0)))) else(some false)) fun ba=> if ba=true then(none) else((f185 fuel ag K.1 K.2.1 U.1).bind fun O=> (As (O.1 - K.1)).bind fun am=> (As (K.2.1 - O.1)).bind fun ap=> (Hu al (8)).bind fun av=> Option.bind (if am<ap then((IA fuel O.2.2 K.1 O.1 p3).bind fun bb=> (As (O.1+1)).bind fun bc=> some (bc,K.2.1,decide (av≤am),bb)) else((As (O.1+1)).bind fun bd=> (IA fuel O.2.2 bd K.2.1 p3).bind fun be=> some (K.1,O.1,decide (av≤ap),be))) fun Y=> some (Sum.inr (Y.1,Y.2.1,Y.2.2.1,O.2.1,Y.2.2.2)))) a5))) fun bf=>Sum.elim (fun r=>some (.done (Sum.inl r))) (fun bg=> some (.more bg)) bf
def f162(fuel:Nat)(p0:List Bs)(p1:Int)(p2:Int)(p3:Int):Option ((List Bs)):= Option.bind (iter (Hl fuel p3) fuel (p1,p2,true,true,p0)) fun K=> Sum.elim (fun r=>some r) (fun O=> none) K
theorem Y3{O:Nat}{U:Nat}{V:Nat}{ba:Array Value}{p0:List (Bs)}{p1:Int}{p2:Int}{p3:Int}(hW:WL 133 Ct E O U V ba p0){fuel:Nat}{r:(List Bs)}(bh:f162 fuel p0 p1 p2 p3=some r):AK J 162 [.slice (AZ O) V U,iV p1,iV p2,iV p3,(fV 134)] E [(O,.cells ba 133 (0,0))] (fun w E' B'=>∃(bi:Array Value),w= .tuple #[]∧B'= [(O,.cells bi 133 (0,0))]∧WL 133 Ct E' O U V bi r):=by
 refine A3 func162 fun Q ex cs H bV bj=>?_;unfold f162 at bh;obtain⟨ey,bW,bl⟩:=bs bh;refine zg 8 rfl (Br (fun L s=>False) ?_ ?_)
 ·intro _ _ bY;exact bY.elim
 ·intro ez;refine JL.block (CN bW (fun L s K=>∃(a1:LH) (f22:Array Value),Jn E H a1 [bX O f22 133] [(0,.slice (AZ O) V U),(1,iV K.1),(2,iV K.2.1),(3,iV p3),(4,(fV 134)),(10,.bool K.2.2.1),(11,.bool K.2.2.2.1)] L s (WL 133 Ct a1 O U V f22 K.2.2.2.2)) ⟨E,ba,rfl,rfl,Ar,bV,hW⟩ ?_);rintro _ _ K ⟨a1,f22,rfl,rfl,bb,bm,a2⟩ bn ⟨eA,a3⟩ bZ;have bo:=a3;unfold Hl at bo;obtain⟨b0,b1,bc⟩:=bs bo;refine Br (fun L s=>∃(Z:Int×Int×Bool×Bool×(List Bs)) (a4:LH) (f36:Array Value),b0=Sum.inr Z∧Jn a1 H a4 [bX O f36 133] [(0,.slice (AZ O) V U),(1,iV Z.1),(2,iV Z.2.1),(3,iV p3),(4,(fV 134)),(10,.bool Z.2.2.1),(11,.bool Z.2.2.2.1)] L s (WL 133 Ct a4 O U V f36 Z.2.2.2.2)) ?_ ?_
  ·rintro _ _ ⟨Z,a4,f36,rfl,rfl,rfl,b2,b3,b4⟩;have b5:=elim_inr bc;obtain rfl:=oi b5;exact Az (bZ _ _ Z ⟨a4,f36,rfl,rfl,(bb.Ab b2),b3,b4⟩ a3) rfl
  ·intro b6;obtain⟨al,b7,b8⟩:=bs b1;refine zg 5 rfl (Cd b7 rfl rfl rfl ?_);refine zg 8 rfl (AL b8 (fun b9 ca=>?_) (fun b9 cb=>?_))
   ·obtain⟨eB,cc,cd⟩:=bs ca;refine zg 6 rfl (BZ 0 (SX a2 cc) rfl rfl NT bm rfl ?_);rintro _ eC _ ce ⟨f52,rfl,rfl,cf⟩ cg;refine JL.done ?_;obtain rfl:=oi cd;have ci:=elim_inl bc;obtain rfl:=oi ci;obtain rfl:=bn _ a3;have ck:=elim_inl bl;obtain rfl:=oi ck;exact AA func162 rfl rfl (bj (bb.Ab ce) rfl ⟨f52,rfl,(by first | rfl | simp | (simp [Value.cells])),cf⟩ cg)
   ·refine zg 7 rfl (AL cb (fun cm cn=>?_) (fun cm co=>?_))
    ·refine zg 6 rfl ?_;cases cn
    ·refine zg 5 rfl (AD (v:= .bool (!K.2.2.1)) rfl (fun ρ h=>Yl.not (h _ _ rfl)) ?_);obtain⟨eD,cp,cq⟩:=bs co;refine JL.done (C4 [bX O f22 133] [(0,.slice (AZ O) V U),(1,iV K.1),(2,iV K.2.1),(3,iV p3),(4,(fV 134)),(10,.bool K.2.2.1),(11,.bool K.2.2.2.1),(12,iV al)] (fun eE av cr=>?_) (fun ct=>?_))
     ·obtain⟨eF,cu,cv⟩:=bs cq;refine zg 6 rfl (BZ 0 (SI (a2.Ah av) cu) rfl rfl (AS func181 rfl) cr rfl ?_);rintro _ bp _ a5 ⟨rfl,rfl⟩ bq;obtain⟨Y,cw,cy⟩:=bs cv;refine zg 12 rfl (Br (fun L s=>∃(bd:LH) (f84:Array Value),Jn bp H bd [bX O f84 133] [(0,.slice (AZ O) V U),(1,iV K.1),(2,iV K.2.1),(3,iV p3),(4,(fV 134)),(10,.bool K.2.2.1),(11,.bool K.2.2.2.1),(12,iV al),(13,iV Y.1),(14,iV Y.2.1)] L s (WL 133 Ct bd O U V f84 Y.2.2)) ?_ ?_)
      ·rintro _ _ ⟨bd,f84,rfl,rfl,br,bu,bv⟩;obtain⟨cz,cA,cB⟩:=bs cy;refine zg 5 rfl (Dr 4 4 [bX O f84 133] [(0,.slice (AZ O) V U),(1,iV K.1),(2,iV K.2.1),(3,iV p3),(4,(fV 134)),(10,.bool K.2.2.1),(11,.bool K.2.2.2.1),(12,iV al),(13,iV Y.1),(14,iV Y.2.1),(71,.bool cz)] (fun be a6 bw=>?_) (fun bx=>?_))
       ·obtain⟨cC,cD,cE⟩:=bs cB;refine zg 1 rfl (EC [] (fun L s=>∃(a7:LH),Jm be H a7 [bX O f84 133] [(0,.slice (AZ O) V U),(1,iV K.1),(2,iV K.2.1),(3,iV p3),(4,(fV 134)),(10,.bool K.2.2.1),(11,.bool K.2.2.2.1),(12,iV al),(13,iV Y.1),(75,.bool cC)] L s) ?_ ?_)
        ·rintro _ _ ⟨a7,rfl,rfl,a8,bz⟩;obtain⟨cF,cG,bA⟩:=bs cE;refine JL.done (Br (fun L s=>∃(bf:(List Bs)) (aY:LH) (f105:Array Value),cF=Sum.inr bf∧Jn a7 H aY [bX O f105 133] [(0,.slice (AZ O) V U),(1,iV K.1),(2,iV K.2.1),(3,iV p3),(4,(fV 134)),(10,.bool K.2.2.1),(11,.bool K.2.2.2.1),(12,iV al),(13,iV Y.1)] L s (WL 133 Ct aY O U V f105 bf)) ?_ ?_)
         ·rintro _ _ ⟨bf,aY,f105,rfl,rfl,rfl,cH,aZ,a0⟩;have cI:=elim_inr bA;refine zg 2 rfl (Dh 17 [O] ⟨⟨0,_,rfl⟩,trivial⟩ aZ fun ht=>?_);refine A4 ht rfl [0,1,2] rfl ?_;obtain⟨cJ,bB,cK⟩:=bs cI;refine EY 0 #[true,true,true,true,true,true,true,true,true,true,true,true,true,true,true,true,true] (fun L s=>∃(bC:LH),Jm aY H bC [bX O f105 133] [(0,.slice (AZ O) V U),(1,iV K.1),(2,iV K.2.1),(3,iV p3),(4,(fV 134)),(10,.bool K.2.2.1),(11,.bool K.2.2.2.1),(12,iV al),(13,iV Y.1),(97,.bool cJ)] L s) ?_ ?_
          ·rintro _ _ ⟨bC,rfl,rfl,bD,cM⟩;refine AX.fin (by decide+kernel) (BH cK (fun cN cO=>?_) (fun cN cP=>?_))
           ·refine zg 7 rfl ?_;cases cO
           ·obtain⟨bE,cQ,cR⟩:=bs cP;refine zg 8 rfl (BZ 0 (SU (a0.Ah bD) cQ) rfl rfl (AS func185 rfl) cM rfl ?_);rintro _ cT _ cV ⟨f123,rfl,rfl,bF⟩ bG;obtain⟨eG,cW,cX⟩:=bs cR;refine zg 15 rfl (Cd cW rfl rfl rfl ?_);obtain⟨eH,cY,cZ⟩:=bs cX;refine zg 2 rfl (Cd cY rfl rfl rfl ?_);obtain⟨c0,c1,c2⟩:=bs cZ;refine zg 6 rfl (AD (v:=iV c0) rfl (fun ρ h=>KM (h _ _ rfl) (h _ _ rfl) c1) ?_);obtain⟨ag,c3,c4⟩:=bs c2;refine zg 8 rfl (Br (fun L s=>∃(a9:LH) (f138:Array Value),Jn cT H a9 [bX O f138 133] [(0,.slice (AZ O) V U),(1,iV ag.1),(2,iV ag.2.1),(3,iV p3),(4,(fV 134)),(10,.bool ag.2.2.1),(11,.bool bE.2.1)] L s (WL 133 Ct a9 O U V f138 ag.2.2.2)) ?_ ?_)
            ·rintro _ _ ⟨a9,f138,rfl,rfl,c5,c6,c7⟩;exact L9 (Az (b6 _ _ ⟨(ag.1,ag.2.1,ag.2.2.1,bE.2.1,ag.2.2.2),a9,f138,(Option.some.inj c4).symm,rfl,rfl,((((((((av.Ab a5).Ab br).Ab a6).Ab a8).Ab cH).Ab bD).Ab cV).Ab c5),c6,c7⟩) rfl)
            ·intro bH;refine AL c3 (fun c8 c9=>?_) (fun c8 da=>?_)
             ·obtain⟨eI,db,dc⟩:=bs c9;refine zg 14 rfl (BZ 0 (Rs bF db) rfl rfl LW bG rfl ?_);rintro _ dd _ de ⟨f150,rfl,rfl,df⟩ dg;obtain⟨eJ,dh,di⟩:=bs dc;refine zg 3 rfl (Bc dh rfl rfl rfl ?_);refine zg 2 rfl ?_;obtain rfl:=oi di;exact Az (bH _ _ ⟨dd,f150,rfl,rfl,de,dg,df⟩) rfl
             ·obtain⟨eK,dj,dk⟩:=bs da;refine zg 11 rfl (Bc dj rfl rfl rfl ?_);obtain⟨eL,dl,dm⟩:=bs dk;refine zg 3 rfl (BZ 0 (Rs bF dl) rfl rfl LW bG rfl ?_);rintro _ dn _ dp ⟨f165,rfl,rfl,dq⟩ dr;refine zg 5 rfl ?_;obtain rfl:=oi dm;exact Az (bH _ _ ⟨dn,f165,rfl,rfl,dp,dr,dq⟩) rfl
          ·intro bI;refine FG (q:=0<K.1) (i:=83) rfl (fun bg=>?_) (fun bg=>?_)
           ·have dt:=ip bB bg;refine A4 ht rfl [3,4,5] rfl ?_;obtain⟨eM,du,dv⟩:=bs dt;refine BB 6 ht rfl rfl (fun ρ h s' hs=>Db (h _ _ rfl) (h _ _ rfl) du) ?_;obtain⟨am,bJ,dw⟩:=bs dv;obtain⟨_,⟨_,_,rfl,rfl,⟨_,_,rfl,rfl,⟨bK,bL,rfl,dx⟩⟩⟩,dy⟩:=WL.at a0 bJ;refine F2 7 ht (a0).2 bJ underlying130 AR ?_;refine DY 8 ht [iV am.1,iV am.2.1,sV bK am.2.2 bL] 0 aZ dy Cp AR ?_;refine A4 ht rfl [9,10] rfl ?_;obtain⟨ap,bM,dz⟩:=bs dw;obtain⟨_,⟨_,_,rfl,rfl,⟨_,_,rfl,rfl,⟨bN,bO,rfl,dA⟩⟩⟩,dB⟩:=WL.at a0 bM;refine F2 11 ht (a0).2 bM underlying130 AR ?_;refine DY 12 ht [iV ap.1,iV ap.2.1,sV bN ap.2.2 bO] 0 aZ dB Cp AR ?_;obtain⟨dC,dD,dE⟩:=bs dz;refine HH (i:=13) ⟨⟨0,_,rfl⟩,trivial⟩ (vs:= [.agg #[iV am.1,iV am.2.1,sV bK am.2.2 bL],.agg #[iV ap.1,iV ap.2.1,sV bN ap.2.2 bO]]) (G0 dx dA dD) (by decide+kernel) rfl rfl rfl rfl GQ rfl aZ ?_;rintro _ dF _ dG ⟨rfl,rfl⟩ dH;refine Cj 14 ht rfl rfl ?_;refine BB (v:= .bool (decide (¬(dC<0)))) 15 ht rfl rfl (fun ρ h s' hs=>IX (h _ _ rfl)) ?_;refine Cj 16 ht rfl rfl ?_;obtain rfl:=oi dE;refine CZ ?_ (bI _ _ ⟨dF,rfl,rfl,dG,dH⟩);exact⟨rfl,rfl,rfl,rfl,rfl,rfl,rfl,rfl,rfl,rfl,trivial⟩
           ·have dI:=im bB bg;refine A4 ht rfl [3,4,5,6,7,8,9,10,11,12,13,14,15,16] rfl ?_;obtain rfl:=oi dI;refine CZ ?_ (bI _ _ ⟨aY,rfl,rfl,Ar,aZ⟩);exact⟨rfl,rfl,rfl,rfl,rfl,rfl,rfl,rfl,rfl,rfl,trivial⟩
         ·intro bP;refine BH cG (fun dJ dK=>?_) (fun dJ dL=>?_)
          ·obtain⟨dM,dN,dO⟩:=bs dK;refine zg 6 rfl (BZ 0 (Sk (bv.Ah (a6.Ab a8)) dN) rfl rfl (AS func183 rfl) bz rfl ?_);rintro _ dP _ bQ ⟨f205,rfl,rfl,bR⟩ bS;refine JL.done (BH dO (fun dQ dR=>?_) (fun dQ dS=>?_))
           ·obtain rfl:=oi dR;have dT:=elim_inl bA;obtain rfl:=oi dT;have dU:=elim_inl bc;obtain rfl:=oi dU;obtain rfl:=bn _ a3;have dV:=elim_inl bl;obtain rfl:=oi dV;exact AA func162 rfl rfl (bj ((((((bb.Ab av).Ab a5).Ab br).Ab a6).Ab a8).Ab bQ) rfl ⟨f205,rfl,(by first | rfl | simp | (simp [Value.cells])),bR⟩ bS)
           ·exact JL.skip (Az (bP _ _ ⟨dM.2,dP,f205,(Option.some.inj dS).symm,rfl,rfl,bQ,bS,bR⟩) rfl)
          ·exact JL.skip (Az (bP _ _ ⟨Y.2.2,a7,f84,(Option.some.inj dL).symm,rfl,rfl,Ar,bz,(bv.Ah (a6.Ab a8))⟩) rfl)
        ·intro bT;refine DZ 72 cD (fun dW dX=>?_) (fun dW dY=>?_)
         ·refine zg 3 rfl ?_;obtain rfl:=oi dX;exact Az (bT _ _ ⟨be,rfl,rfl,Ar,bw⟩) rfl
         ·refine zg 3 rfl ?_;obtain rfl:=oi dY;exact Az (bT _ _ ⟨be,rfl,rfl,Ar,bw⟩) rfl
       ·refine DZ 69 cA (fun dZ ea=>?_) (fun dZ eb=>?_)
        ·refine zg 2 rfl ?_;obtain rfl:=oi ea;exact bx Ar bu rfl
        ·refine zg 2 rfl ?_;obtain rfl:=oi eb;exact bx Ar bu rfl
      ·intro bU;refine AL cw (fun ec ed=>?_) (fun ec ee=>?_)
       ·obtain⟨eN,ef,eg⟩:=bs ed;refine zg 6 rfl (BZ 0 (Sl (a2.Ah (av.Ab a5)) ef) rfl rfl (AS func182 rfl) bq rfl ?_);rintro _ eh _ ei ⟨ej,rfl,rfl,ek⟩ el;obtain⟨eO,em,en⟩:=bs eg;refine zg 4 rfl (Cd em rfl rfl rfl ?_);obtain⟨eP,eo,ep⟩:=bs en;refine zg 2 rfl (Cd eo rfl rfl rfl ?_);obtain⟨eQ,eq,er⟩:=bs ep;refine Cd eq rfl rfl rfl (zg 5 rfl ?_);obtain rfl:=oi er;exact Az (bU _ _ ⟨eh,ej,rfl,rfl,ei,el,ek⟩) rfl
       ·refine JL.skip ?_;obtain rfl:=oi ee;exact Az (bU _ _ ⟨bp,f22,rfl,rfl,Ar,bq,(a2.Ah (av.Ab a5))⟩) rfl
     ·refine BH cp (fun et eu=>?_) (fun et ew=>?_)
      ·refine zg 6 rfl ?_;cases eu
      ·refine JL.skip ?_;obtain rfl:=oi ew;exact ct Ar bm rfl
def f133(fuel:Nat)(p0:List Bs):Option ((List Bs)):= (f163 fuel (Df (p0.length:Int))).bind fun K=> (f162 fuel p0 0 (p0.length:Int) K).bind fun O=> some O
theorem YZ{K:Nat}{O:Nat}{U:Nat}{V:Array Value}{p0:List (Bs)}(hW:WL 133 Ct E K O U V p0){fuel:Nat}{r:(List Bs)}(Y:f133 fuel p0=some r):AK J 133 [.slice (AZ K) U O,(fV 134)] E [(K,.cells V 133 (0,0))] (fun w E' B'=>∃(Z:Array Value),w= .tuple #[]∧B'= [(K,.cells Z 133 (0,0))]∧WL 133 Ct E' K O U Z r):=by
 refine A3 func133 fun Q a4 cs H al am=>?_;unfold f133 at Y;refine zg 3 rfl (AD (v:=iV (p0.length:Int)) rfl (fun ρ h=>RM (hW).2 rfl underlying130 (h _ _ rfl)) ?_);refine zg 6 rfl (AD (v:= .int .u64 ((Df (p0.length:Int):Nat):Int)) rfl (fun ρ h=>Yl.Df underlying3 underlying156 (h _ _ rfl)) ?_);obtain⟨a5,ap,av⟩:=bs Y;refine BC (Sq ap) rfl rfl (AS func163 rfl) al fun a6 ag aY=>?_;obtain⟨a7,aZ,a0⟩:=bs av;refine zg 1 rfl (BZ 0 (Y3 (hW.Ah ag) aZ) rfl rfl LW aY rfl ?_);rintro _ a8 _ a1 ⟨f12,rfl,rfl,a2⟩ a3;refine JL.done ?_;obtain rfl:=oi a0;exact JL.fin (v:= .tuple #[]) rfl rfl (Co.list func133 rfl (vs:= []) trivial) (am (ag.Ab a1) rfl ⟨f12,rfl,(by first | rfl | simp | (simp [Value.cells])),a2⟩ a3)
end Pal
namespace Pal
def AY{α:Type}(o:Option α)(Q:α→Prop):Prop:=∃a,o=some a∧Q a
section
variable {α β:Type}{Q R:α→Prop}
theorem Ak{a:α}(h:Q a):AY (some a) Q:=⟨a,rfl,h⟩
theorem AY.Ah{o:Option α}(h:AY o R)(k:∀a,R a→Q a):AY o Q:=let ⟨a,K,O⟩:=h;⟨a,K,k a O⟩
theorem AY.of_eq{o:Option α}{a:α}(h:o=some a)(k:Q a):AY o Q:=⟨a,h,k⟩
theorem AE{o:Option β}{f:β→Option α}{S:β→Prop}(h:AY o S)(k:∀b,S b→AY (f b) Q):AY (o.bind f) Q:=by
 obtain⟨b,rfl,hb⟩:=h;obtain⟨a,K,O⟩:=k b hb;exact⟨a,K,O⟩
theorem AQ{o:Option β}{f:β→Option α}{b:β}(h:o=some b)(k:AY (f b) Q):AY (o.bind f) Q:=by subst h;exact k
theorem AY.aV{f:Int→Option α}{x:Int}(K: -9223372036854775808≤x)(O:x≤9223372036854775807)(k:AY (f x) Q):AY ((As x).bind f) Q:=AQ (if_pos ⟨K,O⟩) k
theorem D6{xs:List β}{i:Int}{m:Nat}{b:β}(h:i=(m:Int))(hb:xs[m]? =some b):ix xs i=some b:=by subst h;simpa [ix] using hb
theorem Bn{f:β→Option α}{xs:List β}{i:Int}{m:Nat}(h:i=(m:Int))(hm:m<xs.length)(k:AY (f xs[m]) Q):AY ((ix xs i).bind f) Q:=AQ (D6 h (List.getElem?_eq_getElem hm)) k
theorem Kq{f:List β→Option α}{xs:List β}{x:β}(h:xs.length+1≤2 ^ 40)(k:AY (f (xs++ [x])) Q):AY ((room xs x).bind f) Q:=AQ (if_pos h) k
theorem Bl{c:Prop} [Decidable c] {x y:Option α}(K:c→AY x Q)(O:¬c→AY y Q):AY (if c then x else y) Q:=by
 by_cases h:c
 ·rw [if_pos h];exact K h
 ·rw [if_neg h];exact O h
theorem Bw{c:Prop} [Decidable c] {x y:Option α}(h:c)(k:AY x Q):AY (if c then x else y) Q:=by rw [if_pos h];exact k
theorem A8{c:Prop} [Decidable c] {x y:Option α}(h:¬c)(k:AY y Q):AY (if c then x else y) Q:=by rw [if_neg h];exact k
def Bi.sat{S A:Type}(I:S→Prop)(Q:A→Prop):Bi S A→Prop
 | .more s=>I s
 | .done a=>Q a
theorem Mq{S:Type}{body:S→Option (Bi S α)}(I:Nat→S→Prop)(round:∀m s,I m s→AY (body s) (Bi.sat (fun s'=>∃m',m'<m∧I m' s') Q)):
  ∀{m fuel:Nat} {s:S},I m s→m<fuel→AY (iter body fuel s) Q:=by
 intro m
 induction m using Nat.strongRecOn with
 | _ m O=>
  intro fuel s U ag;obtain⟨fuel,rfl⟩:∃k,fuel=k+1:=⟨fuel - 1,by omega⟩;obtain⟨st,V,K⟩:=round m s U;unfold Pal.iter;rw [V];cases st with
  | more s'=>
   obtain⟨m',Y,Z⟩:=K;exact O m' Y Z (by omega)
  | done a=>exact⟨a,rfl,K⟩
end
end Pal
namespace Pal
open Go.Sort
abbrev PT:=Int×Int×(List (Int×(List Int)×Nat))
def AN(x y:PT):Bool:=decide (x.1<y.1)
theorem My:SWO AN:=⟨fun x=>by simp [AN],fun x y z K O=>by simp [AN] at*;omega,fun x y z K O=>by simp [AN] at*;omega⟩
def KO(xs:List PT):Prop:=∀x∈xs,0≤x.1∧x.1≤1000
theorem KS{fuel:Nat}{x y:PT}(K:0≤x.1∧x.1≤1000)(O:0≤y.1∧y.1≤1000):f134 fuel x y=some (x.1 - y.1):=by
 unfold f134;rw [show As (x.1 - y.1)=some (x.1 - y.1) from if_pos (by omega)];rfl
theorem Jz(x y:PT):decide (x.1 - y.1<0)=AN x y:=by unfold AN;congr 1;apply propext;omega
theorem KO.get{xs:List PT}(h:KO xs){i:Nat}(hi:i<xs.length):0≤xs[i].1∧xs[i].1≤1000:=h _ (List.getElem_mem hi)
theorem KO.set{xs:List PT}(h:KO xs){i:Nat}{x:PT}(K:0≤x.1∧x.1≤1000):KO (xs.set i x):=fun y O=>by
 rcases List.mem_or_eq_of_mem_set O with q | q
 ·exact h y q
 ·subst q;exact K
theorem IT{xs:List PT}{i j:Nat}(hi:i<xs.length)(K:j<xs.length):((xs.set i xs[j]).set j xs[i]).toArray=swp xs.toArray i j:=by
 unfold swp;rw [show xs.toArray[j]! =xs[j] by simp [getElem!_pos,K],show xs.toArray[i]! =xs[i] by simp [getElem!_pos,hi]];simp
theorem Gv{xs:List PT}{i:Nat}(hi:i<xs.length):xs.toArray[i]! =xs[i]:=by simp [getElem!_pos,hi]
section
variable {α:Type}{Q:α→Prop}
theorem AT{f:Int→Option α}{x:Int}(y:Int)(h:x=y)(K: -9223372036854775808≤y)(O:y≤9223372036854775807)(k:AY (f y) Q):AY ((As x).bind f) Q:=by subst h;exact AY.aV K O k
end
theorem XK{F:Nat}(a:Nat):∀(j fuel:Nat) (xs:List PT),j<fuel→j<xs.length→xs.length<1000→KO xs→
  AY (iter (Jv F (a:Int)) fuel ((j:Int),xs)) (fun ys=>ys.toArray=insInner AN a j xs.toArray∧KO ys∧ys.length=xs.length):=by
 intro j
 induction j with
 | zero=>
  intro fuel xs al U Z K;obtain⟨fuel,rfl⟩:∃k,fuel=k+1:=⟨fuel - 1,by omega⟩;refine⟨xs,?_,rfl,K,rfl⟩;have am:¬((a:Int)<0):=by omega
  simp [iter,Jv,am]
 | succ j ap=>
  intro fuel xs al U Z K;obtain⟨fuel,rfl⟩:∃k,fuel=k+1:=⟨fuel - 1,by omega⟩;have O:j<xs.length:=by omega
  have av:AY (Jv F (a:Int) (((j+1:Nat):Int),xs)) (fun st=>st=if(decide (j+1>a)&&AN xs[j+1] xs[j])=true then .more ((j:Int),(xs.set (j+1) xs[j]).set j xs[j+1]) else .done xs):=by
   unfold Jv;refine AE (S:=fun c=>c=(decide (j+1>a)&&AN xs[j+1] xs[j])) ?_ ?_
   ·refine Bl (fun h=>?_) (fun h=>?_)
    ·have Y:a<j+1:=by simp at h;omega
     refine Bn (m:=j+1) rfl U (AT (j:Int) (by simp) (by omega) (by omega) ?_);refine Bn (m:=j) rfl O (AQ (KS (K.get U) (K.get O)) ?_);refine Ak ?_;rw [Jz];simp [Y]
    ·have Y:¬a<j+1:=by simp at h;omega
     refine Ak ?_;simp [Y]
   ·rintro c rfl;refine Bl (fun h=>?_) (fun h=>?_)
    ·refine AT (j:Int) (by simp) (by omega) (by omega) (AT (j:Int) (by simp) (by omega) (by omega) ?_);refine Bn (m:=j) rfl O (Bn (m:=j+1) rfl U ?_);refine AQ (b:=(xs.set (j+1) xs[j])[j]'(by simpa using O)) (D6 rfl (List.getElem?_eq_getElem _)) ?_;refine AT (j:Int) (by simp) (by omega) (by omega) (Ak ?_);rw [if_pos h];simp
    ·refine Ak ?_;rw [if_neg h]
  obtain⟨st,aY,rfl⟩:=av;unfold iter;rw [aY];have V:insInner AN a (j+1) xs.toArray=if(decide (j+1>a)&&AN xs[j+1] xs[j])=true then insInner AN a j (swp xs.toArray (j+1) j) else xs.toArray:=by
   rw [insInner,Gv U,Gv O]
  by_cases ag:(decide (j+1>a)&&AN xs[j+1] xs[j])=true
  ·rw [if_pos ag] at V ⊢;have aZ:KO ((xs.set (j+1) xs[j]).set j xs[j+1]):=(K.set (K.get O)).set (K.get U);refine(ap fuel ((xs.set (j+1) xs[j]).set j xs[j+1]) (by omega) (by simpa using O) (by simpa using Z) aZ).Ah ?_;rintro ys ⟨a0,a1,a2⟩;refine⟨?_,a1,by simpa using a2⟩;rw [a0,IT U O,V]
  ·rw [if_neg ag] at V ⊢;exact⟨xs,rfl,V.symm,K,rfl⟩
theorem V4{F:Nat}(a b:Nat)(av:2000<F):∀(m i fuel:Nat) (xs:List PT),b - i=m→m<fuel→b≤xs.length→xs.length<1000→KO xs→
  AY (iter (IY F (a:Int) (b:Int)) fuel ((i:Int),xs)) (fun ys=>ys.toArray=insOuter AN a b i xs.toArray∧KO ys∧ys.length=xs.length):=by
 intro m
 induction m with
 | zero=>
  intro i fuel xs hm Y hb V O;obtain⟨fuel,rfl⟩:∃k,fuel=k+1:=⟨fuel - 1,by omega⟩;have U:¬i<b:=by omega
  have K:AY (IY F (a:Int) (b:Int) ((i:Int),xs)) (fun st=>st= .done xs):=by
   unfold IY;exact A8 (show ¬(i:Int)<(b:Int) by omega) (Ak rfl)
  obtain⟨st,K,rfl⟩:=K;unfold iter;rw [K];refine⟨xs,rfl,?_,O,rfl⟩;rw [insOuter,if_neg U]
 | succ m Z=>
  intro i fuel xs hm Y hb V O;obtain⟨fuel,rfl⟩:∃k,fuel=k+1:=⟨fuel - 1,by omega⟩;have U:i<b:=by omega
  obtain⟨ys,ag,al,am,aY⟩:=XK (F:=F) a i F xs (by omega) (by omega) V O;have K:AY (IY F (a:Int) (b:Int) ((i:Int),xs)) (fun st=>st= .more (((i+1:Nat):Int),ys)):=by
   unfold IY;refine Bw (show(i:Int)<(b:Int) by omega) (AQ ag ?_);exact AT ((i+1:Nat):Int) (by simp) (by omega) (by omega) (Ak rfl)
  obtain⟨st,K,rfl⟩:=K;unfold iter;rw [K];refine(Z (i+1) fuel ys (by omega) (by omega) (by omega) (by omega) am).Ah ?_;rintro aZ ⟨k1,ap,a0⟩;refine⟨?_,ap,by omega⟩;rw [k1,al,insOuter.eq_def AN a b i,if_pos U]
theorem RQ{F a b:Nat}{xs:List PT}(K:2000<F)(hb:b≤xs.length)(O:xs.length<1000)(U:KO xs)(ag:a≤b):
  AY (f178 F xs (a:Int) (b:Int)) (fun ys=>ys.toArray=insertionSort AN xs.toArray a b∧KO ys∧ys.length=xs.length):=by
 unfold f178;refine AT ((a+1:Nat):Int) (by simp) (by omega) (by omega) (AE (V4 (F:=F) a b K (b - (a+1)) (a+1) F xs rfl (by omega) hb O U) ?_);rintro ys ⟨V,Y,Z⟩;exact⟨ys,rfl,V,Y,Z⟩
end Pal
namespace Pal
open Go.Sort
theorem OG{F a b sw:Nat}{xs:List PT}(O:a<xs.length)(hb:b<xs.length)(hs:sw<1000)(V:xs.length<1000)(U:KO xs):
  f200 F xs (a:Int) (b:Int) (sw:Int)=some ((((order2 AN xs.toArray a b sw).1:Nat):Int),(((order2 AN xs.toArray a b sw).2.1:Nat):Int),(((order2 AN xs.toArray a b sw).2.2:Nat):Int)):=by
 have h:AY (f200 F xs (a:Int) (b:Int) (sw:Int)) (fun r=>r=((((order2 AN xs.toArray a b sw).1:Nat):Int),(((order2 AN xs.toArray a b sw).2.1:Nat):Int),(((order2 AN xs.toArray a b sw).2.2:Nat):Int))):=by
  unfold f200;refine Bn (m:=b) rfl hb (Bn (m:=a) rfl O ?_);refine AQ (KS (U.get hb) (U.get O)) ?_;have e:order2 AN xs.toArray a b sw=if AN xs[b] xs[a] then(b,a,sw+1) else(a,b,sw):=by unfold order2;rw [Gv O,Gv hb]
  refine Bl (fun h=>?_) (fun h=>?_)
  ·have K:AN xs[b] xs[a]=true:=by rw [← Jz];exact decide_eq_true h
   refine AT ((sw+1:Nat):Int) (by simp) (by omega) (by omega) (Ak ?_);rw [e,if_pos K]
  ·have K:¬AN xs[b] xs[a]=true:=by rw [← Jz];simpa using h
   refine Ak ?_;rw [e,if_neg K]
 obtain⟨r,K,rfl⟩:=h;exact K
theorem Qm{n a b sw:Nat}{d:Array PT}(K:a<n)(hb:b<n):(order2 AN d a b sw).1<n∧(order2 AN d a b sw).2.1<n∧(order2 AN d a b sw).2.2≤sw+1:=by
 unfold order2;split
 ·exact⟨hb,K,Nat.le_refl _⟩
 ·exact⟨K,hb,Nat.le_succ _⟩
theorem Yb{F a b c sw:Nat}{xs:List PT}(U:a<xs.length)(hb:b<xs.length)(V:c<xs.length)(hs:sw<900)(K:xs.length<1000)(O:KO xs):
  f197 F xs (a:Int) (b:Int) (c:Int) (sw:Int)=some ((((median AN xs.toArray a b c sw).1:Nat):Int),(((median AN xs.toArray a b c sw).2:Nat):Int)):=by
 unfold f197 median;obtain⟨Z,Y,al⟩:=Qm (sw:=sw) (d:=xs.toArray) U hb;rw [OG U hb (by omega) K O];simp only [Option.bind_some];obtain⟨ag,am,ap⟩:=Qm (sw:=(order2 AN xs.toArray a b sw).2.2) (d:=xs.toArray) Y V;rw [OG Y V (by omega) K O];simp only [Option.bind_some];rw [OG Z ag (by omega) K O];simp only [Option.bind_some]
def Iz:Hint→Int | .unknown=>0 | .increasing=>1 | .decreasing=>2
theorem AY.quo{α:Type}{Q:α→Prop}{f:Int→Option α}{x:Int}(m k:Nat)(K:x=(m:Int))(hm:m<1000)(O:0<k)(h:AY (f ((m / k:Nat):Int)) Q):AY ((Hu x (k:Int)).bind f) Q:=by
 subst K;refine AQ ?_ h;unfold Hu;rw [if_neg (by omega)];have e:((m:Int).tdiv (k:Int))=((m / k:Nat):Int):=by rw [Int.tdiv_eq_ediv_of_nonneg (by omega)];rfl
 have hle:m / k≤m:=Nat.div_le_self _ _;rw [e];generalize m / k=z at hle ⊢;exact if_pos (by omega)
theorem XH{F a b:Nat}{xs:List PT}(av:a+8≤b)(aY:b<a+50)(hb:b≤xs.length)(Z:xs.length<1000)(ag:KO xs):
  f181 F xs (a:Int) (b:Int)=some ((((choosePivot AN xs.toArray a b).1:Nat):Int),Iz (choosePivot AN xs.toArray a b).2):=by
 have h:AY (f181 F xs (a:Int) (b:Int)) (fun r=>r=((((choosePivot AN xs.toArray a b).1:Nat):Int),Iz (choosePivot AN xs.toArray a b).2)):=by
  unfold f181;have aZ:(b - a) / 4≤b - a:=Nat.div_le_self _ _;have a0:(b - a) / 4*3<b - a:=by omega
  refine AT ((b - a:Nat):Int) (by omega) (by omega) (by omega) (AY.quo (b - a) 4 rfl (by omega) (by omega) ?_);refine AT (((b - a) / 4*1:Nat):Int) (by push_cast;rfl) (by omega) (by omega) (AT ((a+(b - a) / 4*1:Nat):Int) (by push_cast;rfl) (by omega) (by omega) ?_);refine AY.quo (b - a) 4 rfl (by omega) (by omega) (AT (((b - a) / 4*2:Nat):Int) (by push_cast;rfl) (by omega) (by omega) ?_);refine AT ((a+(b - a) / 4*2:Nat):Int) (by push_cast;rfl) (by omega) (by omega) (AY.quo (b - a) 4 rfl (by omega) (by omega) ?_);refine AT (((b - a) / 4*3:Nat):Int) (by push_cast;rfl) (by omega) (by omega) (AT ((a+(b - a) / 4*3:Nat):Int) (by push_cast;rfl) (by omega) (by omega) ?_);have al:choosePivot AN xs.toArray a b=((median AN xs.toArray (a+(b - a) / 4*1) (a+(b - a) / 4*2) (a+(b - a) / 4*3) 0).1,if(median AN xs.toArray (a+(b - a) / 4*1) (a+(b - a) / 4*2) (a+(b - a) / 4*3) 0).2=0 then .increasing else if(median AN xs.toArray (a+(b - a) / 4*1) (a+(b - a) / 4*2) (a+(b - a) / 4*3) 0).2=12 then .decreasing else .unknown):=by
   unfold choosePivot;simp only;rw [if_pos (by omega),if_neg (by omega)]
  rw [al];generalize am:median AN xs.toArray (a+(b - a) / 4*1) (a+(b - a) / 4*2) (a+(b - a) / 4*3) 0=K;refine AE (S:=fun r=>r=(((K.1:Nat):Int),((K.2:Nat):Int))) ?_ ?_
  ·refine Bw (by omega) (AE (S:=fun _=>True) (A8 (by omega) (Ak trivial)) fun _ _=>?_);have Y:=Yb (F:=F) (a:=a+(b - a) / 4*1) (b:=a+(b - a) / 4*2) (c:=a+(b - a) / 4*3) (sw:=0) (xs:=xs) (by omega) (by omega) (by omega) (by omega) Z ag;rw [am] at Y;exact AQ Y (Ak rfl)
  ·rintro r rfl;refine Bl (fun h=>?_) (fun h=>?_)
   ·have O:K.2=0:=by simp at h;omega
    rw [if_pos O];exact Ak rfl
   ·have O:¬K.2=0:=by simp at h;omega
    rw [if_neg O];refine Bl (fun U=>?_) (fun U=>?_)
    ·have V:K.2=12:=by simp at U;omega
     rw [if_pos V];exact Ak rfl
    ·have V:¬K.2=12:=by simp at U;omega
     rw [if_neg V];exact Ak rfl
 obtain⟨r,ap,rfl⟩:=h;exact ap
theorem XU{F:Nat}:∀(m i j fuel:Nat) (xs:List PT),j - i≤m→m<fuel→(i<j→j<xs.length)→i≤xs.length→j≤xs.length→xs.length<1000→KO xs→
  AY (iter (HK F) fuel ((i:Int),(j:Int),xs)) (fun ys=>ys.toArray=reverseLoop i j xs.toArray∧KO ys∧ys.length=xs.length):=by
 intro m
 induction m with
 | zero=>
  intro i j fuel xs hm al Z hi am ag K;obtain⟨fuel,rfl⟩:∃k,fuel=k+1:=⟨fuel - 1,by omega⟩;have O:¬i<j:=by omega
  have U:AY (HK F ((i:Int),(j:Int),xs)) (fun st=>st= .done xs):=by
   unfold HK;exact A8 (show ¬(i:Int)<(j:Int) by omega) (Ak rfl)
  obtain⟨st,hb,rfl⟩:=U;unfold iter;rw [hb];refine⟨xs,rfl,?_,K,rfl⟩;rw [reverseLoop,if_neg O]
 | succ m ap=>
  intro i j fuel xs hm al Z hi am ag K;obtain⟨fuel,rfl⟩:∃k,fuel=k+1:=⟨fuel - 1,by omega⟩;by_cases O:i<j
  ·have V:=Z O;have Y:i<xs.length:=by omega
   have U:AY (HK F ((i:Int),(j:Int),xs)) (fun st=>st= .more (((i+1:Nat):Int),((j - 1:Nat):Int),(xs.set i xs[j]).set j xs[i])):=by
    unfold HK;refine Bw (show(i:Int)<(j:Int) by omega) (Bn (m:=j) rfl V ?_);refine Bn (m:=i) rfl Y (AT ((i+1:Nat):Int) (by simp) (by omega) (by omega) ?_);exact AT ((j - 1:Nat):Int) (by simp;omega) (by omega) (by omega) (Ak rfl)
   obtain⟨st,hb,rfl⟩:=U;unfold iter;rw [hb];refine(ap (i+1) (j - 1) fuel ((xs.set i xs[j]).set j xs[i]) (by omega) (by omega) (by simp;omega) (by simp;omega) (by simp;omega) (by simpa using ag) ((K.set (K.get V)).set (K.get Y))).Ah ?_;rintro ys ⟨av,aY,aZ⟩;refine⟨?_,aY,by simpa using aZ⟩;rw [av,IT Y V,reverseLoop.eq_def i j,if_pos O]
  ·have U:AY (HK F ((i:Int),(j:Int),xs)) (fun st=>st= .done xs):=by
    unfold HK;exact A8 (show ¬(i:Int)<(j:Int) by omega) (Ak rfl)
   obtain⟨st,hb,rfl⟩:=U;unfold iter;rw [hb];refine⟨xs,rfl,?_,K,rfl⟩;rw [reverseLoop,if_neg O]
theorem Xw{F a b:Nat}{xs:List PT}(U:2000<F)(V:a<b)(hb:b≤xs.length)(K:xs.length<1000)(O:KO xs):
  AY (f182 F xs (a:Int) (b:Int)) (fun ys=>ys.toArray=reverseRange xs.toArray a b∧KO ys∧ys.length=xs.length):=by
 unfold f182 reverseRange;refine AT ((b - 1:Nat):Int) (by omega) (by omega) (by omega) (AE (XU (F:=F) (b - 1 - a) a (b - 1) F xs (by omega) (by omega) (by omega) (by omega) (by omega) K O) ?_);rintro ys h;exact⟨ys,rfl,h⟩
theorem X4{F b q1:Nat}{xs:List PT}(q2:Int)(hb:b≤xs.length)(ap:xs.length<1000)(Z:KO xs):∀(m i fuel:Nat),b - i≤m→m<fuel→1≤i→
  AY (iter (I0 F (b:Int) (((q1:Nat):Int),q2,xs)) fuel (i:Int)) (fun r=>r=((scanSorted AN xs.toArray b i:Nat):Int)):=by
 intro m
 induction m with
 | zero=>
  intro i fuel hm am hi;obtain⟨fuel,rfl⟩:∃k,fuel=k+1:=⟨fuel - 1,by omega⟩;have K:¬i<b:=by omega
  have O:AY (I0 F (b:Int) (((q1:Nat):Int),q2,xs) (i:Int)) (fun st=>st= .done (i:Int)):=by
   unfold I0;refine AE (S:=fun c=>c=false) (A8 (by omega) (Ak rfl)) ?_;rintro c rfl;exact A8 (by simp) (Ak rfl)
  obtain⟨st,U,rfl⟩:=O;unfold iter;rw [U];refine⟨_,rfl,?_⟩;rw [scanSorted,if_neg (by simp [K])]
 | succ m ag=>
  intro i fuel hm am hi;obtain⟨fuel,rfl⟩:∃k,fuel=k+1:=⟨fuel - 1,by omega⟩;by_cases K:i<b
  ·have V:i<xs.length:=by omega
   have Y:i - 1<xs.length:=by omega
   have O:AY (I0 F (b:Int) (((q1:Nat):Int),q2,xs) (i:Int)) (fun st=>st=if(!AN xs[i] xs[i-1])=true then .more ((i+1:Nat):Int) else .done (i:Int)):=by
    unfold I0;refine AE (S:=fun c=>c= !AN xs[i] xs[i-1]) ?_ ?_
    ·refine Bw (by omega) (Bn (m:=i) rfl V ?_);refine AT ((i - 1:Nat):Int) (by omega) (by omega) (by omega) (Bn (m:=i - 1) rfl Y ?_);refine AQ (KS (Z.get V) (Z.get Y)) (Ak ?_);rw [← Jz];exact decide_not
    ·rintro c rfl;refine Bl (fun h=>?_) (fun h=>?_)
     ·refine AT ((i+1:Nat):Int) (by simp) (by omega) (by omega) ?_;rw [if_pos h];exact Ak rfl
     ·rw [if_neg h];exact Ak rfl
   obtain⟨st,U,rfl⟩:=O;unfold iter;rw [U];have hs:scanSorted AN xs.toArray b i=if(!AN xs[i] xs[i-1])=true then scanSorted AN xs.toArray b (i+1) else i:=by
    rw [scanSorted.eq_def AN xs.toArray b i,Gv V,Gv Y];simp [K]
   by_cases al:(!AN xs[i] xs[i-1])=true
   ·rw [if_pos al] at hs ⊢;rw [hs];exact ag (i+1) fuel (by omega) (by omega) (by omega)
   ·rw [if_neg al] at hs ⊢;exact⟨_,rfl,by rw [hs]⟩
  ·exact ag i (fuel+1) (by omega) (by omega) hi
theorem W7{F a b:Nat}{xs:List PT}(ag:2000<F)(al:a<b)(am:b<a+50)(hb:b≤xs.length)(O:xs.length<1000)(U:KO xs):
  f183 F xs (a:Int) (b:Int)=some ((partialInsertionSort AN xs.toArray a b).2,xs)∧(partialInsertionSort AN xs.toArray a b).1=xs.toArray:=by
 have e:partialInsertionSort AN xs.toArray a b=if scanSorted AN xs.toArray b (a+1)=b then(xs.toArray,true) else(xs.toArray,false):=by
  unfold partialInsertionSort partialIns;simp only;split
  ·rfl
  ·rw [if_pos (by omega)]
 have h:AY (f183 F xs (a:Int) (b:Int)) (fun r=>r=((partialInsertionSort AN xs.toArray a b).2,xs)):=by
  unfold f183;refine AT ((a+1:Nat):Int) (by simp) (by omega) (by omega) (AE (S:=fun r=>r=Sum.inl ((partialInsertionSort AN xs.toArray a b).2,xs)) ?_ ?_)
  ·obtain⟨K,rfl⟩:∃k,F=k+1:=⟨F - 1,by omega⟩;have V:AY (MB (K+1) (a:Int) (b:Int) (((a+1:Nat):Int),0,xs)) (fun st=>st= .done (Sum.inl ((partialInsertionSort AN xs.toArray a b).2,xs))):=by
    unfold MB;refine Bw (show(0:Int)<5 by omega) (AE (X4 (F:=K+1) (q1:=a+1) 0 hb O U (b - (a+1)) (a+1) (K+1) (by omega) (by omega) (by omega)) ?_);rintro r rfl;rw [e];refine Bl (fun h=>?_) (fun h=>?_)
    ·rw [if_pos (by omega)];exact Ak rfl
    ·rw [if_neg (by omega)];exact AT ((b - a:Nat):Int) (by omega) (by omega) (by omega) (Bw (by omega) (Ak rfl))
   obtain⟨st,Y,rfl⟩:=V;unfold iter;rw [Y];exact⟨_,rfl,rfl⟩
  ·rintro r rfl;exact Ak rfl
 obtain⟨r,Z,rfl⟩:=h;refine⟨Z,?_⟩;rw [e];split <;> rfl
end Pal
namespace Pal
open Go.Sort
theorem Qc{body:Int→Option (Bi Int Int)}{d:Array PT}{p:PT→Bool}{j:Nat}(V:j<900)
  (h:∀i:Nat,i≤j+2→body (i:Int)=some (if(decide (i≤j)&&p d[i]!)=true then .more ((i+1:Nat):Int) else .done (i:Int))):
  ∀(m i fuel:Nat),j+1 - i≤m→m<fuel→i≤j+2→iter body fuel (i:Int)=some ((scanUp p d j i:Nat):Int):=by
 intro m
 induction m with
 | zero=>
  intro i fuel hm O hi;obtain⟨fuel,rfl⟩:∃k,fuel=k+1:=⟨fuel - 1,by omega⟩;have K:¬(decide (i≤j)&&p d[i]!)=true:=by simp;omega
  unfold iter;rw [h i hi,if_neg K,scanUp,if_neg K]
 | succ m U=>
  intro i fuel hm O hi;obtain⟨fuel,rfl⟩:∃k,fuel=k+1:=⟨fuel - 1,by omega⟩;unfold iter;rw [h i hi,scanUp];by_cases K:(decide (i≤j)&&p d[i]!)=true
  ·rw [if_pos K,if_pos K];have:i≤j:=by simp at K;exact K.1
   exact U (i+1) fuel (by omega) (by omega) (by omega)
  ·rw [if_neg K,if_neg K]
theorem PO{body:Int→Option (Bi Int Int)}{d:Array PT}{p:PT→Bool}{i:Nat}(hi:1≤i){n:Nat}
  (h:∀j:Nat,j<n→body (j:Int)=some (if(decide (i≤j)&&p d[j]!)=true then .more ((j - 1:Nat):Int) else .done (j:Int))):
  ∀(j fuel:Nat),j<n→j<fuel→iter body fuel (j:Int)=some ((scanDown p d i j:Nat):Int):=by
 intro j
 induction j with
 | zero=>
  intro fuel O U;obtain⟨fuel,rfl⟩:∃k,fuel=k+1:=⟨fuel - 1,by omega⟩;have K:¬(decide (i≤0)&&p d[0]!)=true:=by simp;omega
  unfold iter;rw [h 0 O,if_neg K];rfl
 | succ j V=>
  intro fuel O U;obtain⟨fuel,rfl⟩:∃k,fuel=k+1:=⟨fuel - 1,by omega⟩;unfold iter;rw [h (j+1) O,scanDown];by_cases K:(decide (i≤j+1)&&p d[j+1]!)=true
  ·rw [if_pos K,if_pos K];exact V fuel (by omega) (by omega)
  ·rw [if_neg K,if_neg K]
theorem AY.LL{α:Type}{o:Option α}{a:α}(h:AY o (fun x=>x=a)):o=some a:=by obtain⟨x,K,rfl⟩:=h;exact K
theorem R1{F a:Nat}{q2:Int}{j:Nat}{q1:Int}{ys:List PT}(K:a<ys.length)(Y:j<ys.length)(Z:ys.length<900)(V:KO ys)(i:Nat)(hi:i≤j+2):
  JH F (a:Int) (q1,(j:Int),ys) (i:Int)=some (if(decide (i≤j)&&AN ys.toArray[i]! ys.toArray[a]!)=true then .more ((i+1:Nat):Int) else .done (i:Int)):=by
 refine AY.LL ?_;unfold JH;refine AE (S:=fun c=>c=(decide (i≤j)&&AN ys.toArray[i]! ys.toArray[a]!)) ?_ ?_
 ·refine Bl (fun h=>?_) (fun h=>?_)
  ·have O:i≤j:=by simp at h;omega
   have U:i<ys.length:=by omega
   refine Bn (m:=i) rfl U (Bn (m:=a) rfl K ?_);refine AQ (KS (V.get U) (V.get K)) (Ak ?_);rw [Jz,Gv U,Gv K];simp [O]
  ·have O:¬i≤j:=by simp at h;omega
   refine Ak ?_;simp [O]
 ·rintro c rfl;refine Bl (fun h=>?_) (fun h=>?_)
  ·refine AT ((i+1:Nat):Int) (by simp) (by omega) (by omega) ?_;rw [if_pos h];exact Ak rfl
  ·rw [if_neg h];exact Ak rfl
theorem Qq{F a i:Nat}{q1 q2:Int}{ys:List PT}(O:a<ys.length)(Y:ys.length<900)(V:KO ys)(hi:1≤i)(j:Nat)(U:j<ys.length):
  JE F (a:Int) (q1,q2,ys) (i:Int) (j:Int)=some (if(decide (i≤j)&& !AN ys.toArray[j]! ys.toArray[a]!)=true then .more ((j - 1:Nat):Int) else .done (j:Int)):=by
 refine AY.LL ?_;unfold JE;refine AE (S:=fun c=>c=(decide (i≤j)&& !AN ys.toArray[j]! ys.toArray[a]!)) ?_ ?_
 ·refine Bl (fun h=>?_) (fun h=>?_)
  ·have K:i≤j:=by omega
   refine Bn (m:=j) rfl U (Bn (m:=a) rfl O ?_);refine AQ (KS (V.get U) (V.get O)) (Ak ?_);rw [Gv U,Gv O,← Jz,← decide_not];simp [K]
  ·have K:¬i≤j:=by omega
   refine Ak ?_;simp [K]
 ·rintro c rfl;refine Bl (fun h=>?_) (fun h=>?_)
  ·have K:i≤j:=by simp at h;exact h.1
   refine AT ((j - 1:Nat):Int) (by omega) (by omega) (by omega) ?_;rw [if_pos h];exact Ak rfl
  ·rw [if_neg h];exact Ak rfl
theorem WH{F a b:Nat}(ba:2000<F)(bb:a<b):∀(m i j fuel:Nat) (ys:List PT),j+1 - i≤m→m<fuel→a<i→i≤j+2→j<b→b≤ys.length→ys.length<900→KO ys→
  AY (iter (I1 F (a:Int)) fuel ((i:Int),(j:Int),ys)) (fun r=>r.1=(((partLoop AN a i j ys.toArray).1:Nat):Int)∧r.2.toArray=(partLoop AN a i j ys.toArray).2∧KO r.2∧r.2.length=ys.length):=by
 intro m
 induction m with
 | zero=>?_
 | succ m a0=>?_
 all_goals
  intro i j fuel ys hm bc bd a1 be hb V U;obtain⟨fuel,rfl⟩:∃k,fuel=k+1:=⟨fuel - 1,by omega⟩;have ap:a<ys.length:=by omega
  have av:j<ys.length:=by omega
  have Y:iter (JH F (a:Int) ((i:Int),(j:Int),ys)) F (i:Int)=some ((scanUp (fun x=>AN x ys.toArray[a]!) ys.toArray j i:Nat):Int):=
   Qc (by omega) (fun a2 a3=>R1 (q2:=0) ap av V U a2 a3) (j+1 - i) i F (by omega) (by omega) a1
  have a4:=scanUp_ge (fun x=>AN x ys.toArray[a]!) ys.toArray j i;have a5:=scanUp_spec (fun x=>AN x ys.toArray[a]!) ys.toArray j _ i rfl;have O:=partLoop_eq AN a i j ys.toArray;generalize bf:scanUp (fun x=>AN x ys.toArray[a]!) ys.toArray j i=i2 at Y a4 a5 O;have Z:iter (JE F (a:Int) ((i:Int),(j:Int),ys) (i2:Int)) F (j:Int)=some ((scanDown (fun x=> !AN x ys.toArray[a]!) ys.toArray i2 j:Nat):Int):=
   PO (n:=ys.length) (by omega) (fun a6 a7=>Qq ap V U (by omega) a6 a7) j F av (by omega)
  have hle:=scanDown_le (fun x=> !AN x ys.toArray[a]!) ys.toArray i2 j;generalize bg:scanDown (fun x=> !AN x ys.toArray[a]!) ys.toArray i2 j=K at Z hle O;by_cases aY:i2>K
  ·have ag:I1 F (a:Int) ((i:Int),(j:Int),ys)=some (.done ((K:Int),ys)):=by
    refine AY.LL ?_;unfold I1;refine AQ Y (AQ Z ?_);exact Bw (by omega) (Ak rfl)
   unfold iter;rw [ag];rw [if_pos aY] at O;exact⟨_,rfl,by rw [O],by rw [O],U,rfl⟩
  ·first
    | (exfalso;omega)
    | (
     have al:i2<ys.length:=by omega
     have am:K<ys.length:=by omega
     have ag:I1 F (a:Int) ((i:Int),(j:Int),ys)=some (.more (((i2+1:Nat):Int),((K - 1:Nat):Int),(ys.set i2 ys[K]).set K ys[i2])):=by
      refine AY.LL ?_
      unfold I1
      refine AQ Y ?_
      refine AQ Z ?_
      refine A8 (by omega) ?_
      refine Bn (m:=K) rfl am ?_
      refine Bn (m:=i2) rfl al ?_
      refine AT ((i2+1:Nat):Int) (by simp) (by omega) (by omega) ?_
      refine AT ((K - 1:Nat):Int) (by omega) (by omega) (by omega) ?_
      exact Ak rfl
     unfold iter;rw [ag]
     rw [if_neg aY] at O
     refine(a0 (i2+1) (K - 1) fuel ((ys.set i2 ys[K]).set K ys[i2]) (by omega) (by omega) (by omega) (by omega) (by omega) (by simpa using hb) (by simpa using V) ((U.set (U.get am)).set (U.get al))).Ah ?_
     rintro r ⟨k1,aZ,a8,a9⟩
     rw [IT al am,← O] at k1 aZ
     exact⟨k1,aZ,a8,by simpa using a9⟩)
theorem VN{F a:Nat}{j p3:Nat}{xs ys:List PT}{K O:PT}(he:(xs.set a K).set p3 O=ys)(U:a<ys.length)(V:j<ys.length)(Y:ys.length<900)(Z:KO ys)(i:Nat)(hi:i≤j+2):
  KG F xs (a:Int) (p3:Int) K O (j:Int) (i:Int)=some (if(decide (i≤j)&&AN ys.toArray[i]! ys.toArray[a]!)=true then .more ((i+1:Nat):Int) else .done (i:Int)):=by
 rw [← R1 (F:=F) (q1:=0) (q2:=0) U V Y Z i hi];unfold KG JH;simp only [Int.toNat_natCast,he]
theorem Ug{F a i p3:Nat}{xs ys:List PT}{K O:PT}(he:(xs.set a K).set p3 O=ys)(U:a<ys.length)(V:ys.length<900)(Y:KO ys)(hi:1≤i)(j:Nat)(Z:j<ys.length):
  KH F xs (a:Int) (p3:Int) K O (i:Int) (j:Int)=some (if(decide (i≤j)&& !AN ys.toArray[j]! ys.toArray[a]!)=true then .more ((j - 1:Nat):Int) else .done (j:Int)):=by
 rw [← Qq (F:=F) (q1:=0) (q2:=0) U V Y hi j Z];unfold KH JE;simp only [Int.toNat_natCast,he]
theorem TX(a:Nat):∀(n i j:Nat) (d:Array PT),j+1 - i≤n→(partLoop AN a i j d).1≤j:=by
  intro n
  induction n with
  | zero=>?_
  | succ n V=>?_
  all_goals
    intro i j d Z;have K:=partLoop_eq AN a i j d;have Y:=scanUp_ge (fun x=>AN x d[a]!) d j i;generalize ag:scanUp (fun x=>AN x d[a]!) d j i=i2 at Y K;have hle:=scanDown_le (fun x=> !AN x d[a]!) d i2 j;generalize al:scanDown (fun x=> !AN x d[a]!) d i2 j=O at hle K;by_cases U:i2>O
    ·rw [K,if_pos U];exact hle
    ·first
        | (exfalso;omega)
        | (rw [K,if_neg U]
           have:=V (i2+1) (O - 1) (swp d i2 O) (by omega)
           omega)
theorem Xg{F a b pv:Nat}(a6:2000<F){xs:List PT}(bg:a≤pv)(bh:pv<b)(hb:b≤xs.length)(bi:xs.length<900)(al:KO xs):
  AY (f185 F xs (a:Int) (b:Int) (pv:Int)) (fun r=>r.1=(((partition AN xs.toArray a b pv).1:Nat):Int)∧r.2.1=(partition AN xs.toArray a b pv).2.1∧r.2.2.toArray=(partition AN xs.toArray a b pv).2.2∧KO r.2.2∧r.2.2.length=xs.length):=by
 have am:a<xs.length:=by omega
 have ap:pv<xs.length:=by omega
 obtain⟨ys,V⟩:∃ys,(xs.set a xs[pv]).set pv xs[a]=ys:=⟨_,rfl⟩;have O:KO ys:=by rw [← V];exact(al.set (al.get ap)).set (al.get am)
 have a3:ys.length=xs.length:=by rw [← V];simp
 have a7:ys.toArray=swp xs.toArray a pv:=by rw [← V,IT am ap]
 have Z:a<ys.length:=by omega
 have a4:b - 1<ys.length:=by omega
 unfold f185;refine Bn (m:=pv) rfl ap (Bn (m:=a) rfl am ?_);refine AT ((a+1:Nat):Int) (by simp) (by omega) (by omega) (AT ((b - 1:Nat):Int) (by omega) (by omega) (by omega) ?_);have a8:iter (KG F xs (a:Int) (pv:Int) xs[pv] xs[a] ((b - 1:Nat):Int)) F ((a+1:Nat):Int)=some ((scanUp (fun x=>AN x ys.toArray[a]!) ys.toArray (b - 1) (a+1):Nat):Int):=
  Qc (by omega) (fun a9 ba=>VN V Z a4 (by omega) O a9 ba) (b - 1+1 - (a+1)) (a+1) F (by omega) (by omega) (by omega)
 refine AQ a8 ?_;have bb:=scanUp_ge (fun x=>AN x ys.toArray[a]!) ys.toArray (b - 1) (a+1);have U:partition AN xs.toArray a b pv=if scanUp (fun x=>AN x ys.toArray[a]!) ys.toArray (b - 1) (a+1)>scanDown (fun x=> !AN x ys.toArray[a]!) ys.toArray (scanUp (fun x=>AN x ys.toArray[a]!) ys.toArray (b - 1) (a+1)) (b - 1) then
   (scanDown (fun x=> !AN x ys.toArray[a]!) ys.toArray (scanUp (fun x=>AN x ys.toArray[a]!) ys.toArray (b - 1) (a+1)) (b - 1),true,swp ys.toArray (scanDown (fun x=> !AN x ys.toArray[a]!) ys.toArray (scanUp (fun x=>AN x ys.toArray[a]!) ys.toArray (b - 1) (a+1)) (b - 1)) a) else
   ((partLoop AN a (scanUp (fun x=>AN x ys.toArray[a]!) ys.toArray (b - 1) (a+1)+1) (scanDown (fun x=> !AN x ys.toArray[a]!) ys.toArray (scanUp (fun x=>AN x ys.toArray[a]!) ys.toArray (b - 1) (a+1)) (b - 1) - 1) (swp ys.toArray (scanUp (fun x=>AN x ys.toArray[a]!) ys.toArray (b - 1) (a+1)) (scanDown (fun x=> !AN x ys.toArray[a]!) ys.toArray (scanUp (fun x=>AN x ys.toArray[a]!) ys.toArray (b - 1) (a+1)) (b - 1)))).1,false,
    swp (partLoop AN a (scanUp (fun x=>AN x ys.toArray[a]!) ys.toArray (b - 1) (a+1)+1) (scanDown (fun x=> !AN x ys.toArray[a]!) ys.toArray (scanUp (fun x=>AN x ys.toArray[a]!) ys.toArray (b - 1) (a+1)) (b - 1) - 1) (swp ys.toArray (scanUp (fun x=>AN x ys.toArray[a]!) ys.toArray (b - 1) (a+1)) (scanDown (fun x=> !AN x ys.toArray[a]!) ys.toArray (scanUp (fun x=>AN x ys.toArray[a]!) ys.toArray (b - 1) (a+1)) (b - 1)))).2
     (partLoop AN a (scanUp (fun x=>AN x ys.toArray[a]!) ys.toArray (b - 1) (a+1)+1) (scanDown (fun x=> !AN x ys.toArray[a]!) ys.toArray (scanUp (fun x=>AN x ys.toArray[a]!) ys.toArray (b - 1) (a+1)) (b - 1) - 1) (swp ys.toArray (scanUp (fun x=>AN x ys.toArray[a]!) ys.toArray (b - 1) (a+1)) (scanDown (fun x=> !AN x ys.toArray[a]!) ys.toArray (scanUp (fun x=>AN x ys.toArray[a]!) ys.toArray (b - 1) (a+1)) (b - 1)))).1 a):=by
  rw [a7];rfl
 generalize bj:scanUp (fun x=>AN x ys.toArray[a]!) ys.toArray (b - 1) (a+1)=i2 at bb U ⊢;have bc:iter (KH F xs (a:Int) (pv:Int) xs[pv] xs[a] (i2:Int)) F ((b - 1:Nat):Int)=some ((scanDown (fun x=> !AN x ys.toArray[a]!) ys.toArray i2 (b - 1):Nat):Int):=
  PO (n:=ys.length) (by omega) (fun bd be=>Ug V Z (by omega) O (by omega) bd be) (b - 1) F a4 (by omega)
 refine AQ bc ?_;have hle:=scanDown_le (fun x=> !AN x ys.toArray[a]!) ys.toArray i2 (b - 1);generalize bl:scanDown (fun x=> !AN x ys.toArray[a]!) ys.toArray i2 (b - 1)=K at hle U ⊢;have Y:K<ys.length:=by omega
 simp only [Int.toNat_natCast,V];refine Bl (fun h=>?_) (fun h=>?_)
 ·have av:i2>K:=by omega
  rw [if_pos av] at U;refine Bn (m:=a) rfl Z (Bn (m:=K) rfl Y ?_);refine Ak ?_;rw [U];exact⟨rfl,rfl,IT Y Z,(O.set (O.get Z)).set (O.get Y),by simp [a3]⟩
 ·have av:¬i2>K:=by omega
  have aY:i2<ys.length:=by omega
  rw [if_neg av] at U;refine Bn (m:=K) rfl Y (Bn (m:=i2) rfl aY ?_);refine AT ((i2+1:Nat):Int) (by simp) (by omega) (by omega) (AT ((K - 1:Nat):Int) (by omega) (by omega) (by omega) ?_);refine AE (WH (F:=F) a6 (show a<b by omega) (K - 1+1 - (i2+1)) (i2+1) (K - 1) F ((ys.set i2 ys[K]).set K ys[i2]) (by omega) (by omega) (by omega) (by omega) (by omega) (by simp;omega) (by simp;omega) ((O.set (O.get Y)).set (O.get aY))) ?_;rintro r ⟨k1,aZ,ag,a5⟩;rw [IT aY Y] at k1 aZ;have bf:=TX a _ (i2+1) (K - 1) (swp ys.toArray i2 K) (Nat.le_refl _);obtain⟨bm,a0⟩:=r;simp only at k1 aZ ag a5 ⊢;subst k1;rw [← aZ] at U;have hlen:a0.length=ys.length:=by simpa using a5
  generalize (partLoop AN a (i2+1) (K - 1) (swp ys.toArray i2 K)).1=pm at bf U ⊢;have a1:pm<a0.length:=by omega
  have a2:a<a0.length:=by omega
  refine Bn (m:=a) rfl a2 (Bn (m:=pm) rfl a1 ?_);refine Ak ?_;rw [U];exact⟨rfl,rfl,IT a1 a2,(ag.set (ag.get a2)).set (ag.get a1),by simp [hlen,a3]⟩
end Pal
namespace Pal
open Go.Sort
theorem Xh(F:Nat):∀n:Nat,n<13→∃l,f163 F (Df (n:Int))=some l:=by
 intro n K
 match n,K with
 | 0,_=>exact⟨_,rfl⟩
 | 1,_=>exact⟨_,rfl⟩
 | 2,_=>exact⟨_,rfl⟩
 | 3,_=>exact⟨_,rfl⟩
 | 4,_=>exact⟨_,rfl⟩
 | 5,_=>exact⟨_,rfl⟩
 | 6,_=>exact⟨_,rfl⟩
 | 7,_=>exact⟨_,rfl⟩
 | 8,_=>exact⟨_,rfl⟩
 | 9,_=>exact⟨_,rfl⟩
 | 10,_=>exact⟨_,rfl⟩
 | 11,_=>exact⟨_,rfl⟩
 | 12,_=>exact⟨_,rfl⟩
 | n+13,h=>omega
theorem Wv(F:Nat):f163 F (Df ((13:Nat):Int))=some 4:=rfl
def Is(xs:List PT)(d:Array PT)(ys:List PT):Prop:=ys.toArray=d∧KO ys∧ys.length=xs.length
theorem PX{F a b:Nat}{l:Int}{xs:List PT}(K:2000<F)(O:a≤b)(ap:b≤a+12)(hb:b≤xs.length)(av:xs.length<900)(U:KO xs):
  AY (IA F xs (a:Int) (b:Int) l) (Is xs (insertionSort AN xs.toArray a b)):=by
 unfold IA;refine AE (S:=fun r=>∃ys,r=Sum.inl ys∧Is xs (insertionSort AN xs.toArray a b) ys) ?_ ?_
 ·obtain⟨V,rfl⟩:∃k,F=k+1:=⟨F - 1,by omega⟩;obtain⟨ys,Y,Z,ag,al⟩:=RQ K hb (by omega) U O;have am:Ml (V+1) xs (a:Int) (b:Int) l ()=some (.done (Sum.inl ys)):=by
   refine AY.LL ?_;unfold Ml;refine AT ((b - a:Nat):Int) (by omega) (by omega) (by omega) (Bw (by omega) ?_);exact AQ Y (Ak rfl)
  unfold iter;rw [am];exact⟨_,rfl,ys,rfl,Z,ag,al⟩
 ·rintro r ⟨ys,rfl,h⟩;exact Ak h
theorem N2{F a b:Nat}{l:Int}{wb wp:Bool}{xs:List PT}(K:2000<F)(O:a≤b)(al:b≤a+12)(hb:b≤xs.length)(am:xs.length<900)(U:KO xs):
  AY (Hl F l ((a:Int),(b:Int),wb,wp,xs)) (fun st=>∃ys,st= .done (Sum.inl ys)∧Is xs (insertionSort AN xs.toArray a b) ys):=by
 obtain⟨ys,V,Y,Z,ag⟩:=RQ K hb (by omega) U O;unfold Hl;refine AE (S:=fun r=>r=Sum.inl ys) ?_ ?_
 ·refine AT ((b - a:Nat):Int) (by dsimp only;omega) (by omega) (by omega) (Bw (by omega) ?_);exact AQ V (Ak rfl)
 ·rintro r rfl;exact Ak ⟨ys,rfl,Y,Z,ag⟩
theorem Ui{F n:Nat}{l:Int}{xs:List PT}(O:2000<F)(ag:n=xs.length)(al:n≤12)(U:KO xs):
  AY (f162 F xs 0 (n:Int) l) (Is xs (insertionSort AN xs.toArray 0 n)):=by
 unfold f162;refine AE (S:=fun r=>∃ys,r=Sum.inl ys∧Is xs (insertionSort AN xs.toArray 0 n) ys) ?_ ?_
 ·obtain⟨K,rfl⟩:∃k,F=k+1:=⟨F - 1,by omega⟩;obtain⟨st,V,ys,rfl,Y⟩:=N2 (F:=K+1) (a:=0) (b:=n) (l:=l) (wb:=true) (wp:=true) (xs:=xs) O (by omega) (by omega) (by omega) (by omega) U;have Z:Hl (K+1) l (0,(n:Int),true,true,xs)=some (.done (Sum.inl ys)):=V;unfold iter;rw [Z];exact⟨_,rfl,ys,rfl,Y⟩
 ·rintro r ⟨ys,rfl,h⟩;exact Ak h
theorem Vs{S A:Type}{body:S→Option (Bi S A)}{F:Nat}{s s':S}(h:body s=some (.more s')){Q:A→Prop}(k:AY (iter body F s') Q):AY (iter body (F+1) s) Q:=by
 unfold iter;rw [h];exact k
theorem VV{S A:Type}{body:S→Option (Bi S A)}{F:Nat}{s:S}{Q:A→Prop}(h:AY (body s) (fun st=>∃a,st= .done a∧Q a)):AY (iter body (F+1) s) Q:=by
 obtain⟨st,K,a,rfl,O⟩:=h;unfold iter;rw [K];exact⟨a,rfl,O⟩
set_option maxHeartbeats 1000000 in
theorem X3{F:Nat}{xs:List PT}(bT:3000<F)(bn:xs.length=13)(a5:KO xs):
  AY (f162 F xs 0 ((13:Nat):Int) 4) (Is xs (pdq AN xs.toArray 0 13 4 true true)):=by
 have bo:xs.toArray.size=13:=by simpa using bn
 obtain⟨s1,B1,bU,s2,bV,a6,bW,bY⟩:=rd_facts (lt:=AN) (d:=xs.toArray) (a:=0) (b:=13) (limit:=4) (wb:=true) (wp:=true) My partialInsertionSort_holds reverseRange_holds (by omega) (by rw [bo];omega) (.inl rfl);have a7:¬(13 - 0≤12):=by omega
 have bf:=XH (F:=F) (a:=0) (b:=13) (xs:=xs) (by omega) (by omega) (by omega) (by omega) a5;have bp:choosePivot AN xs.toArray 0 13=(rd AN xs.toArray 0 13 4 true true).c:=rfl;rw [bp] at bf;generalize K:rd AN xs.toArray 0 13 4 true true=R at*;have bq:R.lim=4:=by rw [← K];rfl
 have br:R.c.2= .decreasing→R.d2=reverseRange xs.toArray 0 13∧R.pivot=(13 - 1) - (R.c.1 - 0)∧R.hint= .increasing:=by
  intro h;rw [← K] at h ⊢;exact rd_dec h
 have bu:R.c.2≠ .decreasing→R.d2=xs.toArray∧R.pivot=R.c.1∧R.hint=R.c.2:=by
  intro h;rw [← K] at h ⊢;exact rd_not h
 have bv:R.hint= .increasing→R.pi=partialInsertionSort AN R.d2 0 13:=by
  intro h;rw [← K] at h ⊢;exact rd_pi_yes (by simp [h])
 have bw:R.hint≠ .increasing→R.pi=(R.d2,false):=by
  intro h;rw [← K] at h ⊢;exact rd_pi_no (by simp [h])
 have bx:AY (if Iz R.c.2=2 then(f182 F xs 0 ((13:Nat):Int)).bind fun bz=>(As (((13:Nat):Int) - 1)).bind fun bA=>(As (((R.c.1:Nat):Int) - 0)).bind fun bB=>(As (bA - bB)).bind fun bC=>some (bC,(1:Int),bz) else some (((R.c.1:Nat):Int),Iz R.c.2,xs))
   (fun q=>q.1=((R.pivot:Nat):Int)∧q.2.1=Iz R.hint∧Is xs R.d2 q.2.2):=by
  by_cases aZ:R.c.2= .decreasing
  ·obtain⟨am,ap,Y⟩:=br aZ;refine Bw (by rw [aZ];rfl) (AE (Xw (F:=F) (a:=0) (b:=13) (xs:=xs) (by omega) (by omega) (by omega) (by omega) a5) ?_);rintro ys ⟨k1,U,V⟩;refine AT 12 (by omega) (by omega) (by omega) (AT ((R.c.1:Nat):Int) (by omega) (by omega) (by omega) ?_);refine AT ((12 - R.c.1:Nat):Int) (by omega) (by omega) (by omega) (Ak ⟨?_,?_,?_,U,V⟩)
   ·rw [ap];rfl
   ·rw [Y];rfl
   ·rw [am];exact k1
  ·obtain⟨am,ap,Y⟩:=bu aZ;refine A8 (by intro h;cases a8:R.c.2 <;> rw [a8] at h aZ <;> first | (exact aZ rfl) | (cases h)) ?_
   refine Ak ⟨?_,?_,?_,a5,rfl⟩
   ·rw [ap]
   ·rw [Y]
   ·rw [am]
 unfold f162;refine AE (S:=fun r=>∃ys,r=Sum.inl ys∧Is xs (pdq AN xs.toArray 0 13 4 true true) ys) ?_ (by rintro r ⟨ys,rfl,h⟩;exact Ak h);have bD:∀(Z:List PT),Is xs R.pi.1 Z→R.pi.2=false→
   AY ((f185 F Z 0 ((13:Nat):Int) ((R.pivot:Nat):Int)).bind fun O=>(As (O.1 - 0)).bind fun bg=>(As (((13:Nat):Int) - O.1)).bind fun bh=>(Hu (13:Int) (8)).bind fun bi=>
     Option.bind (
      if bg<bh then(
       (IA F O.2.2 0 O.1 4).bind fun bE=>
       (As (O.1+1)).bind fun bF=>
       some (bF,((13:Nat):Int),decide (bi≤bg),bE)
      ) else(
       (As (O.1+1)).bind fun bG=>
       (IA F O.2.2 bG ((13:Nat):Int) 4).bind fun bH=>
       some ((0:Int),O.1,decide (bi≤bh),bH)
      )
     ) fun a3=>
     some (a3.1,a3.2.1,a3.2.2.1,O.2.1,a3.2.2.2))
    (fun st=>AY (Hl F 4 st) (fun q=>∃a,q= .done a∧∃ys,a=Sum.inl ys∧Is xs (pdq AN xs.toArray 0 13 4 true true) ys)):=by
  intro Z bI bj;obtain⟨z1,bJ,bZ⟩:=bI;have b0:Z.length=13:=by omega
  refine AE (Xg (F:=F) (a:=0) (b:=13) (pv:=R.pivot) (xs:=Z) (by omega) (by omega) a6.2 (by omega) (by omega) bJ) ?_;rw [z1];have ag:=partition_holds AN My R.pi.1 0 13 R.pivot a6.1 a6.2 (by omega);have a0:=fun a9=>pdq_left (lt:=AN) (d:=xs.toArray) (a:=0) (b:=13) (limit:=4) (wb:=true) (wp:=true) a7 (by omega) (by rw [K];exact bj) (by simp) (by rw [K];exact⟨ag.1,ag.2.1⟩) a9;have a1:=fun a9=>pdq_right (lt:=AN) (d:=xs.toArray) (a:=0) (b:=13) (limit:=4) (wb:=true) (wp:=true) a7 (by omega) (by rw [K];exact bj) (by simp) (by rw [K];exact⟨ag.1,ag.2.1⟩) a9;rw [K] at a0 a1;rw [bq] at a0 a1;generalize partition AN R.pi.1 0 13 R.pivot=PA at ag a0 a1 ⊢;obtain⟨m,b1,d4⟩:=PA;rintro⟨b2,bK,al⟩ ⟨k1,U,V,ba,bL⟩;simp only at k1 U V ba bL ag a0 a1 ⊢;subst k1 U;have hm:m<13:=ag.2.1;have b3:al.length=13:=by omega
  refine AT (m:Int) (by omega) (by omega) (by omega) (AT ((13 - m:Nat):Int) (by omega) (by omega) (by omega) ?_);refine AQ (b:=1) rfl ?_;by_cases bl:m - 0<13 - m
  ·refine AE (S:=fun q=>∃us,q=(((m+1:Nat):Int),((13:Nat):Int),decide ((1:Int)≤(m:Int)),us)∧Is al (insertionSort AN al.toArray 0 m) us) ?_ ?_
   ·refine Bw (by omega) (AE (PX (F:=F) (a:=0) (b:=m) (l:=4) (xs:=al) (by omega) (by omega) (by omega) (by omega) (by omega) ba) ?_);intro us bb;exact AT ((m+1:Nat):Int) (by simp) (by omega) (by omega) (Ak ⟨us,rfl,bb⟩)
   ·rintro q ⟨us,rfl,u1,u2,bM⟩;refine Ak ?_;refine(N2 (F:=F) (a:=m+1) (b:=13) (l:=4) (xs:=us) (by omega) (by omega) (by omega) (by omega) (by omega) u2).Ah ?_;rintro st ⟨ys,rfl,v1,v2,bN⟩;refine⟨_,rfl,ys,rfl,?_,v2,by omega⟩;rw [v1,u1,V,a0 bl,pdq_small (by omega),pdq_small (by omega)]
  ·refine AE (S:=fun q=>∃us,q=((0:Int),(m:Int),decide ((1:Int)≤((13 - m:Nat):Int)),us)∧Is al (insertionSort AN al.toArray (m+1) 13) us) ?_ ?_
   ·refine A8 (by omega) (AT ((m+1:Nat):Int) (by simp) (by omega) (by omega) ?_);refine AE (PX (F:=F) (a:=m+1) (b:=13) (l:=4) (xs:=al) (by omega) (by omega) (by omega) (by omega) (by omega) ba) ?_;intro us bb;exact Ak ⟨us,rfl,bb⟩
   ·rintro q ⟨us,rfl,u1,u2,bM⟩;refine Ak ?_;have:=N2 (F:=F) (a:=0) (b:=m) (l:=4) (wb:=decide ((1:Int)≤((13 - m:Nat):Int))) (wp:=bK) (xs:=us) (by omega) (by omega) (by omega) (by omega) (by omega) u2;refine AY.Ah this ?_;rintro st ⟨ys,rfl,v1,v2,bN⟩;refine⟨_,rfl,ys,rfl,?_,v2,by omega⟩;rw [v1,u1,V,a1 bl,pdq_small (by omega),pdq_small (by omega)]
 have bO:AY (Hl F 4 (0,((13:Nat):Int),true,true,xs)) (fun st=>(∃a,st= .done a∧∃ys,a=Sum.inl ys∧Is xs (pdq AN xs.toArray 0 13 4 true true) ys)∨
   ∃s',st= .more s'∧AY (Hl F 4 s') (fun q=>∃a,q= .done a∧∃ys,a=Sum.inl ys∧Is xs (pdq AN xs.toArray 0 13 4 true true) ys)):=by
  unfold Hl;refine AE (S:=fun r=>(∃ys,r=Sum.inl ys∧Is xs (pdq AN xs.toArray 0 13 4 true true) ys)∨∃s',r=Sum.inr s'∧AY (Hl F 4 s') (fun q=>∃a,q= .done a∧∃ys,a=Sum.inl ys∧Is xs (pdq AN xs.toArray 0 13 4 true true) ys)) ?_ ?_
  ·refine AT 13 (by dsimp only;omega) (by omega) (by omega) (A8 (by omega) ?_);refine A8 (by omega) (AE (S:=fun _=>True) (A8 (by simp) (Ak trivial)) fun _ _=>?_);refine AQ bf (AE bx ?_);rintro⟨q1,q2,av⟩ ⟨am,ap,Y⟩;simp only at am ap Y ⊢;subst am ap;refine AQ (b:=true) (by simp) (AQ (b:=decide (Iz R.hint=1)) (by simp) ?_);have bP:AY (if(decide (Iz R.hint=1))=true then(f183 F av 0 ((13:Nat):Int)).bind fun bc=>if bc.1=true then some (Sum.inl bc.2) else some (Sum.inr bc.2) else some (Sum.inr av))
     (fun r=>(R.pi.2=true∧∃ys,r=Sum.inl ys∧Is xs R.pi.1 ys)∨(R.pi.2=false∧∃ys,r=Sum.inr ys∧Is xs R.pi.1 ys)):=by
    by_cases hh:R.hint= .increasing
    ·refine Bw (by rw [hh];rfl) ?_;obtain⟨k1,U,V⟩:=Y;obtain⟨bd,g2⟩:=W7 (F:=F) (a:=0) (b:=13) (xs:=av) (by omega) (by omega) (by omega) (by omega) (by omega) U;rw [k1] at bd g2;rw [← bv hh] at bd g2;refine AQ bd (Bl (fun h=>?_) (fun h=>?_))
     ·exact Ak (.inl ⟨h,av,rfl,by rw [g2];exact k1,U,V⟩)
     ·exact Ak (.inr ⟨by simpa using h,av,rfl,by rw [g2];exact k1,U,V⟩)
    ·refine A8 (by intro h;cases a8:R.hint <;> rw [a8] at h hh <;> first | (exact hh rfl) | (simp [Iz] at h)) ?_
     rw [bw hh];exact Ak (.inr ⟨rfl,av,rfl,Y⟩)
   refine AE bP ?_;rintro r (⟨p2,ys,rfl,be⟩ | ⟨p2,Z,rfl,bQ⟩)
   ·refine Ak (.inl ⟨ys,rfl,?_⟩);rw [pdq_done a7 (by omega) (by rw [K];exact p2),K];exact be
   ·rw [Sum.elim_inr];refine AE (S:=fun c=>c=false) (A8 (by omega) (Ak rfl)) ?_;rintro c rfl;refine A8 (by simp) ?_;obtain⟨s',aY,a2⟩:=bD Z bQ p2;have b4:∀{α β:Type} (o:Option α) (f:α→Option β) (g:β→(List PT)⊕(Int×Int×Bool×Bool×List PT)),True:=fun _ _ _=>trivial;refine AY.of_eq (a:=Sum.inr s') ?_ (.inr ⟨s',rfl,a2⟩);have key:∀(o:Option (Int×Int×Bool×Bool×List PT)),o=some s'→(o.bind fun x=>some (Sum.inr x:List PT⊕(Int×Int×Bool×Bool×List PT)))=some (Sum.inr s'):=fun o bR=>by rw [bR];rfl
    refine Eq.trans ?_ (key _ aY);simp only [Option.bind_assoc,Option.bind_some]
  ·rintro r (⟨ys,rfl,be⟩ | ⟨s',rfl,bS⟩)
   ·exact Ak (.inl ⟨_,rfl,ys,rfl,be⟩)
   ·exact Ak (.inr ⟨s',rfl,bS⟩)
 obtain⟨b5,bm⟩:∃k,F=k+2:=⟨F - 2,by omega⟩;obtain⟨st,aY,a2 | a2⟩:=bO
 ·obtain⟨a,rfl,a4⟩:=a2;rw [bm] at aY ⊢;unfold iter;rw [aY];exact⟨a,rfl,a4⟩
 ·obtain⟨s',rfl,a4⟩:=a2;rw [bm] at aY a4 ⊢;exact Vs aY (VV a4)
end Pal
namespace Pal
open Go Go.Conc Go.Proofs
open Go.Proofs.Tryz
variable {J:Judge Tryz.prog}{E:LH}
def QK(fuel:Nat)(p1:Int)(K:Int)(U:Unit):Option (Bi Unit Unit):= Option.bind (if p1<K then(none) else(some false)) fun O=> if O=true then((As (K - 1)).bind fun V=> (As (K - 1)).bind fun Y=> none) else(some (.done ()))
def QS(fuel:Nat)(p1:Int)(p2:Int)(K:Int):Option (Bi Int Unit):= if K<p2 then(Option.bind (iter (QK fuel p1 K) fuel ()) fun U=> (As (K+1)).bind fun O=> some (.more O)) else(some (.done ()))
def O3(fuel:Nat)(p1:Int)(p2:Int):Option Unit:= (As (p1+1)).bind fun K=> Option.bind (iter (QS fuel p1 p2) fuel K) fun O=> some ()
theorem Xk{p1:Int}{p2:Int}{fuel:Nat}{r:Unit}(V:O3 fuel p1 p2=some r):AK J 178 [nS,iV p1,iV p2,(fV 134)] E [] (fun w E' B'=>w= .tuple #[]∧B'= []):=by
 refine A3 func178 fun Q bH cs H a0 a1=>?_;unfold O3 at V;obtain⟨bI,a2,a3⟩:=bs V;refine zg 3 rfl (Bc a2 rfl rfl rfl ?_);obtain⟨bJ,a4,a5⟩:=bs a3;refine zg 2 rfl (C4 [] [] (fun bK a6 a7=>?_) (fun a8=>?_))
 ·obtain rfl:=oi a5;exact JL.fin (v:= .tuple #[]) rfl rfl (Co.list func178 rfl (vs:= []) trivial) (a1 a6 rfl ⟨rfl,rfl⟩ a7)
 ·refine JL.block (Cx a4 (fun K=> []) (fun K=> [(0,.slice none 0 0),(1,iV p1),(2,iV p2),(3,(fV 134)),(8,iV K)]) Ar a0 ?_);rintro K bL Y Z a9 ⟨bM,O⟩ ba;have ag:=O;unfold QS at ag;refine zg 7 rfl (AL ag (fun bb bc=>?_) (fun bb bd=>?_))
  ·obtain⟨bN,be,bf⟩:=bs bc;refine zg 8 rfl (C4 [] [(0,.slice none 0 0),(1,iV p1),(2,iV p2),(3,(fV 134)),(8,iV K)] (fun bO bg bh=>?_) (fun bi=>?_))
   ·obtain⟨bj,bl,bm⟩:=bs bf;refine zg 3 rfl (Bc bl rfl rfl rfl ?_);refine zg 2 rfl ?_;obtain rfl:=oi bm;exact ba bj (Y.Ab bg) bh rfl O
   ·refine JL.block (Cx be (fun al=> []) (fun al=> [(0,.slice none 0 0),(1,iV p1),(2,iV p2),(3,(fV 134)),(8,iV K),(9,iV K)]) Ar Z ?_);rintro al am bn bo bp ⟨bP,ap⟩ bQ;have av:=ap;unfold QK at av;refine zg 2 rfl (C6 17 fun ht=>?_);refine A4 ht rfl [0,1,2,3] rfl ?_;obtain⟨bq,aY,br⟩:=bs av;refine EY 0 #[true,true,true,true,true,true,true,true,true,true,true,true,true,true,true,true,true] (fun L s=>∃(aZ:LH),Jm am H aZ [] [(0,.slice none 0 0),(1,iV p1),(2,iV p2),(3,(fV 134)),(8,iV K),(9,iV K),(34,.bool bq)] L s) ?_ ?_
    ·rintro _ _ ⟨aZ,rfl,rfl,bu,bv⟩;refine AX.fin (by decide+kernel) (BH br (fun bw bx=>?_) (fun bw bz=>?_))
     ·refine zg 3 rfl (C6 16 fun ht=>?_);refine A4 ht rfl [0,1,2,3] rfl ?_;obtain⟨bR,bA,bB⟩:=bs bx;refine BB 4 ht rfl rfl (fun ρ h s' hs=>Db (h _ _ rfl) (h _ _ rfl) bA) (A4 ht rfl [5,6] rfl ?_);obtain⟨bS,bC,bD⟩:=bs bB;refine BB 7 ht rfl rfl (fun ρ h s' hs=>Db (h _ _ rfl) (h _ _ rfl) bC) ?_;cases bD
     ·refine JL.exit rfl ?_;obtain rfl:=oi bz;obtain rfl:=bp _ ap;exact bi (bn.Ab bu) bv rfl
    ·intro bE;refine FG (q:=p1<K) (i:=21) rfl (fun U=>?_) (fun U=>?_)
     ·have bF:=ip aY U;refine A4 ht rfl [4,5,6] rfl ?_;cases bF
     ·have bG:=im aY U;refine A4 ht rfl [4,5,6,7,8,9,10,11,12,13,14,15,16] rfl ?_;obtain rfl:=oi bG;refine CZ ?_ (bE _ _ ⟨am,rfl,rfl,Ar,bo⟩);exact⟨rfl,rfl,rfl,rfl,rfl,rfl,rfl,trivial⟩
  ·refine JL.exit rfl ?_;obtain rfl:=oi bd;obtain rfl:=a9 _ O;exact a8 Y Z rfl
def Q8(fuel:Nat)(p1:Int)(p2:Int)(p3:Int)(O:Unit):Option (Bi Unit ((Unit)⊕(Unit))):= (As (p2 - p1)).bind fun K=> if K≤12 then((O3 fuel p1 p2).bind fun U=> some (.done (Sum.inl ()))) else(if p3=0 then(none) else(none))
def O9(fuel:Nat)(p1:Int)(p2:Int)(p3:Int):Option Unit:= Option.bind (iter (Q8 fuel p1 p2 p3) fuel ()) fun K=> Sum.elim (fun r=>some r) (fun O=> none) K
theorem WC{p1:Int}{p2:Int}{p3:Int}{fuel:Nat}{r:Unit}(K:O9 fuel p1 p2 p3=some r):AK J 162 [nS,iV p1,iV p2,iV p3,(fV 134)] E [] (fun w E' B'=>w= .tuple #[]∧B'= []):=by
 refine A3 func162 fun Q bc cs H Y Z=>?_;unfold O9 at K;obtain⟨bd,ag,al⟩:=bs K;refine zg 8 rfl (Br (fun L s=>False) ?_ ?_)
 ·intro _ _ am;exact am.elim
 ·intro be;refine JL.block (Cx ag (fun O=> []) (fun O=> [(0,.slice none 0 0),(1,iV p1),(2,iV p2),(3,iV p3),(4,(fV 134)),(10,.bool true),(11,.bool true)]) Ar Y ?_);rintro O bf ap av aY ⟨bg,U⟩ bh;have V:=U;unfold Q8 at V;obtain⟨bi,aZ,a0⟩:=bs V;refine zg 5 rfl (Cd aZ rfl rfl rfl ?_);refine zg 8 rfl (AL a0 (fun a1 a2=>?_) (fun a1 a3=>?_))
  ·obtain⟨bj,a4,a5⟩:=bs a2;refine zg 6 rfl (BC (Xk a4) rfl rfl NT av fun bl a6 a7=>?_);refine JL.done ?_;obtain rfl:=oi a5;obtain rfl:=aY _ U;have a8:=elim_inl al;obtain rfl:=oi a8;exact AA func162 rfl rfl (Z (ap.Ab a6) rfl ⟨rfl,rfl⟩ a7)
  ·refine zg 7 rfl (AL a3 (fun a9 ba=>?_) (fun a9 bb=>?_))
   ·refine zg 6 rfl ?_;cases ba
   ·refine zg 5 rfl (AD (v:= .bool false) rfl (fun ρ h=>Yl.not (c:=true) (h _ _ rfl)) ?_);refine zg 9 rfl ?_;cases bb
def Ta(fuel:Nat):Option Unit:= (f163 fuel (Df ((0:Nat):Int))).bind fun K=> (O9 fuel 0 ((0:Nat):Int) K).bind fun O=> some ()
theorem Yc{fuel:Nat}{r:Unit}(K:Ta fuel=some r):AK J 133 [nS,(fV 134)] E [] (fun w E' B'=>w= .tuple #[]∧B'= []):=by
 refine A3 func133 fun Q aY cs H O U=>?_;unfold Ta at K;refine zg 3 rfl (Bg underlying130 rfl rfl rfl ?_);refine zg 6 rfl (AD (v:= .int .u64 ((Df ((0:Nat):Int):Nat):Int)) rfl (fun ρ h=>Yl.Df underlying3 underlying156 (h _ _ rfl)) ?_);obtain⟨aZ,V,Y⟩:=bs K;refine BC (Sq V) rfl rfl (AS func163 rfl) O fun a0 Z ag=>?_;obtain⟨a1,al,am⟩:=bs Y;refine zg 1 rfl (BC (WC al) rfl rfl LW ag fun a2 ap av=>?_);refine JL.done ?_;obtain rfl:=oi am;exact JL.fin (v:= .tuple #[]) rfl rfl (Co.list func133 rfl (vs:= []) trivial) (U (Z.Ab ap) rfl ⟨rfl,rfl⟩ av)
end Pal
namespace Pal
open Go Go.Conc Go.Proofs Go.Sort
theorem Vn:∀(ys K:List PT),K.Perm ys→ys.Pairwise (fun p q=>p.1<q.1)→K.Pairwise (fun p q=>p.1≤q.1)→K=ys:=by
 intro ys
 induction ys with
 | nil=>intro K h _ _;exact h.eq_nil
 | cons y ys Z=>
  intro K h O U;cases K with
  | nil=>exact absurd h.symm.eq_nil (by simp)
  | cons z K=>
   rw [List.pairwise_cons] at O U;have V:z∈y::ys:=h.mem_iff.1 (by simp);have Y:y∈z::K:=h.mem_iff.2 (by simp);have e:z=y:=by
    rcases List.mem_cons.1 V with e | V
    ·exact e
    ·rcases List.mem_cons.1 Y with e | Y
     ·exact e.symm
     ·have:=O.1 z V;have:=U.1 y Y;omega
   subst e;rw [Z K ((List.perm_cons z).1 h) O.2 U.2]
theorem XP{F:Nat}{xs ys:List PT}(av:3000<F)(a5:xs.length≤13)(Y:KO xs)(aY:ys.Perm xs)(hs:ys.Pairwise (fun p q=>p.1<q.1)):f133 F xs=some ys:=by
 have fin:∀(d:Array PT) (K:List PT),PermIn 0 xs.toArray.size xs.toArray d→SortedIn AN 0 xs.toArray.size d→K.toArray=d→K=ys:=by
  rintro d K Z aZ rfl;have ag:K.Perm xs:=by
   have al:=Z.2.2;have O:=Z.1;simp only [List.size_toArray] at O al;have a0:(K.toArray.extract 0 xs.length).toList=K:=by simp [← O]
   have a1:(xs.toArray.extract 0 xs.length).toList=xs:=by simp
   rwa [a0,a1] at al
  refine Vn ys K (ag.trans aY.symm) hs ?_;rw [List.pairwise_iff_getElem];intro i j hi am a2;have h:=aZ i j (Nat.zero_le _) a2 (by simpa using (ag.length_eq▸am));rw [Gv hi,Gv am] at h;simpa [AN] using h
 have h:AY (f133 F xs) (fun K=>K=ys):=by
  unfold f133;rcases Nat.lt_or_ge xs.length 13 with ap | ap
  ·obtain⟨l,O⟩:=Xh F xs.length ap;refine AQ O (AE (Ui (F:=F) (n:=xs.length) (l:=l) (by omega) rfl (by omega) Y) ?_);rintro K ⟨k1,a3,a4⟩;obtain⟨V,g2⟩:=insertionSort_holds My xs.toArray 0 xs.length (Nat.zero_le _) (by simp);exact Ak (fin _ K (by simpa using V) (by simpa using g2) k1)
  ·have U:xs.length=13:=by omega
   refine AQ (b:=4) (by rw [U];exact Wv F) ?_;rw [U];refine AE (X3 (F:=F) (xs:=xs) av U Y) ?_;rintro K ⟨k1,a3,a4⟩;obtain⟨V,g2⟩:=pdq_sorts AN My xs.toArray 0 13 4 true true (Nat.zero_le _) (by simp [U]) (.inl rfl);have e:xs.toArray.size=13:=by simpa using U
   exact Ak (fin _ K (by rw [e];exact V) (by rw [e];exact g2) k1)
 obtain⟨K,O,rfl⟩:=h;exact O
theorem ZJ{J:Judge Tryz.prog}{E:LH}{a:Option Addr}{c:Nat}{g:Seg}{xs ys:List PT}(U:xs.length≤13)(V:KO xs)(O:ys.Perm xs)(hs:ys.Pairwise (fun p q=>p.1<q.1))(Y:OL 133 (rP rI (rP rI (rL (rP rI (rP (rL rI) (rN .u16)))))) E a c g xs):
  AK J 133 [.slice a xs.length c,.func (.func 134) #[] #[]] E g (fun w E' B'=>w= .tuple #[]∧OL 133 (rP rI (rP rI (rL (rP rI (rP (rL rI) (rN .u16)))))) E' a c B' ys):=by
 rcases Y.cases with⟨rfl,rfl,rfl,rfl⟩ | ⟨bk,f,rfl,rfl,hW⟩
 ·obtain rfl:ys= []:=O.eq_nil;refine(Yc (fuel:=10) (r:=()) rfl).Ah ?_;rintro w E' B' hle ⟨K,rfl⟩;exact⟨K,OL.nil⟩
 ·refine(YZ hW (fuel:=4000) (XP (by omega) U V O hs)).Ah ?_;rintro w E' B' hle ⟨ag,K,rfl,Z⟩;exact⟨K,Z.1⟩
end Pal
namespace Pal
open Go Go.Conc Go.Proofs
open Go.Proofs.Tryz
open Go.Conc.Lib Go.ConcR.Gen
def DX(qs:Nat→Int×List (Ca)):List (Bs):=((List.range 13).filter (fun j=>decide (0<(qs j).2.length))).map (partOf qs)
theorem X6
  {E:LH} {k1 o2:Nat} {a2 a3 a4:An} {a5 a6 a7:Nat} {a8:List Value} {U:BT} {lk:AI} (al:At E k1 o2 (([sV a2 U.1 a5,sV a3 U.2.1 a6]:List Value)++a8)) (bd:Al (rL rI) E a2 a5 U.1) (be:Al (rL rI) E a3 a6 U.2.1) (bf:(rA 13 (rN .u16)).r E a8 U.2.2) (bg:Al Bo E a4 a7 lk) {fuel:Nat} {qs:Nat→Int×List (Ca)} (bh:∀j,j<13→GA fuel U lk ((j:Nat):Int)=some (qs j)):
  AK (DI Tryz.prog) 102 [pV k1 o2,.slice a4 lk.length a7] E [] (fun w E' B'=>∃a c,w= .slice a (DX qs).length c∧B'= []∧Al Ct E' a c (DX qs)):=by
 refine JP func102 rfl rfl fun Q bV cs H bi bj=>zg 2 rfl (B4 bi fun bl bW bm am bn=>?_);refine B4 bn fun bo bY a9 bp bq=>?_;refine DG (S':= []) (by simp) bq fun br=>zg 4 rfl (JS.makeChan rfl rfl rfl underlying162 (CR type133) br fun ch bu=>?_);refine CF bu (Du type162) fun rc bv=>?_;refine JS.store (v:= .chan (some ch)) (off:=0) 1 rfl rfl rfl bv rfl rfl (Bu type162) (by simp [Value.cells,CI]) rfl (Nat.le_of_ble_eq_true rfl) fun bw=>CV 1 bw rfl fun V ap av bx=>zg 3 rfl (CF bx (Du type171) fun wg bz=>?_);refine DG (S':= [[(ch,.chan 0 #[] false 0 0 false)],[(wg,.cells #[.int .u64 0,.int .u32 0] 171 (0,0))]]) (by simp [Value.cells]) bz fun ag=>zg 7 rfl (IM ?_);refine Iy [(2,pV bl 0),(3,pV bo 0),(5,pV rc 0),(6,pV wg 0),(11,iV ((0:Nat):Int))] rfl ?_;have bA:=bm.Ab a9;have Y:=bA.Ab ap;have aY:=Nd.iff.1 ag;intro T bB;let F:Fam:=⟨wg,ch,171,13,fun j=>decide (0<(qs j).2.length),fun kk v E=>kk<13∧∃a c,v= .agg #[iV ((kk:Nat):Int),iV (qs kk).1,.slice a (qs kk).2.length c]∧Al Dp E a c (qs kk).2,fun g s=>(DI Tryz.prog).ok Q g s⟩;refine XI F (Nat.le_of_ble_eq_true rfl) (show 13<2147483647 by omega) ?_ ?_ (NN (j:=1) ag rfl) (NN (j:=0) ag rfl) ?_ (fun g s h=>h)
 ·rintro kk v bZ b0 aZ ⟨Z,a,c,bC,al⟩;exact⟨Z,a,c,bC,al.Ah aZ⟩
 ·intro e;have:=aY.1;simp at this;exact this e.symm
 have bD:=Uq ag;show Way Tryz.prog true (Stop Tryz.prog F (.Fw 0)) _ (⟨(Ao V H [[(ch,.chan 0 #[] false 0 0 false)],[(wg,.cells #[.int .u64 0,.int .u32 0] 171 (0,0))]]).E,It (Ao V H [[(ch,.chan 0 #[] false 0 0 false)],[(wg,.cells #[.int .u64 0,.int .u32 0] 171 (0,0))]]).H wg ch,false⟩:St);rw [show(Ao V H [[(ch,.chan 0 #[] false 0 0 false)],[(wg,.cells #[.int .u64 0,.int .u32 0] 171 (0,0))]]).E=V from rfl,bD];have bE:Aw V H []:=trivial;refine Vj (F:=F) rfl (al.Ah Y) (bd.Ah Y) (be.Ah Y) (Rp.Ah _ Y bf) (bg.Ah Y) (am.Ah (a9.Ab ap)) (bp.Ah ap) av bh (fun j _=>rfl) (fun j bF E' a c bG=>⟨bF,a,c,rfl,bG⟩) (fun ba a0 b1=>?_) 13 0 rfl (by decide) V Ar bE T bB;refine zg 9 rfl ?_;refine AD (v:= .func (.func 131) #[] ([.pointer (some F.sA),pV rc 0]:List Value).toArray) rfl (fun ρ h=>IL (by simp) (by simp [h (.tmp 6) _ rfl,h (.tmp 5) _ rfl])) ?_;have bb:=V7 (F:=F) (show 13<2147483648 by omega) (av.Ah a0);refine JL.GJ (fi:= #[]) rfl rfl rfl rfl rfl rfl rfl (by first | exact bb | (simp only [List.append_toArray,List.nil_append,Array.append_empty,Array.empty_append];exact bb)) ?_
 refine zg 8 rfl (AD (v:= .chan (some ch)) rfl (fun ρ h=>Yl.load LS (h _ _ rfl) (At.JY (j:=0) (av.Ah a0) rfl)) ?_);refine zg 2 rfl (IM ?_);refine Iy [(8,.slice none 0 0),(18,.chan (some ch))] rfl ?_;have bH:Aw ba H [[]]:=trivial;refine Vk (F:=F) (Q:=Q) rfl (fun g s h=>h) (qs:=qs) (fun kk v E' h=>h.2) (fun K b2 a c g bI aY bc bJ bK bL=>?_) 13 [] [] ba none 0 [] rfl List.nodup_nil (by simp) (by decide) Ar OL.nil bH;have a1:(DX qs).Perm (K.map (partOf qs)):=by
  unfold DX;refine List.Perm.map _ ?_;refine(List.perm_ext_iff_of_nodup (List.nodup_range.filter _) aY).2 fun x=>?_;constructor
  ·intro O;simp at O;exact bJ x O.1 (by simpa [F] using O.2)
  ·intro O;have Z:=bc x O;simp;exact⟨Z.1,by simpa [F] using Z.2⟩
 have bM:(DX qs).Pairwise (fun p q=>p.1<q.1):=by
  unfold DX;rw [List.pairwise_map];refine List.Pairwise.filter _ (List.Pairwise.imp ?_ List.pairwise_lt_range);intro a b aZ;exact Int.ofNat_lt.2 aZ
 have hlen:(K.map (partOf qs)).length≤13:=by
  rw [← a1.length_eq];unfold DX;rw [List.length_map];exact Nat.le_trans (List.length_filter_le _ _) (by simp)
 have bN:KO (K.map (partOf qs)):=by
  intro x O;obtain⟨j,am,rfl⟩:=List.mem_map.1 O;have Z:=(bc j am).1;simp only [partOf];omega
 have bO:(K.map (partOf qs)).length=(DX qs).length:=a1.length_eq.symm;refine zg 3 rfl ?_;refine Oo (vs:= [.slice a (K.map (partOf qs)).length c,.func (.func 134) #[] #[]]) 0 (ZJ hlen bN a1 bM bK) rfl rfl rfl (AS func133 rfl) rfl bL rfl ?_;rintro _ b3 g' bP ⟨rfl,bQ⟩ bR;refine zg 6 rfl ?_;refine B7 0 bQ bR rfl fun b4 bS bT bU=>?_;refine JL.ret (v:= .slice a (K.map (partOf qs)).length c) rfl rfl (Co.list func102 rfl (vs:= [.slice a (K.map (partOf qs)).length c]) ⟨rfl,trivial⟩) ?_;exact bj _ _ _ [] ((((Y.Ab a0).Ab bI).Ab bP).Ab bS) (by simp) ⟨a,c,by rw [bO],rfl,bT⟩ bU
end Pal
namespace Pal
open Go Go.Conc Go.Proofs
open Go.Proofs.Tryz
open Go.Conc.Lib Go.ConcR.Gen
def JM(fuel:Nat)(K:BT)(lk:AI):Option (List (Bs)):=
 if(List.range 13).all (fun j=>(GA fuel K lk ((j:Nat):Int)).isSome)=true then some (DX fun j=>(GA fuel K lk ((j:Nat):Int)).getD (0,[])) else none
theorem QR
  {E:LH} {k1 o2:Nat} {U V Y:An} {Z ag al:Nat} {am:List Value} {K:BT} {lk:AI} (aZ:At E k1 o2 (([sV U K.1 Z,sV V K.2.1 ag]:List Value)++am)) (a0:Al (rL rI) E U Z K.1) (a1:Al (rL rI) E V ag K.2.1) (a2:(rA 13 (rN .u16)).r E am K.2.2) (a3:Al Bo E Y al lk) {fuel:Nat} {r:List (Bs)} (O:JM fuel K lk=some r):
  AK (DI Tryz.prog) 102 [pV k1 o2,.slice Y lk.length al] E [] (fun w E' B'=>∃(ap:An) (av:Nat),w= .slice ap r.length av∧B'= []∧Al Ct E' ap av r):=by
 unfold JM at O;split at O
 ·rename_i aY;cases O;refine(X6 aZ a0 a1 a2 a3 (fuel:=fuel) (qs:=fun j=>(GA fuel K lk ((j:Nat):Int)).getD (0,[])) fun j a4=>?_).Ah ?_
  ·rw [List.all_eq_true] at aY;obtain⟨q,a5⟩:=Option.isSome_iff_exists.1 (aY j (List.mem_range.2 a4));rw [a5];rfl
  ·rintro w E' B' _ ⟨a,c,a6,a7,a8⟩;exact⟨a,c,a6,a7,a8⟩
 ·cases O
end Pal
namespace Pal
open Go Go.Conc Go.Proofs
open Go.Proofs.Tryz
def Lc(fuel:Nat)(O:Bs)(K:Int×(List Ca)×Int):Option (Bi (Int×(List Ca)×Int) (Int×(List Ca))):= if K.2.2<(O.2.2.length:Int) then((ix O.2.2 K.2.2).bind fun V=> (IB fuel K.1 K.2.1 V O.2.1).bind fun U=> (As (K.2.2+1)).bind fun Y=> some (.more (U.1,U.2,Y))) else(some (.done (K.1,K.2.1)))
def Ni(fuel:Nat)(O:(List Bs))(K:Int×(List Ca)×Int):Option (Bi (Int×(List Ca)×Int) (Int×(List Ca))):= if K.2.2<(O.length:Int) then((ix O K.2.2).bind fun V=> Option.bind (iter (Lc fuel V) fuel (K.1,K.2.1,0)) fun U=> (As (K.2.2+1)).bind fun Y=> some (.more (U.1,U.2,Y))) else(some (.done (K.1,K.2.1)))
def f93(fuel:Nat)(p0:BT)(p1:AI):Option ((Int×(List Ca))):= (JM fuel p0 p1).bind fun K=> Option.bind (iter (Ni fuel K) fuel (0,[],0)) fun O=> some O
theorem Ny{E:LH}{k1:Nat}{o2:Nat}{bl:An}{bm:Nat}{bn:An}{bo:Nat}{bp:List Value}{bq:An}{br:Nat}{p0:BT}{p1:AI}(bJ:At E k1 o2 (([sV bl p0.1 bm,sV bn p0.2.1 bo]:List Value)++bp))(bK:Al (rL rI) E bl bm p0.1)(bL:Al (rL rI) E bn bo p0.2.1)(bM:(rA 13 (rN .u16)).r E bp p0.2.2)(bN:Al Bo E bq br p1){fuel:Nat}{r:(Int×(List Ca))}(bu:f93 fuel p0 p1=some r):AK (DI Tryz.prog) 93 [pV k1 o2,sV bq p1 br] E [] (fun w E' B'=>∃(bv:An) (bw:Nat),w= .agg #[iV r.1,sV bv r.2 bw]∧B'= []∧Al Dp E' bv bw r.2):=by
 refine A3 func93 fun Q c6 cs H bO bP=>?_;unfold f93 at bu;refine zg 2 rfl (CF bO FU fun O bQ=>?_);refine zg 3 rfl (CF bQ FU fun U bR=>?_);obtain⟨ag,bS,bT⟩:=bs bu;refine zg 6 rfl (BP (QR bJ bK bL bM bN bS) rfl rfl (AS func102 rfl) bR ?_);rintro _ ba _ bU ⟨bb,bc,rfl,rfl,bV⟩ bW;refine Bg underlying130 rfl rfl rfl ?_;obtain⟨K,bY,bZ⟩:=bs bT;refine zg 2 rfl (Br (fun L s=>∃(bd:LH) (V:An) (Y:Nat) (be:Seg),Jn ba H bd [bX O #[iV 0,nS] 97,bX U #[iV K.1,sV V K.2 Y] 97,be] [(4,pV O 0),(5,pV U 0)] L s (OL 104 Dp bd V Y be K.2)) ?_ ?_)
 ·rintro _ _ ⟨bd,V,Y,be,rfl,rfl,b0,bx,b1⟩;refine zg 2 rfl (AD rfl (fun ρ h=>FY (vs:= [iV K.1,sV V K.2 Y]) H8 Dk (h _ _ rfl) (FV (off:=0) 1 bx rfl rfl)) ?_);refine BR 0 bx Dk fun b2=>?_;refine JL.done (B7 2 b1 b2 rfl fun c7 b3 b4 b5=>?_);refine JS.drop 1 b5 rfl fun bz=>?_;obtain rfl:=oi bZ;refine JL.ret (v:= .agg #[iV K.1,sV V K.2 Y]) rfl rfl (Co.list func93 rfl (vs:= [.agg #[iV K.1,sV V K.2 Y]]) ⟨⟨_,rfl,Ld.many (vs:= [iV K.1,sV V K.2 Y]) H8 Dk (FV (off:=0) 0 bz rfl rfl)⟩,trivial⟩) (Iq 0 bz rfl fun b6=>?_);exact bP ((bU.Ab b0).Ab b3) rfl ⟨V,Y,rfl,rfl,b4⟩ b6
 ·intro b7;refine JL.block (CN bY (fun L s Z=>∃(aZ:LH) (al:An) (am:Nat) (ap:Seg),Jn ba H aZ [bX O #[iV 0,nS] 97,bX U #[iV Z.1,sV al Z.2.1 am] 97,ap] [(4,pV O 0),(5,pV U 0),(12,sV bb ag bc),(13,iV (ag.length:Int)),(14,iV Z.2.2)] L s (OL 104 Dp aZ al am ap Z.2.1)) ⟨ba,none,0,[],rfl,rfl,Ar,bW,OL.nil⟩ ?_);rintro _ _ Z ⟨aZ,al,am,ap,rfl,rfl,bf,bA,bB⟩ b8 ⟨c8,bg⟩ b9;have bC:=bg;unfold Ni at bC;refine zg 5 rfl (AL bC (fun ca cb=>?_) (fun ca cc=>?_))
  ·obtain⟨bD,cd,ce⟩:=bs cb;refine zg 5 rfl (Ce (bV.Ah bf) cd underlying130 AR ?_);rintro c9 da _ ⟨_,_,rfl,rfl,⟨_,_,rfl,rfl,⟨cf,cg,rfl,ci⟩⟩⟩ ck;refine BO ck Cp AR rfl rfl (CF bA Ia fun cm cn=>?_);refine BR 3 cn AR fun co=>?_;refine CV 3 co rfl fun bh bi bE cp=>zg 3 rfl (BJ underlying133 Dk rfl rfl rfl ?_);refine JL.fl 2 bE underlying97 Dt EN ?_;refine Bg underlying95 rfl rfl rfl ?_;obtain⟨av,cq,cr⟩:=bs ce;refine zg 2 rfl (Br (fun L s=>∃(a0:LH) (a1:An) (a2:Nat) (a3:Seg),Jn bh H a0 [bX O #[iV 0,nS] 97,bX U #[iV av.1,sV a1 av.2 a2] 97,a3] [(4,pV O 0),(5,pV U 0),(12,sV bb ag bc),(13,iV (ag.length:Int)),(14,iV Z.2.2)] L s (OL 104 Dp a0 a1 a2 a3 av.2)) ?_ ?_)
   ·rintro _ _ ⟨a0,a1,a2,a3,rfl,rfl,ct,cu,cv⟩;obtain⟨cw,cy,cz⟩:=bs cr;refine zg 2 rfl (Bc cy rfl rfl rfl ?_);refine zg 2 rfl ?_;obtain rfl:=oi cz;exact Az (b9 _ _ (av.1,av.2,cw) ⟨a0,a1,a2,a3,rfl,rfl,((bf.Ab bi).Ab ct),cu,cv⟩ bg) rfl
   ·intro cA;refine JL.block (CN cq (fun L s aY=>∃(a4:LH) (a5:An) (a6:Nat) (a7:Seg),Jn bh H a4 [bX O #[iV 0,nS] 97,bX U #[iV aY.1,sV a5 aY.2.1 a6] 97,a7] [(4,pV O 0),(5,pV U 0),(7,pV cm 0),(12,sV bb ag bc),(13,iV (ag.length:Int)),(14,iV Z.2.2),(20,sV cf bD.2.2 cg),(21,iV (bD.2.2.length:Int)),(22,iV aY.2.2)] L s (OL 104 Dp a4 a5 a6 a7 aY.2.1)) ⟨bh,al,am,ap,rfl,rfl,Ar,cp,(bB.Ah bi)⟩ ?_);rintro _ _ aY ⟨a4,a5,a6,a7,rfl,rfl,a8,bF,bG⟩ cB ⟨db,bj⟩ cC;have bH:=bj;unfold Lc at bH;refine zg 5 rfl (AL bH (fun cD cE=>?_) (fun cD cF=>?_))
    ·obtain⟨cG,cH,cI⟩:=bs cE;refine zg 5 rfl (Ce (ci.Ah (bi.Ab a8)) cH underlying95 Cs ?_);rintro dc dd _ ⟨_,_,rfl,rfl,⟨_,_,rfl,⟨de,df,rfl,cJ⟩,rfl⟩⟩ cK;refine BO cK FT Cs rfl rfl (CF bF GR fun dg cM=>?_);refine BR 3 cM Cs fun cN=>?_;refine CV 3 cN rfl fun dh a9 cO cP=>zg 2 rfl (BO cO FT Cs rfl rfl ?_);refine BJ underlying133 Dk rfl rfl rfl (JL.fl 1 (bE.Ah (a8.Ab a9)) underlying97 AW Bv ?_);obtain⟨bI,cQ,cR⟩:=bs cI;refine KB 1 2 rfl rfl cP fun cT=>BZ 1 (Zk (age:=0) (bG.Ah a9) (tr:=cG) (cJ.Ah a9) cQ) rfl rfl (AS func122 rfl) cT rfl ?_;rintro _ cV _ cW ⟨cX,cY,cZ,rfl,rfl,c0⟩ c1;refine EO 1 rfl c1 fun c2=>?_;obtain⟨c3,c4,c5⟩:=bs cR;refine zg 3 rfl (Bc c4 rfl rfl rfl ?_);refine zg 2 rfl ?_;obtain rfl:=oi c5;exact Az (cC _ _ (bI.1,bI.2,c3) ⟨cV,cX,cY,cZ,rfl,rfl,((a8.Ab a9).Ab cW),c2,c0⟩ bj) rfl
    ·refine JL.exit rfl ?_;obtain rfl:=oi cF;obtain rfl:=cB _ bj;exact Az (cA _ _ ⟨a4,a5,a6,a7,rfl,rfl,a8,bF,bG⟩) rfl
  ·refine JL.exit rfl ?_;obtain rfl:=oi cc;obtain rfl:=b8 _ bg;exact Az (b7 _ _ ⟨aZ,al,am,ap,rfl,rfl,bf,bA,bB⟩) rfl
def f78(fuel:Nat)(p0:A2)(p1:AI)(p2:Int)(p3:Bool):Option ((Option BT)×(Int×(List Ca))×Int):= (f69 fuel p0 p1).bind fun O=> if O≠0 then(some (none,(0,[]),O)) else((As ((p1.length:Int) - 1)).bind fun V=> (f101 fuel p2 (-1) V).bind fun Y=> if Y=true then(some (none,(0,[]),3)) else((f92 fuel p0).bind fun Z=> (Z).bind fun U=> (f93 fuel U p1).bind fun K=> Option.bind (if(K.2.length:Int)=0 then(some (!p3)) else(some false)) fun ag=> if ag=true then(some (none,K,11)) else(some (some U,K,0))))
def f47(fuel:Nat)(p0:A2)(p1:AI):Option (Int×Int):= (f78 fuel p0 p1 (-1) false).bind fun K=> some (K.2.1.1,K.2.2)
end Pal
namespace Pal
open Go Go.Conc Go.Proofs
open Go.Proofs.Tryz
variable {J:Judge Tryz.prog}{E:LH}
def Nv(fuel:Nat)(p0:AI):Option ((AI)):= (Dd ([]:AI) p0).bind fun K=> some K
theorem Xs{ad:Addr}{c2:Nat}{p0:AI}(V:Al Bo E (some ad) c2 p0){fuel:Nat}{r:(AI)}(K:Nv fuel p0=some r):AK J 123 [.slice (some ad) p0.length c2] E [] (fun w E' B'=>∃(O:An) (U:Nat) (g0:Seg),w= sV O r U∧B'=g0∧OL 27 Bo E' O U g0 r):=by
 refine A3 func123 fun Q a2 cs H Y Z=>?_;unfold Nv at K;refine zg 8 rfl (AD (v:= .bool false) rfl (fun ρ h=>Mj (a:=(some ad)) underlying25 (h _ _ rfl) (h _ _ rfl)) ?_);refine zg 5 rfl (KX (pp:=Bo) rfl rfl rfl underlying25 Cc Y fun a3 g2 ag al=>?_);obtain⟨a4,am,ap⟩:=bs K;refine zg 1 rfl (KN (pp:=Bo) 1 am rfl rfl rfl rfl rfl rfl rfl underlying25 underlying25 Cc (CR type27) Er rfl (by decide) (by decide) ag V al rfl fun av aY aZ a0 a1=>?_);refine zg 2 rfl ?_;obtain rfl:=oi ap;exact AA func123 rfl rfl (Z Ar rfl ⟨av,aY,aZ,rfl,(by first | rfl | simp | (simp [Value.cells])),a0⟩ a1)
def Th(fuel:Nat)(p0:AI):Option ((AI)):= some ([])
theorem XE{c2:Nat}{p0:AI}(Z:Al Bo E none c2 p0){fuel:Nat}{r:(AI)}(K:Th fuel p0=some r):AK J 123 [sV none p0 c2] E [] (fun w E' B'=>∃(O:An) (U:Nat) (g0:Seg),w= sV O r U∧B'=g0∧OL 27 Bo E' O U g0 r):=by
 refine A3 func123 fun Q ag cs H V Y=>?_;unfold Th at K;refine zg 8 rfl (AD (v:= .bool true) rfl (fun ρ h=>Mj (a:=none) underlying25 (h _ _ rfl) (h _ _ rfl)) ?_);refine zg 6 rfl ?_;obtain rfl:=oi K;exact AA func123 rfl rfl (Y Ar rfl ⟨none,0,[],rfl,rfl,OL.nil⟩ V)
def f123(fuel:Nat)(p0:AI):Option AI:=Nv fuel p0
theorem ZU{O:An}{c2:Nat}{p0:AI}(U:Al Bo E O c2 p0){fuel:Nat}{r:AI}(K:f123 fuel p0=some r):AK J 123 [.slice O p0.length c2] E [] (fun w E' B'=>∃(V:An) (Y:Nat) (g0:Seg),w= .slice V r.length Y∧B'=g0∧OL 27 Bo E' V Y g0 r):=by
 cases O with
 | some ad=>exact Xs U K
 | none=>
  have Z:p0= []:=by
   rcases U.2 with h | ⟨_,_,h,_⟩
   ·exact h.1
   ·cases h
  subst Z;have ag:r= []:=by
   have al:Nv fuel []=some []:=rfl;unfold f123 at K;rw [al] at K;exact(Option.some.inj K).symm
  subst ag;exact XE (fuel:=fuel) U rfl
end Pal
namespace Pal
open Go Go.Conc Go.Proofs
open Go.Proofs.Tryz
variable {J:Judge Tryz.prog}{E:LH}
def f125(fuel:Nat)(p0:Int×Int)(p1:Int×Int):Option Int:= (As (p0.1 - p1.1)).bind fun K=> some K
theorem Y4{p0:Int×Int}{p1:Int×Int}{fuel:Nat}{r:Int}(K:f125 fuel p0 p1=some r):AK J 125 [.agg #[iV p0.1,iV p0.2],.agg #[iV p1.1,iV p1.2]] E [] (fun w E' B'=>w=iV r∧B'= []):=by
 refine A3 func125 fun Q aY cs H U V=>?_;unfold f125 at K;refine zg 2 rfl (B4 U fun aZ a0 Y Z ag=>?_);refine B4 ag fun a1 a2 O al am=>?_;refine zg 4 rfl (JL.fl 0 (Z.Ah O) underlying27 AW Bv ?_);refine JL.fl 0 al underlying27 AW Bv ?_;obtain⟨a3,ap,av⟩:=bs K;refine Cd ap rfl rfl rfl (zg 2 rfl ?_);obtain rfl:=oi av;exact AA func125 rfl rfl (V (Y.Ab O) rfl ⟨rfl,rfl⟩ am)
def RA(fuel:Nat)(p1:Int)(K:Int×(AI)):Option (Bi (Int×(AI)) ((AI))):= Option.bind (if p1<K.1 then((ix K.2 K.1).bind fun V=> (As (K.1 - 1)).bind fun Y=> (ix K.2 Y).bind fun Z=> (f125 fuel V Z).bind fun ag=> some (decide (ag<0))) else(some false)) fun al=> if al=true then((As (K.1 - 1)).bind fun O=> (As (K.1 - 1)).bind fun am=> (ix K.2 am).bind fun U=> (ix K.2 K.1).bind fun ap=> (ix (K.2.set (Int.toNat K.1) U) O).bind fun aY=> (As (K.1 - 1)).bind fun av=> some (.more (av,((K.2.set (Int.toNat K.1) U).set (Int.toNat O) ap)))) else(some (.done K.2))
def RG(fuel:Nat)(p1:Int)(p2:Int)(K:Int×(AI)):Option (Bi (Int×(AI)) ((AI))):= if K.1<p2 then(Option.bind (iter (RA fuel p1) fuel K) fun O=> (As (K.1+1)).bind fun U=> some (.more (U,O))) else(some (.done K.2))
def f168(fuel:Nat)(p0:AI)(p1:Int)(p2:Int):Option ((AI)):= (As (p1+1)).bind fun K=> Option.bind (iter (RG fuel p1 p2) fuel (K,p0)) fun O=> some O
theorem SW{K:Nat}{U:Nat}{V:Nat}{a6:Array Value}{p0:AI}{p1:Int}{p2:Int}(hW:WL 27 Bo E K U V a6 p0){fuel:Nat}{r:(AI)}(bc:f168 fuel p0 p1 p2=some r):AK J 168 [.slice (AZ K) V U,iV p1,iV p2,(fV 125)] E [(K,.cells a6 27 (0,0))] (fun w E' B'=>∃(bd:Array Value),w= .tuple #[]∧B'= [(K,.cells bd 27 (0,0))]∧WL 27 Bo E' K U V bd r):=by
 refine A3 func168 fun Q cz cs H bv bw=>?_;unfold f168 at bc;obtain⟨cA,bx,bz⟩:=bs bc;refine zg 3 rfl (Bc bx rfl rfl rfl ?_);obtain⟨bA,bB,bC⟩:=bs bz;refine zg 2 rfl (Br (fun L s=>∃(a7:LH) (f17:Array Value),Jn E H a7 [bX K f17 27] [] L s (WL 27 Bo a7 K U V f17 bA)) ?_ ?_)
 ·rintro _ _ ⟨a7,f17,rfl,rfl,bD,bE,bF⟩;obtain rfl:=oi bC;exact JL.fin (v:= .tuple #[]) rfl rfl (Co.list func168 rfl (vs:= []) trivial) (bw bD rfl ⟨f17,rfl,(by first | rfl | simp | (simp [Value.cells])),bF⟩ bE)
 ·intro bG;refine JL.block (CN bB (fun L s am=>∃(al:LH) (f25:Array Value),Jn E H al [bX K f25 27] [(0,.slice (AZ K) V U),(1,iV p1),(2,iV p2),(3,(fV 125)),(8,iV am.1)] L s (WL 27 Bo al K U V f25 am.2)) ⟨E,a6,rfl,rfl,Ar,bv,hW⟩ ?_);rintro _ _ am ⟨al,f25,rfl,rfl,be,bf,bg⟩ bH ⟨cB,a8⟩ bI;have bh:=a8;unfold RG at bh;refine zg 7 rfl (AL bh (fun bJ bK=>?_) (fun bJ bL=>?_))
  ·obtain⟨bi,bM,bN⟩:=bs bK;refine zg 8 rfl (Br (fun L s=>∃(a0:LH) (f48:Array Value),Jn al H a0 [bX K f48 27] [(0,.slice (AZ K) V U),(1,iV p1),(2,iV p2),(3,(fV 125)),(8,iV am.1)] L s (WL 27 Bo a0 K U V f48 bi)) ?_ ?_)
   ·rintro _ _ ⟨a0,f48,rfl,rfl,bO,bP,bQ⟩;obtain⟨bR,bS,bT⟩:=bs bN;refine zg 3 rfl (Bc bS rfl rfl rfl ?_);refine zg 2 rfl ?_;obtain rfl:=oi bT;exact Az (bI _ _ (bR,bi) ⟨a0,f48,rfl,rfl,(be.Ab bO),bP,bQ⟩ a8) rfl
   ·intro bU;refine JL.block (CN bM (fun L s Y=>∃(av:LH) (f58:Array Value),Jn al H av [bX K f58 27] [(0,.slice (AZ K) V U),(1,iV p1),(2,iV p2),(3,(fV 125)),(8,iV am.1),(9,iV Y.1)] L s (WL 27 Bo av K U V f58 Y.2)) ⟨al,f25,rfl,rfl,Ar,bf,bg⟩ ?_);rintro _ _ Y ⟨av,f58,rfl,rfl,bj,aY,O⟩ bV ⟨cC,a9⟩ bW;have bl:=a9;unfold RA at bl;refine zg 2 rfl (Dh 17 [K] ⟨⟨0,_,rfl⟩,trivial⟩ aY fun ht=>?_);refine A4 ht rfl [0,1,2,3] rfl ?_;obtain⟨bY,bm,bZ⟩:=bs bl;refine EY 0 #[true,true,true,true,true,true,true,true,true,true,true,true,true,true,true,true,true] (fun L s=>∃(a1:LH),Jm av H a1 [bX K f58 27] [(0,.slice (AZ K) V U),(1,iV p1),(2,iV p2),(3,(fV 125)),(8,iV am.1),(9,iV Y.1),(34,.bool bY)] L s) ?_ ?_
    ·rintro _ _ ⟨a1,rfl,rfl,ap,a2⟩;refine AX.fin (by decide+kernel) (BH bZ (fun b0 b1=>?_) (fun b0 b2=>?_))
     ·refine zg 3 rfl (GZ [15,17] [K] mixed rfl ?_);refine Bp 0 rfl rfl (Bp 1 rfl rfl ?_);refine Bp 2 rfl rfl (Bp 3 rfl rfl ?_);obtain⟨bn,b3,b4⟩:=bs b1;refine GG 4 true rfl rfl (fun ρ h s' hs=>Db (h _ _ rfl) (h _ _ rfl) b3) (Bp 5 rfl rfl ?_);refine Bp 6 rfl rfl ?_;obtain⟨cD,b5,b6⟩:=bs b4;refine GG 7 true rfl rfl (fun ρ h s' hs=>Db (h _ _ rfl) (h _ _ rfl) b5) ?_;obtain⟨Z,bo,b7⟩:=bs b6;obtain⟨_,⟨_,_,rfl,rfl,rfl⟩,b8⟩:=WL.at (O.Ah ap) bo;refine Cu 8 O.2 bo underlying25 Cc ?_;refine Ef 9 [iV Z.1,iV Z.2] 0 a2 b8 Gs Cc ?_;refine Bp 10 rfl rfl (Bp 11 rfl rfl ?_);obtain⟨ag,a3,b9⟩:=bs b7;obtain⟨_,⟨_,_,rfl,rfl,rfl⟩,ca⟩:=WL.at (O.Ah ap) a3;refine Cu 12 O.2 a3 underlying25 Cc ?_;refine Ef 13 [iV ag.1,iV ag.2] 0 a2 ca Gs Cc ?_;refine Cu 14 O.2 a3 underlying25 Cc ?_;have aZ:=WL.put (x':=Z) (ws':= [iV Z.1,iV Z.2]) (O.Ah ap) O.2 a3 ⟨_,_,rfl,rfl,rfl⟩;refine Ed 15 0 a2 Cc aZ.2 fun cb=>?_;obtain⟨cE,ba,cc⟩:=bs b9;obtain⟨_,⟨_,_,rfl,rfl,rfl⟩,cF⟩:=WL.at aZ.1 ba;refine Cu 16 (aZ.1).2 ba underlying25 Cc ?_;have bp:=WL.put (x':=ag) (ws':= [iV ag.1,iV ag.2]) aZ.1 (aZ.1).2 ba ⟨_,_,rfl,rfl,rfl⟩;refine Ed 17 0 cb Cc bp.2 fun cd=>?_;refine JB.fin (by decide+kernel) ?_;obtain⟨ce,cf,cg⟩:=bs cc;refine zg 3 rfl (Cd cf rfl rfl rfl ?_);refine zg 2 rfl ?_;obtain rfl:=oi cg;exact Az (bW _ _ (ce,((Y.2.set (Int.toNat Y.1) Z).set (Int.toNat bn) ag)) ⟨a1,(A0 (A0 f58 (Int.toNat (Y.1)*2) [iV Z.1,iV Z.2]) (Int.toNat (bn)*2) [iV ag.1,iV ag.2]),rfl,rfl,(bj.Ab ap),cd,bp.1⟩ a9) rfl
     ·refine JL.exit rfl ?_;obtain rfl:=oi b2;obtain rfl:=bV _ a9;exact Az (bU _ _ ⟨a1,f58,rfl,rfl,(bj.Ab ap),a2,(O.Ah ap)⟩) rfl
    ·intro bq;refine FG (q:=p1<Y.1) (i:=21) rfl (fun bb=>?_) (fun bb=>?_)
     ·have ci:=ip bm bb;refine A4 ht rfl [4,5,6] rfl ?_;obtain⟨a4,br,ck⟩:=bs ci;obtain⟨_,⟨_,_,rfl,rfl,rfl⟩,cm⟩:=WL.at O br;refine F2 7 ht (O).2 br underlying25 Cc ?_;refine DY 8 ht [iV a4.1,iV a4.2] 0 aY cm Gs Cc ?_;refine A4 ht rfl [9,10] rfl ?_;obtain⟨cG,cn,co⟩:=bs ck;refine BB 11 ht rfl rfl (fun ρ h s' hs=>Db (h _ _ rfl) (h _ _ rfl) cn) ?_;obtain⟨a5,bu,cp⟩:=bs co;obtain⟨_,⟨_,_,rfl,rfl,rfl⟩,cq⟩:=WL.at O bu;refine F2 12 ht (O).2 bu underlying25 Cc ?_;refine DY 13 ht [iV a5.1,iV a5.2] 0 aY cq Gs Cc ?_;obtain⟨cH,cr,ct⟩:=bs cp;refine HH (i:=14) ⟨⟨0,_,rfl⟩,trivial⟩ (vs:= [.agg #[iV a4.1,iV a4.2],.agg #[iV a5.1,iV a5.2]]) (Y4 cr) (by decide+kernel) rfl rfl rfl rfl (AS func125 rfl) rfl aY ?_;rintro _ cu _ cv ⟨rfl,rfl⟩ cw;refine A4 ht rfl [15,16] rfl ?_;obtain rfl:=oi ct;refine CZ ?_ (bq _ _ ⟨cu,rfl,rfl,cv,cw⟩);exact⟨rfl,rfl,rfl,rfl,rfl,rfl,rfl,trivial⟩
     ·have cy:=im bm bb;refine A4 ht rfl [4,5,6,7,8,9,10,11,12,13,14,15,16] rfl ?_;obtain rfl:=oi cy;refine CZ ?_ (bq _ _ ⟨av,rfl,rfl,Ar,aY⟩);exact⟨rfl,rfl,rfl,rfl,rfl,rfl,rfl,trivial⟩
  ·refine JL.exit rfl ?_;obtain rfl:=oi bL;obtain rfl:=bH _ a8;exact Az (bG _ _ ⟨al,f25,rfl,rfl,be,bf,bg⟩) rfl
def Ro(fuel:Nat)(p1:Int)(K:Int×Int×(AI)):Option (Bi (Int×Int×(AI)) (Int×(AI))):= if K.2.1≤p1 then((f168 fuel K.2.2 K.1 K.2.1).bind fun O=> (As (K.2.1+20)).bind fun U=> some (.more (K.2.1,U,O))) else(some (.done (K.1,K.2.2)))
def RP(fuel:Nat)(p1:Int)(K:Int)(O:Int)(U:Unit):Option (Bi Unit Unit):= if O≤p1 then((As (0+K)).bind fun V=> none) else(some (.done ()))
def Rh(fuel:Nat)(p1:Int)(K:Int):Option (Bi Int Unit):= if K<p1 then((As (2*K)).bind fun O=> Option.bind (iter (RP fuel p1 K O) fuel ()) fun Y=> (As (0+K)).bind fun U=> Option.bind (if U<p1 then(none) else(some ())) fun Z=> (As (K*2)).bind fun V=> some (.more V)) else(some (.done ()))
def f138(fuel:Nat)(p0:AI)(p1:Int):Option ((AI)):= Option.bind (iter (Ro fuel p1) fuel (0,20,p0)) fun K=> (f168 fuel K.2 K.1 p1).bind fun O=> Option.bind (iter (Rh fuel p1) fuel 20) fun U=> some O
theorem Yy{K:Nat}{O:Nat}{U:Nat}{ag:Array Value}{p0:AI}{p1:Int}(hW:WL 27 Bo E K O U ag p0){fuel:Nat}{r:(AI)}(av:f138 fuel p0 p1=some r):AK J 138 [.slice (AZ K) U O,iV p1,(fV 125)] E [(K,.cells ag 27 (0,0))] (fun w E' B'=>∃(aY:Array Value),w= .tuple #[]∧B'= [(K,.cells aY 27 (0,0))]∧WL 27 Bo E' K O U aY r):=by
 refine A3 func138 fun Q cn cs H bb bc=>?_;unfold f138 at av;obtain⟨aZ,bd,be⟩:=bs av;refine zg 11 rfl (Br (fun L s=>∃(al:LH) (f15:Array Value),Jn E H al [bX K f15 27] [(0,.slice (AZ K) U O),(1,iV p1),(2,(fV 125)),(6,iV 20),(7,iV aZ.1)] L s (WL 27 Bo al K O U f15 aZ.2)) ?_ ?_)
 ·rintro _ _ ⟨al,f15,rfl,rfl,bf,bg,bh⟩;obtain⟨co,bi,bj⟩:=bs be;refine zg 6 rfl (BZ 0 (SW bh bi) rfl rfl (AS func168 rfl) bg rfl ?_);rintro _ cp _ bl ⟨f23,rfl,rfl,bm⟩ bn;obtain⟨cq,bo,bp⟩:=bs bj;refine JL.done (C4 [bX K f23 27] [] (fun cr a0 bq=>?_) (fun br=>?_))
  ·obtain rfl:=oi bp;exact JL.fin (v:= .tuple #[]) rfl rfl (Co.list func138 rfl (vs:= []) trivial) (bc ((bf.Ab bl).Ab a0) rfl ⟨f23,rfl,(by first | rfl | simp | (simp [Value.cells])),(bm.Ah a0)⟩ bq)
  ·refine JL.block (Cx bo (fun V=> [bX K f23 27]) (fun V=> [(0,.slice (AZ K) U O),(1,iV p1),(2,(fV 125)),(6,iV V)]) Ar bn ?_);rintro V ct a1 a2 bu ⟨cu,am⟩ bv;have a3:=am;unfold Rh at a3;refine zg 7 rfl (AL a3 (fun bw bx=>?_) (fun bw bz=>?_))
   ·obtain⟨bA,bB,bC⟩:=bs bx;refine zg 5 rfl (AD rfl (fun ρ h=>KT (h _ _ rfl) (h _ _ rfl) bB) ?_);obtain⟨cv,bD,bE⟩:=bs bC;refine zg 4 rfl (C4 [bX K f23 27] [(0,.slice (AZ K) U O),(1,iV p1),(2,(fV 125)),(6,iV V),(7,iV 0)] (fun cw bF bG=>?_) (fun bH=>?_))
    ·obtain⟨cy,bI,bJ⟩:=bs bE;refine zg 5 rfl (Bc bI rfl rfl rfl ?_);obtain⟨cz,bK,bL⟩:=bs bJ;refine zg 8 rfl (C4 [bX K f23 27] [(0,.slice (AZ K) U O),(1,iV p1),(2,(fV 125)),(6,iV V)] (fun cA bM bN=>?_) (fun bO=>?_))
     ·obtain⟨bP,bQ,bR⟩:=bs bL;refine zg 2 rfl (AD rfl (fun ρ h=>KT (h _ _ rfl) (h _ _ rfl) bQ) ?_);refine zg 3 rfl ?_;obtain rfl:=oi bR;exact bv bP ((a1.Ab bF).Ab bM) bN rfl am
     ·refine AL bK (fun bS bT=>?_) (fun bS bU=>?_)
      ·refine zg 6 rfl ?_;cases bT
      ·refine JL.skip ?_;obtain rfl:=oi bU;exact bO Ar bG rfl
    ·refine JL.block (Cx bD (fun a4=> [bX K f23 27]) (fun a4=> [(0,.slice (AZ K) U O),(1,iV p1),(2,(fV 125)),(6,iV V),(7,iV 0),(8,iV bA)]) Ar a2 ?_);rintro a4 cB bV bW bY ⟨cC,a5⟩ cD;have a6:=a5;unfold RP at a6;refine zg 7 rfl (AL a6 (fun bZ b0=>?_) (fun bZ b1=>?_))
     ·obtain⟨cE,b2,b3⟩:=bs b0;refine zg 8 rfl (Bc b2 rfl rfl rfl ?_);refine zg 2 rfl ?_;cases b3
     ·refine JL.exit rfl ?_;obtain rfl:=oi b1;obtain rfl:=bY _ a5;exact bH bV bW rfl
   ·refine JL.exit rfl ?_;obtain rfl:=oi bz;obtain rfl:=bu _ am;exact br a1 a2 rfl
 ·intro b4;refine JL.block (CN bd (fun L s Y=>∃(Z:LH) (f104:Array Value),Jn E H Z [bX K f104 27] [(0,.slice (AZ K) U O),(1,iV p1),(2,(fV 125)),(6,iV 20),(7,iV Y.1),(8,iV Y.2.1)] L s (WL 27 Bo Z K O U f104 Y.2.2)) ⟨E,ag,rfl,rfl,Ar,bb,hW⟩ ?_);rintro _ _ Y ⟨Z,f104,rfl,rfl,a7,a8,a9⟩ b5 ⟨cF,ap⟩ b6;have ba:=ap;unfold Ro at ba;refine zg 7 rfl (AL ba (fun b7 b8=>?_) (fun b7 b9=>?_))
  ·obtain⟨ca,cb,cc⟩:=bs b8;refine zg 8 rfl (BZ 0 (SW a9 cb) rfl rfl (AS func168 rfl) a8 rfl ?_);rintro _ cd _ ce ⟨f119,rfl,rfl,cf⟩ cg;obtain⟨ci,ck,cm⟩:=bs cc;refine zg 9 rfl (Bc ck rfl rfl rfl ?_);refine zg 3 rfl ?_;obtain rfl:=oi cm;exact Az (b6 _ _ (Y.2.1,ci,ca) ⟨cd,f119,rfl,rfl,(a7.Ab ce),cg,cf⟩ ap) rfl
  ·refine JL.exit rfl ?_;obtain rfl:=oi b9;obtain rfl:=b5 _ ap;exact Az (b4 _ _ ⟨Z,f104,rfl,rfl,a7,a8,a9⟩) rfl
def f124(fuel:Nat)(p0:AI):Option ((AI)):= (f138 fuel p0 (p0.length:Int)).bind fun K=> some K
theorem Zt{K:Nat}{O:Nat}{U:Nat}{V:Array Value}{p0:AI}(hW:WL 27 Bo E K O U V p0){fuel:Nat}{r:(AI)}(Y:f124 fuel p0=some r):AK J 124 [.slice (AZ K) U O,(fV 125)] E [(K,.cells V 27 (0,0))] (fun w E' B'=>∃(Z:Array Value),w= .tuple #[]∧B'= [(K,.cells Z 27 (0,0))]∧WL 27 Bo E' K O U Z r):=by
 refine A3 func124 fun Q a0 cs H ag al=>?_;unfold f124 at Y;refine zg 3 rfl (AD (v:=iV (p0.length:Int)) rfl (fun ρ h=>RM (hW).2 rfl underlying25 (h _ _ rfl)) ?_);obtain⟨a1,am,ap⟩:=bs Y;refine zg 1 rfl (BZ 0 (Yy hW am) rfl rfl (AS func138 rfl) ag rfl ?_);rintro _ a2 _ av ⟨f7,rfl,rfl,aY⟩ aZ;refine JL.done ?_;obtain rfl:=oi ap;exact JL.fin (v:= .tuple #[]) rfl rfl (Co.list func124 rfl (vs:= []) trivial) (al av rfl ⟨f7,rfl,(by first | rfl | simp | (simp [Value.cells])),aY⟩ aZ)
def Td(fuel:Nat)(p0:AI):Option AI:=match p0 with
 | []=>none
 | _=>f124 fuel p0
theorem Xc{J:Judge Tryz.prog}{E:LH}{a:An}{c:Nat}{g:Seg}{p0:AI}(U:OL 27 Bo E a c g p0){fuel:Nat}{r:AI}(K:Td fuel p0=some r):
  AK J 124 [.slice a p0.length c,.func (.func 125) #[] #[]] E g (fun w E' B'=>w= .tuple #[]∧OL 27 Bo E' a c B' r∧r.length=p0.length):=by
 rcases U.cases with⟨rfl,rfl,rfl,rfl⟩ | ⟨bk,f,rfl,rfl,hW⟩
 ·cases K
 ·have V:f124 fuel p0=some r:=by
   cases p0 with
   | nil=>cases K
   | cons x l=>exact K
  refine(Zt hW V).Ah ?_;rintro w E' B' hle ⟨Z,Y,rfl,O⟩;exact⟨Y,O.1,O.2⟩
end Pal
namespace Pal
open Go Go.Conc Go.Proofs
open Go.Proofs.Tryz
def f94(fuel:Nat)(p0:AI)(p1:AI):Option ((AI)):= (Dd p0 p1).bind fun K=> (f123 fuel K).bind fun O=> (Td fuel O).bind fun U=> some U
theorem aQ{E:LH}{K:An}{c2:Nat}{O:An}{U:Nat}{p0:AI}{p1:AI}(Z:Al Bo E K c2 p0)(a1:Al Bo E O U p1){fuel:Nat}{r:(AI)}(am:f94 fuel p0 p1=some r):AK (DI Tryz.prog) 94 [sV K p0 c2,sV O p1 U] E [] (fun w E' B'=>∃(ap:An) (av:Nat),w= sV ap r av∧B'= []∧Al Bo E' ap av r):=by
 refine A3 func94 fun Q bn cs H a2 a3=>?_;unfold f94 at am;refine zg 8 rfl (Bg underlying25 rfl rfl rfl ?_);refine zg 1 rfl (Bg underlying25 rfl rfl rfl ?_);refine AD (v:= .slice K p0.length p0.length) rfl (fun ρ h=>Uc (Al.spot Z) (And.left Z) underlying25 Cc (h _ _ rfl) (h _ _ rfl) (h _ _ rfl)) ?_;obtain⟨aY,a4,a5⟩:=bs am;refine zg 1 rfl (Uh (pp:=Bo) a4 rfl rfl rfl rfl rfl rfl rfl underlying25 underlying25 Cc (CR type27) Er rfl (by decide) (by decide) Z a1 a2 fun bo aZ a0 a6 a7 a8=>?_);obtain⟨bp,a9,ba⟩:=bs a5;refine zg 5 rfl (BP (ZU a7 a9) rfl rfl (AS func123 rfl) a8 ?_);rintro _ bq _ bb ⟨V,Y,br,rfl,rfl,bc⟩ bd;obtain⟨ag,be,bf⟩:=bs ba;refine zg 5 rfl (BZ 2 (Xc bc be) rfl rfl (AS func124 rfl) bd rfl ?_);rintro _ bu bv bg ⟨rfl,bh,al⟩ bi;refine Gf (L':= [(17,.tuple #[]),(0,.slice K p0.length c2),(1,.slice O p1.length U),(4,.slice none 0 0),(6,.slice K p0.length c2),(7,.slice K p0.length c2),(8,iV (p0.length:Int)),(9,.slice K p0.length c2),(10,iV (p0.length:Int)),(11,.slice K p0.length p0.length),(12,.slice O p1.length U),(13,.slice aZ aY.length a0),(5,.slice V ag.length Y),(14,.slice aZ aY.length a0),(15,.slice V ag.length Y),(16,.slice V ag.length Y)]) ⟨rfl,rfl,rfl,rfl,rfl,rfl,rfl,rfl,rfl,rfl,rfl,rfl,by rw [al];rfl,rfl,by rw [al];rfl,by rw [al];rfl,trivial⟩ ?_;refine zg 6 rfl (B7 2 bh bi rfl fun bw bj bl bm=>?_);obtain rfl:=oi bf;exact AA func94 rfl rfl (a3 (((a6.Ab bb).Ab bg).Ab bj) rfl ⟨V,Y,rfl,rfl,bl⟩ bm)
end Pal
namespace Pal
open Go Go.Conc Go.Proofs
open Go.Proofs.Tryz
def Nw:List Nat:= [0,1,1,2,1,2,2,3,1,2,2,3,2,3,3,4,1,2,2,3,2,3,3,4,2,3,3,4,3,4,4,5,1,2,2,3,2,3,3,4,2,3,3,4,3,4,4,5,2,3,3,4,3,4,4,5,3,4,4,5,4,5,5,6,1,2,2,3,2,3,3,4,2,3,3,4,3,4,4,5,2,3,3,4,3,4,4,5,3,4,4,5,4,5,5,6,2,3,3,4,3,4,4,5,3,4,4,5,4,5,5,6,3,4,4,5,4,5,5,6,4,5,5,6,5,6,6,7,1,2,2,3,2,3,3,4,2,3,3,4,3,4,4,5,2,3,3,4,3,4,4,5,3,4,4,5,4,5,5,6,2,3,3,4,3,4,4,5,3,4,4,5,4,5,5,6,3,4,4,5,4,5,5,6,4,5,5,6,5,6,6,7,2,3,3,4,3,4,4,5,3,4,4,5,4,5,5,6,3,4,4,5,4,5,5,6,4,5,5,6,5,6,6,7,3,4,4,5,4,5,5,6,4,5,5,6,5,6,6,7,4,5,5,6,5,6,6,7,5,6,6,7,6,7,7,8]
def f86(fuel:Nat)(p0:Nat):Option Int:= (Lt Nw ((((p0>>>8):Nat):Int))).bind fun K=> (J8 p0 (255)).bind fun O=> (Lt Nw ((((O):Nat):Int))).bind fun U=> (As ((((K+U) % 256):Nat):Int)).bind fun V=> some V
theorem ay{E:LH}{p0:Nat}{fuel:Nat}{r:Int}(K:f86 fuel p0=some r):AK (DI Tryz.prog) 86 [uV p0] E [] (fun w E' B'=>w=iV r∧B'= []):=by
 refine A3 func86 fun Q a2 cs H V Y=>?_;unfold f86 at K;refine zg 5 rfl (C6 6 fun ht=>?_);refine Cj 0 ht rfl rfl (BB (v:= .int .u16 ((p0>>>8:Nat):Int)) 1 ht rfl rfl (fun ρ h s' hs=>V5 8 (h _ _ rfl) (h _ _ rfl) (by decide)) ?_);obtain⟨O,Z,ag⟩:=bs K;refine BB (v:= .int .u8 ((O:Nat):Int)) 2 ht rfl rfl (fun ρ h s' hs=>Od (l:=Nw) (by decide+kernel) underlying9 (h _ _ rfl) (h _ _ rfl) Z) (Cj 3 ht rfl rfl ?_);obtain⟨al,am,ap⟩:=bs ag;refine BB (v:= uV al) 4 ht rfl rfl (fun ρ h s' hs=>Oh (h _ _ rfl) (h _ _ rfl) am) ?_;obtain⟨U,av,aY⟩:=bs ap;refine BB (v:= .int .u8 ((U:Nat):Int)) 5 ht rfl rfl (fun ρ h s' hs=>Od (l:=Nw) (by decide+kernel) underlying9 (h _ _ rfl) (h _ _ rfl) av) (Ci [6,7,8] ?_);refine AD (v:= .int .u8 (((O+U) % 256:Nat):Int)) rfl (fun ρ h=>VW (h _ _ rfl) (h _ _ rfl)) ?_;obtain⟨aZ,a0,a1⟩:=bs aY;refine AD (v:=iV aZ) rfl (fun ρ h=>Rv underlying5 underlying3 (h _ _ rfl) a0) (zg 2 rfl ?_);obtain rfl:=oi a1;exact AA func86 rfl rfl (Y Ar rfl ⟨rfl,rfl⟩ V)
end Pal
namespace Pal
open Go Go.Conc Go.Proofs
open Go.Proofs.Tryz
def f85(fuel:Nat)(p0:Nat):Option Int:= (f86 fuel p0).bind fun K=> some K
theorem Tj{E:LH}{p0:Nat}{fuel:Nat}{r:Int}(K:f85 fuel p0=some r):AK (DI Tryz.prog) 85 [uV p0] E [] (fun w E' B'=>w=iV r∧B'= []):=by
 refine A3 func85 fun Q al cs H O U=>?_;unfold f85 at K;obtain⟨am,V,Y⟩:=bs K;refine zg 7 rfl (BC (ay V) rfl rfl (AS func86 rfl) O fun ap Z ag=>?_);refine zg 2 rfl ?_;obtain rfl:=oi Y;exact AA func85 rfl rfl (U Z rfl ⟨rfl,rfl⟩ ag)
end Pal
namespace Pal
open Go Go.Conc Go.Proofs
open Go.Proofs.Tryz
end Pal
namespace Pal
open Go Go.Conc Go.Proofs
open Go.Proofs.Tryz
def OP(fuel:Nat)(p2:Int)(O:(Option BT)×(Int×(List Ca))×Int)(K:Int×Int):Option (Bi (Int×Int) Int):= if K.2<(O.2.1.2.length:Int) then((ix O.2.1.2 K.2).bind fun U=> (f103 fuel U.2.2 p2).bind fun V=> Option.bind (if V=true then((As (K.1+1)).bind fun Y=> some Y) else(some K.1)) fun Z=> (As (K.2+1)).bind fun ag=> some (.more (Z,ag))) else(some (.done K.1))
def f49(fuel:Nat)(p0:A2)(p1:AI)(p2:Int):Option (Int×Int):= (f69 fuel p0 p1).bind fun U=> if U≠0 then(some (0,U)) else((As ((p1.length:Int) - 1)).bind fun V=> (f101 fuel p2 0 V).bind fun Y=> if Y=true then(some (0,3)) else((f78 fuel p0 p1 p2 false).bind fun K=> if K.2.2≠0 then(some (0,K.2.2)) else(Option.bind (iter (OP fuel p2 K) fuel (0,0)) fun O=> Option.bind (Option.bind (Option.bind (if 0<O then(some (decide (O<(K.2.1.2.length:Int)))) else(some false)) fun Z=> if Z=true then((As (0+1)).bind fun ag=> (As (ag+1)).bind fun al=> some al) else(if O=0 then((As (0+1)).bind fun am=> some am) else(some 0))) fun ap=> (As (ap+1)).bind fun av=> some av) fun aY=> some (aY,0))))
end Pal
namespace Pal
open Go Go.Conc Go.Proofs
open Go.Proofs.Tryz
end Pal
namespace Pal
open Go Go.Conc Go.Proofs
open Go.Proofs.Tryz
variable {J:Judge Tryz.prog}{E:LH}
def Nl(fuel:Nat)(V:Int×(BV))(Y:(List (List Int))×(List (List Int))×(List Int)×Int×Nat×Int)(K:(List Int)×Int×Nat×(List Int)×Int):Option (Bi ((List Int)×Int×Nat×(List Int)×Int) ((List Int)×BV)):= Option.bind (if 0<K.2.2.2.2 then(some (decide (1<V.1))) else(some false)) fun ag=> if ag=true then((As (Y.2.2.2.2.2 - 1)).bind fun al=> (f41 fuel (K.1,K.2.1,K.2.2.1) (max (0) al)).bind fun Z=> (f97 fuel Z.2 6).bind fun O=> Option.bind (if O.1=true then((As (V.1 - 1)).bind fun am=> (f41 fuel O.2 am).bind fun ap=> some ap) else(some (Z.1,O.2.1,O.2.2.1,O.2.2.2))) fun U=> Option.bind (if U.1≠Y.2.2.2.2.2 then((f98 fuel K.2.2.2.1 U.1).bind fun av=> some av) else(some K.2.2.2.1)) fun aY=> (As (K.2.2.2.2 - 1)).bind fun aZ=> some (.more (U.2.1,U.2.2.1,U.2.2.2,aY,aZ))) else(some (.done (K.2.2.2.1,K.1,K.2.1,K.2.2.1)))
def M6(fuel:Nat)(O:Int×(BV))(K:(List (List Int))×(List (List Int))×(List Int)×Int×Nat×Int):Option (Bi ((List (List Int))×(List (List Int))×(List Int)×Int×Nat×Int) ((List Int)×Int×Nat×A2)):= if K.2.2.2.2.2<O.1 then((As (O.1 - 1)).bind fun am=> (As (K.2.2.2.2.2+1)).bind fun ap=> (f97 fuel (K.2.2.1,K.2.2.2.1,K.2.2.2.2.1) 3).bind fun U=> Option.bind (if U.1=true then((As (O.1 - 1)).bind fun aZ=> (f96 fuel U.2 K.2.2.2.2.2 aZ).bind fun Y=> (f98 fuel ([min am ap]:List Int) Y.1).bind fun a0=> some (a0,Y.2.1,Y.2.2.1,Y.2.2.2)) else(some (([min am ap]:List Int),U.2.1,U.2.2.1,U.2.2.2))) fun av=> (f97 fuel av.2 8).bind fun V=> Option.bind (if V.1=true then((As (O.1 - 1)).bind fun a1=> (f41 fuel V.2 a1).bind fun Z=> some (([Z.1]:List Int),Z.2.1,Z.2.2.1,Z.2.2.2)) else(some (av.1,V.2.1,V.2.2.1,V.2.2.2))) fun aY=> (f99 fuel aY.2 ([0,1,1,2]:List Int)).bind fun ag=> Option.bind (iter (Nl fuel O K) fuel (ag.2.1,ag.2.2.1,ag.2.2.2,[],ag.1)) fun al=> (Dd K.1 ([aY.1]:List (List Int))).bind fun a2=> (Dd K.2.1 ([al.1]:List (List Int))).bind fun a3=> (As (K.2.2.2.2.2+1)).bind fun a4=> some (.more (a2,a3,al.2.1,al.2.2.1,al.2.2.2,a4))) else(some (.done (K.2.2.1,K.2.2.2.1,K.2.2.2.2.1,K.1,K.2.1)))
def f39(fuel:Nat)(p0:BV)(p1:Int):Option ((A2)×(BV)):= (f96 fuel p0 1 p1).bind fun K=> Option.bind (iter (M6 fuel K) fuel ([],[],K.2.1,K.2.2.1,K.2.2.2,0)) fun O=> some (O.2.2.2,(O.1,O.2.1,O.2.2.1))
theorem aL{bk:Nat}{cr:An}{c2:Nat}{p0:BV}{p1:Int}(dA:Al rI E cr c2 p0.1){fuel:Nat}{r:(A2)×(BV)}(ct:f39 fuel p0 p1=some r):AK J 39 [pV bk 0,iV p1] E [(bk,.cells #[sV cr p0.1 c2,iV p0.2.1,.int .u64 ((p0.2.2:Nat):Int)] 92 (0,0))] (fun w E' B'=>∃(cu:An) (cv:Nat) (cw:An) (cy:Nat) (cz:An) (cA:Nat),w= .agg #[sV cu r.1.1 cv,sV cw r.1.2 cy]∧B'= [(bk,.cells #[sV cz r.2.1 cA,iV r.2.2.1,.int .u64 ((r.2.2.2:Nat):Int)] 92 (0,0))]∧Al (rL rI) E' cu cv r.1.1∧Al (rL rI) E' cw cy r.1.2∧Al rI E' cz cA r.2.1):=by
 refine A3 func39 fun Q hU cs H dB dC=>?_;unfold f39 at ct;refine zg 2 rfl (CF dB GU fun U dD=>?_);refine zg 3 rfl (CF dD GU fun O dE=>?_);obtain⟨a2,dF,dG⟩:=bs ct;refine zg 5 rfl (BZ 0 (Pb dA dF) rfl rfl NY dE rfl ?_);rintro _ bR _ dH ⟨cB,cC,rfl,rfl,dI⟩ dJ;refine Cq (S':= [[(bk,.cells #[sV cB a2.2.1 cC,iV a2.2.2.1,.int .u64 ((a2.2.2.2:Nat):Int)] 92 (0,0))],[(U,.cells #[nS,nS] 24 (0,0))],[(O,.cells #[nS,nS] 24 (0,0))]]) rfl dJ fun dK=>?_;obtain⟨Y,dL,dM⟩:=bs dG;refine zg 7 rfl (Br (fun L s=>∃(bv:LH) (bw:An) (bx:Nat) (a6:An) (a7:Nat) (bS:Seg) (a8:An) (a9:Nat) (bT:Seg),Jn bR H bv [bX bk #[sV bw Y.1 bx,iV Y.2.1,.int .u64 ((Y.2.2.1:Nat):Int)] 92,bX U #[nS,nS] 24,bX O #[sV a6 Y.2.2.2.1 a7,sV a8 Y.2.2.2.2 a9] 24,bS,bT] [(4,pV U 0),(5,pV O 0)] L s (Al rI bv bw bx Y.1∧OL 28 (rL rI) bv a6 a7 bS Y.2.2.2.1∧OL 28 (rL rI) bv a8 a9 bT Y.2.2.2.2)) ?_ ?_)
 ·rintro _ _ ⟨bv,bw,bx,a6,a7,bS,a8,a9,bT,rfl,rfl,dN,cD,dO,dP,dQ⟩;refine zg 2 rfl (AD rfl (fun ρ h=>FY (vs:= [sV a6 Y.2.2.2.1 a7,sV a8 Y.2.2.2.2 a9]) BW BD (h _ _ rfl) (FV (off:=0) 2 cD rfl rfl)) ?_);refine BR 1 cD BD fun dR=>?_;refine JL.done (B7 3 dP dR rfl fun hV bU dS dT=>?_);refine B7 4 (dQ.Ah bU) dT rfl fun hW bV dU dV=>Cq (S':= [[(bk,.cells #[sV bw Y.1 bx,iV Y.2.1,.int .u64 ((Y.2.2.1:Nat):Int)] 92 (0,0))],[(U,.cells #[sV a6 Y.2.2.2.1 a7,sV a8 Y.2.2.2.2 a9] 24 (0,0))],[(O,.cells #[sV a6 Y.2.2.2.1 a7,sV a8 Y.2.2.2.2 a9] 24 (0,0))],[],[]]) rfl dV fun dW=>JS.drop 2 dW rfl fun cE=>?_;obtain rfl:=oi dM;refine JL.ret (v:= .agg #[sV a6 Y.2.2.2.1 a7,sV a8 Y.2.2.2.2 a9]) rfl rfl (Co.list func39 rfl (vs:= [.agg #[sV a6 Y.2.2.2.1 a7,sV a8 Y.2.2.2.2 a9]]) ⟨⟨_,rfl,Ld.many (vs:= [sV a6 Y.2.2.2.1 a7,sV a8 Y.2.2.2.2 a9]) BW BD (FV (off:=0) 1 cE rfl rfl)⟩,trivial⟩) (Iq 1 cE rfl fun dX=>?_);exact dC (((dH.Ab dN).Ab bU).Ab bV) rfl ⟨a6,a7,a8,a9,bw,bx,rfl,rfl,(dS.Ah bV),dU,(dO.Ah (bU.Ab bV))⟩ dX
 ·intro dY;refine JL.block (CN dL (fun L s K=>∃(bn:LH) (Z:An) (ag:Nat) (ap:Seg) (al:An) (am:Nat) (av:Seg) (bF:An) (bG:Nat),Jn bR H bn [bX bk #[sV bF K.2.2.1 bG,iV K.2.2.2.1,.int .u64 ((K.2.2.2.2.1:Nat):Int)] 92,bX U #[nS,nS] 24,bX O #[sV Z K.1 ag,sV al K.2.1 am] 24,ap,av] [(0,pV bk 0),(4,pV U 0),(5,pV O 0),(6,iV a2.1),(7,iV K.2.2.2.2.2)] L s (OL 28 (rL rI) bn Z ag ap K.1∧OL 28 (rL rI) bn al am av K.2.1∧Al rI bn bF bG K.2.2.1)) ⟨bR,none,0,[],none,0,[],cB,cC,rfl,rfl,Ar,dK,OL.nil,OL.nil,dI⟩ ?_);rintro _ _ K ⟨bn,Z,ag,ap,al,am,av,bF,bG,rfl,rfl,bH,cF,bI,bJ,cG⟩ dZ ⟨hX,bz⟩ bW;have cH:=bz;unfold M6 at cH;refine zg 7 rfl (AL cH (fun ea eb=>?_) (fun ea ec=>?_))
  ·obtain⟨bY,ed,ee⟩:=bs eb;refine zg 6 rfl (Cd ed rfl rfl rfl ?_);obtain⟨bZ,ef,eg⟩:=bs ee;refine zg 1 rfl (Bc ef rfl rfl rfl ?_);refine AD (v:=iV (min bY bZ)) rfl (fun ρ h=>Yl.min2 (h _ _ rfl) (h _ _ rfl)) (Dx (pp:=rI) [iV (min bY bZ)] [min bY bZ] rfl rfl rfl underlying28 AW CM (by decide) rfl rfl rfl ⟨rfl,trivial⟩ cF fun eh ei cI ej=>?_);obtain⟨b0,ek,el⟩:=bs eg;refine zg 6 rfl (BZ 0 (Lp cG ek) rfl rfl Kh ej rfl ?_);rintro _ em _ a3 ⟨cJ,cK,rfl,rfl,cM⟩ cN;obtain⟨bo,en,eo⟩:=bs el;refine JL.done (Br (fun L s=>∃(bK:LH) (bL:An) (bM:Nat) (b1:An) (b2:Nat),Jn em H bK [bX bk #[sV b1 bo.2.1 b2,iV bo.2.2.1,.int .u64 ((bo.2.2.2:Nat):Int)] 92,bX U #[nS,nS] 24,bX O #[sV Z K.1 ag,sV al K.2.1 am] 24,ap,av] [(0,pV bk 0),(4,pV U 0),(5,pV O 0),(6,iV a2.1),(7,iV K.2.2.2.2.2),(8,sV bL bo.1 bM)] L s (Al rI bK bL bM bo.1∧Al rI bK b1 b2 bo.2.1)) ?_ ?_)
   ·rintro _ _ ⟨bK,bL,bM,b1,b2,rfl,rfl,bd,ep,eq,er⟩;obtain⟨b3,et,eu⟩:=bs eo;refine zg 4 rfl (BZ 0 (Lp er et) rfl rfl Kh ep rfl ?_);rintro _ cO _ ba ⟨cP,cQ,rfl,rfl,cR⟩ ew;refine Cq (S':= [[(bk,.cells #[sV cP b3.2.1 cQ,iV b3.2.2.1,.int .u64 ((b3.2.2.2:Nat):Int)] 92 (0,0))],[(U,.cells #[nS,nS] 24 (0,0))],[(O,.cells #[sV Z K.1 ag,sV al K.2.1 am] 24 (0,0))],ap,av]) rfl ew fun cT=>?_;obtain⟨aZ,ex,ey⟩:=bs eu;refine JL.done (Br (fun L s=>∃(bN:LH) (bb:An) (bc:Nat) (b4:An) (b5:Nat),Jn cO H bN [bX bk #[sV b4 aZ.2.1 b5,iV aZ.2.2.1,.int .u64 ((aZ.2.2.2:Nat):Int)] 92,bX U #[nS,nS] 24,bX O #[sV Z K.1 ag,sV al K.2.1 am] 24,ap,av] [(0,pV bk 0),(4,pV U 0),(5,pV O 0),(6,iV a2.1),(7,iV K.2.2.2.2.2),(8,sV bb aZ.1 bc)] L s (Al rI bN bb bc aZ.1∧Al rI bN b4 b5 aZ.2.1)) ?_ ?_)
    ·rintro _ _ ⟨bN,bb,bc,b4,b5,rfl,rfl,be,ez,cV,eA⟩;refine zg 8 rfl (Dx (pp:=rI) [iV 0,iV 1,iV 1,iV 2] [0,1,1,2] rfl rfl rfl underlying28 AW CM (by decide) rfl rfl rfl ⟨rfl,rfl,rfl,rfl,trivial⟩ ez fun hY hZ eB eC=>?_);refine B7 5 eB eC rfl fun h0 a1 eD eE=>?_;obtain⟨b6,eF,eG⟩:=bs ey;refine BZ 0 (NC (eA.Ah a1) eD eF) rfl rfl L4 eE rfl ?_;rintro _ b7 _ a4 ⟨cW,cX,rfl,rfl,eH⟩ eI;refine Cq (S':= [[(bk,.cells #[sV cW b6.2.1 cX,iV b6.2.2.1,.int .u64 ((b6.2.2.2:Nat):Int)] 92 (0,0))],[(U,.cells #[nS,nS] 24 (0,0))],[(O,.cells #[sV Z K.1 ag,sV al K.2.1 am] 24 (0,0))],ap,av,[]]) rfl eI fun eJ=>?_;obtain⟨V,eK,eL⟩:=bs eG;refine zg 2 rfl (Br (fun L s=>∃(bh:LH) (bp:An) (bq:Nat) (bf:An) (bg:Nat),Jn b7 H bh [bX bk #[sV bf V.2.1 bg,iV V.2.2.1,.int .u64 ((V.2.2.2:Nat):Int)] 92,bX U #[nS,nS] 24,bX O #[sV Z K.1 ag,sV al K.2.1 am] 24,ap,av] [(0,pV bk 0),(4,pV U 0),(5,pV O 0),(6,iV a2.1),(7,iV K.2.2.2.2.2),(8,sV bb aZ.1 bc),(9,sV bp V.1 bq)] L s (Al rI bh bp bq V.1∧Al rI bh bf bg V.2.1)) ?_ ?_)
     ·rintro _ _ ⟨bh,bp,bq,bf,bg,rfl,rfl,a5,bA,b8,b9⟩;refine Dh 11 [O] ⟨⟨2,_,rfl⟩,trivial⟩ bA fun ht=>B8 0 ht underlying24 BQ rfl rfl rfl rfl (Fb 1 ht 0 2 bA Cr ?_);refine Cj 2 ht rfl rfl (B8 5 ht underlying24 BQ rfl rfl rfl rfl ?_);refine Fb 6 ht 1 2 bA Cr ?_;refine Cj 7 ht rfl rfl ?_;obtain⟨ca,cb,eM⟩:=bs eL;obtain⟨cc,cd,ce⟩:=bs eM;refine I3 (i:=3) (j:=8) rfl (by decide+kernel) ?_ ?_
      ·refine Take.lit (pp:=(rL rI)) (jp:=2) [sV bb aZ.1 bc] ([aZ.1]:List (List Int)) bA rfl rfl rfl rfl underlying22 BX Fo (by decide) rfl rfl rfl ⟨⟨_,_,rfl,(cV.Ah ((a1.Ab a4).Ab a5))⟩,trivial⟩ fun h1 cY cZ c0=>I3 (i:=4) (j:=8) rfl (by decide+kernel) ?_ ?_
       ·refine Take.app (pp:=(rL rI)) (jp:=2) 3 5 c0 rfl cb rfl rfl rfl rfl rfl rfl rfl underlying22 underlying22 BX (CR type28) Fo rfl (by decide) (by decide) (bI.Ah ((((((a3.Ab bd).Ab ba).Ab be).Ab a1).Ab a4).Ab a5)) cZ rfl rfl rfl rfl fun eN eO h2 c1 eP eQ=>B8 10 ht underlying24 BQ rfl rfl rfl rfl (JG.one (i:=8) rfl (by decide+kernel) ?_);refine Take.lit (pp:=(rL rI)) (jp:=2) [sV bp V.1 bq] ([V.1]:List (List Int)) eQ rfl rfl rfl rfl underlying22 BX Fo (by decide) rfl rfl rfl ⟨⟨_,_,rfl,b8⟩,trivial⟩ fun h3 eR eS eT=>JG.one (i:=9) rfl (by decide+kernel) (Take.app (pp:=(rL rI)) (jp:=2) 4 6 eT rfl cd rfl rfl rfl rfl rfl rfl rfl underlying22 underlying22 BX (CR type28) Fo rfl (by decide) (by decide) (bJ.Ah ((((((a3.Ab bd).Ab ba).Ab be).Ab a1).Ab a4).Ab a5)) eS rfl rfl rfl rfl fun eU eV h4 c3 eW eX=>?_);refine Ci [11,12,13] (EO 3 rfl eX fun eY=>?_);refine JS.drop 3 eY rfl fun eZ=>EO 4 rfl eZ fun e0=>JS.drop 4 e0 rfl fun e1=>Cq (S':= [[(bk,.cells #[sV bf V.2.1 bg,iV V.2.2.1,.int .u64 ((V.2.2.2:Nat):Int)] 92 (0,0))],[(U,.cells #[nS,nS] 24 (0,0))],[(O,.cells #[sV Z K.1 ag,sV al K.2.1 am] 24 (0,0))],[],[],cY,eR,c1,c3]) rfl e1 fun e2=>BR 2 e2 BQ fun e3=>?_;refine BJ underlying24 BQ rfl rfl rfl (BR 2 e3 BQ fun e4=>?_);obtain⟨e5,e6,e7⟩:=bs ce;refine zg 4 rfl (Bc e6 rfl rfl rfl ?_);refine zg 2 rfl (JS.drop 5 e4 rfl fun e8=>?_);refine JS.drop 6 e8 rfl fun e9=>?_;obtain rfl:=oi e7;exact Az (bW _ _ (ca,cc,V.2.1,V.2.2.1,V.2.2.2,e5) ⟨bh,eN,eO,c1,eU,eV,c3,bf,bg,rfl,rfl,(((((((bH.Ab a3).Ab bd).Ab ba).Ab be).Ab a1).Ab a4).Ab a5),e9,eP,eW,b9⟩ bz) rfl
       ·refine Take.lit (pp:=(rL rI)) (jp:=2) [sV bp V.1 bq] ([V.1]:List (List Int)) c0 rfl rfl rfl rfl underlying22 BX Fo (by decide) rfl rfl rfl ⟨⟨_,_,rfl,b8⟩,trivial⟩ fun h5 fa fb fc=>JG.one (i:=4) rfl (by decide+kernel) (Take.app (pp:=(rL rI)) (jp:=2) 3 5 fc rfl cb rfl rfl rfl rfl rfl rfl rfl underlying22 underlying22 BX (CR type28) Fo rfl (by decide) (by decide) (bI.Ah ((((((a3.Ab bd).Ab ba).Ab be).Ab a1).Ab a4).Ab a5)) cZ rfl rfl rfl rfl fun fd fe h6 c4 ff fg=>?_);refine B8 10 ht underlying24 BQ rfl rfl rfl rfl (JG.one (i:=9) rfl (by decide+kernel) ?_);refine Take.app (pp:=(rL rI)) (jp:=2) 4 6 fg rfl cd rfl rfl rfl rfl rfl rfl rfl underlying22 underlying22 BX (CR type28) Fo rfl (by decide) (by decide) (bJ.Ah ((((((a3.Ab bd).Ab ba).Ab be).Ab a1).Ab a4).Ab a5)) fb rfl rfl rfl rfl fun fh fj h7 c5 fk fm=>Ci [11,12,13] (EO 3 rfl fm fun fo=>?_);refine JS.drop 3 fo rfl fun fp=>EO 4 rfl fp fun fq=>JS.drop 4 fq rfl fun fs=>Cq (S':= [[(bk,.cells #[sV bf V.2.1 bg,iV V.2.2.1,.int .u64 ((V.2.2.2:Nat):Int)] 92 (0,0))],[(U,.cells #[nS,nS] 24 (0,0))],[(O,.cells #[sV Z K.1 ag,sV al K.2.1 am] 24 (0,0))],[],[],cY,fa,c4,c5]) rfl fs fun fu=>BR 2 fu BQ fun fv=>?_;refine BJ underlying24 BQ rfl rfl rfl (BR 2 fv BQ fun fw=>?_);obtain⟨fx,fy,fz⟩:=bs ce;refine zg 4 rfl (Bc fy rfl rfl rfl ?_);refine zg 2 rfl (JS.drop 5 fw rfl fun fA=>?_);refine JS.drop 6 fA rfl fun fB=>?_;obtain rfl:=oi fz;exact Az (bW _ _ (ca,cc,V.2.1,V.2.2.1,V.2.2.2,fx) ⟨bh,fd,fe,c4,fh,fj,c5,bf,bg,rfl,rfl,(((((((bH.Ab a3).Ab bd).Ab ba).Ab be).Ab a1).Ab a4).Ab a5),fB,ff,fk,b9⟩ bz) rfl
      ·refine Take.lit (pp:=(rL rI)) (jp:=2) [sV bp V.1 bq] ([V.1]:List (List Int)) bA rfl rfl rfl rfl underlying22 BX Fo (by decide) rfl rfl rfl ⟨⟨_,_,rfl,b8⟩,trivial⟩ fun h8 fC fD fE=>JG.one (i:=3) rfl (by decide+kernel) (Take.lit (pp:=(rL rI)) (jp:=2) [sV bb aZ.1 bc] ([aZ.1]:List (List Int)) fE rfl rfl rfl rfl underlying22 BX Fo (by decide) rfl rfl rfl ⟨⟨_,_,rfl,(cV.Ah ((a1.Ab a4).Ab a5))⟩,trivial⟩ fun h9 fF fG fH=>?_);refine JG.one (i:=4) rfl (by decide+kernel) (Take.app (pp:=(rL rI)) (jp:=2) 3 6 fH rfl cb rfl rfl rfl rfl rfl rfl rfl underlying22 underlying22 BX (CR type28) Fo rfl (by decide) (by decide) (bI.Ah ((((((a3.Ab bd).Ab ba).Ab be).Ab a1).Ab a4).Ab a5)) fG rfl rfl rfl rfl fun fI fJ ia c6 fK fL=>?_);refine B8 10 ht underlying24 BQ rfl rfl rfl rfl (JG.one (i:=9) rfl (by decide+kernel) ?_);refine Take.app (pp:=(rL rI)) (jp:=2) 4 5 fL rfl cd rfl rfl rfl rfl rfl rfl rfl underlying22 underlying22 BX (CR type28) Fo rfl (by decide) (by decide) (bJ.Ah ((((((a3.Ab bd).Ab ba).Ab be).Ab a1).Ab a4).Ab a5)) fD rfl rfl rfl rfl fun fM fN ic c7 fO fP=>Ci [11,12,13] (EO 3 rfl fP fun fQ=>?_);refine JS.drop 3 fQ rfl fun fR=>EO 4 rfl fR fun fS=>JS.drop 4 fS rfl fun fT=>Cq (S':= [[(bk,.cells #[sV bf V.2.1 bg,iV V.2.2.1,.int .u64 ((V.2.2.2:Nat):Int)] 92 (0,0))],[(U,.cells #[nS,nS] 24 (0,0))],[(O,.cells #[sV Z K.1 ag,sV al K.2.1 am] 24 (0,0))],[],[],fC,fF,c6,c7]) rfl fT fun fU=>BR 2 fU BQ fun fW=>?_;refine BJ underlying24 BQ rfl rfl rfl (BR 2 fW BQ fun fX=>?_);obtain⟨fY,fZ,ga⟩:=bs ce;refine zg 4 rfl (Bc fZ rfl rfl rfl ?_);refine zg 2 rfl (JS.drop 5 fX rfl fun gb=>?_);refine JS.drop 6 gb rfl fun gc=>?_;obtain rfl:=oi ga;exact Az (bW _ _ (ca,cc,V.2.1,V.2.2.1,V.2.2.2,fY) ⟨bh,fI,fJ,c6,fM,fN,c7,bf,bg,rfl,rfl,(((((((bH.Ab a3).Ab bd).Ab ba).Ab be).Ab a1).Ab a4).Ab a5),gc,fK,fO,b9⟩ bz) rfl
     ·intro gd;refine JL.block (CN eK (fun L s aY=>∃(bi:LH) (bB:An) (bC:Nat) (bj:An) (bl:Nat),Jn b7 H bi [bX bk #[sV bB aY.1 bC,iV aY.2.1,.int .u64 ((aY.2.2.1:Nat):Int)] 92,bX U #[nS,nS] 24,bX O #[sV Z K.1 ag,sV al K.2.1 am] 24,ap,av] [(0,pV bk 0),(4,pV U 0),(5,pV O 0),(6,iV a2.1),(7,iV K.2.2.2.2.2),(8,sV bb aZ.1 bc),(9,sV bj aY.2.2.2.1 bl),(10,iV aY.2.2.2.2)] L s (Al rI bi bB bC aY.1∧Al rI bi bj bl aY.2.2.2.1)) ⟨b7,cW,cX,none,0,rfl,rfl,Ar,eJ,eH,Al.nil⟩ ?_);rintro _ _ aY ⟨bi,bB,bC,bj,bl,rfl,rfl,c8,c9,da,cf⟩ ge ⟨ie,cg⟩ gf;have db:=cg;unfold Nl at db;obtain⟨gg,gh,gi⟩:=bs db;refine zg 6 rfl (EC [] (fun L s=>∃(ci:LH),Jm bi H ci [bX bk #[sV bB aY.1 bC,iV aY.2.1,.int .u64 ((aY.2.2.1:Nat):Int)] 92,bX U #[nS,nS] 24,bX O #[sV Z K.1 ag,sV al K.2.1 am] 24,ap,av] [(0,pV bk 0),(4,pV U 0),(5,pV O 0),(6,iV a2.1),(7,iV K.2.2.2.2.2),(8,sV bb aZ.1 bc),(9,sV bj aY.2.2.2.1 bl),(10,iV aY.2.2.2.2),(50,.bool gg)] L s) ?_ ?_)
      ·rintro _ _ ⟨ci,rfl,rfl,bm,dc⟩;refine JL.done (BH gi (fun gj gk=>?_) (fun gj gl=>?_))
       ·obtain⟨gm,gn,gp⟩:=bs gk;refine zg 7 rfl (Cd gn rfl rfl rfl ?_);refine AD (v:=iV (max (0) gm)) rfl (fun ρ h=>Yl.max2 (h _ _ rfl) (h _ _ rfl)) ?_;obtain⟨ig,gq,gr⟩:=bs gp;refine BZ 0 (HS (da.Ah bm) gq) rfl rfl HF dc rfl ?_;rintro _ ih _ ck ⟨ii,ij,rfl,rfl,gt⟩ gu;obtain⟨ik,gv,gw⟩:=bs gr;refine zg 6 rfl (BZ 0 (Lp gt gv) rfl rfl Kh gu rfl ?_);rintro _ dd _ cm ⟨gx,gy,rfl,rfl,de⟩ df;obtain⟨a0,gz,gA⟩:=bs gw;refine JL.done (Br (fun L s=>∃(bD:LH) (br:An) (bu:Nat),Jn dd H bD [bX bk #[sV br a0.2.1 bu,iV a0.2.2.1,.int .u64 ((a0.2.2.2:Nat):Int)] 92,bX U #[nS,nS] 24,bX O #[sV Z K.1 ag,sV al K.2.1 am] 24,ap,av] [(0,pV bk 0),(4,pV U 0),(5,pV O 0),(6,iV a2.1),(7,iV K.2.2.2.2.2),(8,sV bb aZ.1 bc),(9,sV bj aY.2.2.2.1 bl),(10,iV aY.2.2.2.2),(11,iV a0.1)] L s (Al rI bD br bu a0.2.1)) ?_ ?_)
        ·rintro _ _ ⟨bD,br,bu,rfl,rfl,cn,dg,gB⟩;obtain⟨co,gC,gD⟩:=bs gA;refine zg 6 rfl (Br (fun L s=>∃(bO:LH) (bP:An) (bQ:Nat),Jn bD H bO [bX bk #[sV br a0.2.1 bu,iV a0.2.2.1,.int .u64 ((a0.2.2.2:Nat):Int)] 92,bX U #[nS,nS] 24,bX O #[sV Z K.1 ag,sV al K.2.1 am] 24,ap,av] [(0,pV bk 0),(4,pV U 0),(5,pV O 0),(6,iV a2.1),(7,iV K.2.2.2.2.2),(8,sV bb aZ.1 bc),(9,sV bP co bQ),(10,iV aY.2.2.2.2)] L s (Al rI bO bP bQ co)) ?_ ?_)
         ·rintro _ _ ⟨bO,bP,bQ,rfl,rfl,dh,gE,gF⟩;obtain⟨gG,gH,gI⟩:=bs gD;refine zg 3 rfl (Cd gH rfl rfl rfl ?_);refine zg 2 rfl ?_;obtain rfl:=oi gI;exact Az (gf _ _ (a0.2.1,a0.2.2.1,a0.2.2.2,co,gG) ⟨bO,br,bu,bP,bQ,rfl,rfl,(((((c8.Ab bm).Ab ck).Ab cm).Ab cn).Ab dh),gE,(gB.Ah dh),gF⟩ cg) rfl
         ·intro di;refine AL gC (fun gJ gK=>?_) (fun gJ gL=>?_)
          ·obtain⟨il,gM,gN⟩:=bs gK;refine zg 3 rfl (BP (SY (cf.Ah (((bm.Ab ck).Ab cm).Ab cn)) gM) rfl rfl (AS func98 rfl) dg ?_);rintro _ gO _ gP ⟨gQ,gR,rfl,rfl,gS⟩ gT;refine Cq (S':= [[(bk,.cells #[sV br a0.2.1 bu,iV a0.2.2.1,.int .u64 ((a0.2.2.2:Nat):Int)] 92 (0,0))],[(U,.cells #[nS,nS] 24 (0,0))],[(O,.cells #[sV Z K.1 ag,sV al K.2.1 am] 24 (0,0))],ap,av,[]]) rfl gT fun gU=>zg 2 rfl ?_;obtain rfl:=oi gN;exact Az (di _ _ ⟨gO,gQ,gR,rfl,rfl,gP,gU,gS⟩) rfl
          ·refine JL.skip ?_;obtain rfl:=oi gL;exact Az (di _ _ ⟨bD,bj,bl,rfl,rfl,Ar,dg,(cf.Ah (((bm.Ab ck).Ab cm).Ab cn))⟩) rfl
        ·intro dj;refine BH gz (fun gV gW=>?_) (fun gV gX=>?_)
         ·obtain⟨io,gY,gZ⟩:=bs gW;refine zg 3 rfl (Cd gY rfl rfl rfl ?_);obtain⟨cp,g0,g1⟩:=bs gZ;refine BZ 0 (HS de g0) rfl rfl HF df rfl ?_;rintro _ g3 _ g4 ⟨dk,dl,rfl,rfl,g5⟩ g6;refine Cq (S':= [[(bk,.cells #[sV dk cp.2.1 dl,iV cp.2.2.1,.int .u64 ((cp.2.2.2:Nat):Int)] 92 (0,0))],[(U,.cells #[nS,nS] 24 (0,0))],[(O,.cells #[sV Z K.1 ag,sV al K.2.1 am] 24 (0,0))],ap,av]) rfl g6 fun g7=>zg 2 rfl ?_;obtain rfl:=oi g1;exact Az (dj _ _ ⟨g3,dk,dl,rfl,rfl,g4,g7,g5⟩) rfl
         ·refine JL.skip ?_;obtain rfl:=oi gX;exact Az (dj _ _ ⟨dd,gx,gy,rfl,rfl,Ar,df,de⟩) rfl
       ·refine JL.exit rfl ?_;obtain rfl:=oi gl;obtain rfl:=ge _ cg;exact Az (gd _ _ ⟨ci,bj,bl,bB,bC,rfl,rfl,(c8.Ab bm),dc,(cf.Ah bm),(da.Ah bm)⟩) rfl
      ·intro dm;refine Ee 47 gh (fun g8 g9=>?_) (fun g8 ha=>?_)
       ·refine zg 3 rfl ?_;obtain rfl:=oi g9;exact Az (dm _ _ ⟨bi,rfl,rfl,Ar,c9⟩) rfl
       ·refine zg 3 rfl ?_;obtain rfl:=oi ha;exact Az (dm _ _ ⟨bi,rfl,rfl,Ar,c9⟩) rfl
    ·intro dn;refine BH ex (fun hb hc=>?_) (fun hb hd=>?_)
     ·obtain⟨iq,he,hf⟩:=bs hc;refine zg 3 rfl (Cd he rfl rfl rfl ?_);obtain⟨bE,hj,hk⟩:=bs hf;refine BZ 0 (HS cR hj) rfl rfl HF cT rfl ?_;rintro _ ir _ hl ⟨dp,dq,rfl,rfl,hm⟩ hn;refine Dx (pp:=rI) [iV bE.1] [bE.1] rfl rfl rfl underlying28 AW CM (by decide) rfl rfl rfl ⟨rfl,trivial⟩ hn fun ho it hp hq=>zg 2 rfl (B7 5 hp hq rfl fun hr dr hu hv=>?_);refine Cq (S':= [[(bk,.cells #[sV dp bE.2.1 dq,iV bE.2.2.1,.int .u64 ((bE.2.2.2:Nat):Int)] 92 (0,0))],[(U,.cells #[nS,nS] 24 (0,0))],[(O,.cells #[sV Z K.1 ag,sV al K.2.1 am] 24 (0,0))],ap,av,[]]) rfl hv fun hw=>?_;obtain rfl:=oi hk;exact Az (dn _ _ ⟨hr,(AZ ho),1,dp,dq,rfl,rfl,(hl.Ab dr),hw,hu,(hm.Ah dr)⟩) rfl
     ·refine JL.skip ?_;obtain rfl:=oi hd;exact Az (dn _ _ ⟨cO,bL,bM,cP,cQ,rfl,rfl,Ar,cT,(eq.Ah ba),cR⟩) rfl
   ·intro dt;refine BH en (fun hx hy=>?_) (fun hx hz=>?_)
    ·obtain⟨iu,hA,hB⟩:=bs hy;refine zg 5 rfl (Cd hA rfl rfl rfl ?_);obtain⟨cq,hC,hD⟩:=bs hB;refine BZ 0 (Pb cM hC) rfl rfl NY cN rfl ?_;rintro _ iv _ du ⟨dv,dw,rfl,rfl,hE⟩ hF;refine Cq (S':= [[(bk,.cells #[sV dv cq.2.1 dw,iV cq.2.2.1,.int .u64 ((cq.2.2.2:Nat):Int)] 92 (0,0))],[(U,.cells #[nS,nS] 24 (0,0))],[(O,.cells #[sV Z K.1 ag,sV al K.2.1 am] 24 (0,0))],ap,av,ei]) rfl hF fun hG=>B7 5 (cI.Ah (a3.Ab du)) hG rfl fun iw dx hH hI=>?_;obtain⟨iy,hJ,hK⟩:=bs hD;refine BP (SY hH hJ) rfl rfl (AS func98 rfl) hI ?_;rintro _ hL _ dy ⟨hM,hN,rfl,rfl,hO⟩ hP;refine zg 2 rfl ?_;obtain rfl:=oi hK;exact Az (dt _ _ ⟨hL,hM,hN,dv,dw,rfl,rfl,((du.Ab dx).Ab dy),hP,hO,(hE.Ah (dx.Ab dy))⟩) rfl
    ·refine JL.skip (B7 5 (cI.Ah a3) cN rfl fun hQ dz hR hS=>?_);refine Cq (S':= [[(bk,.cells #[sV cJ b0.2.1 cK,iV b0.2.2.1,.int .u64 ((b0.2.2.2:Nat):Int)] 92 (0,0))],[(U,.cells #[nS,nS] 24 (0,0))],[(O,.cells #[sV Z K.1 ag,sV al K.2.1 am] 24 (0,0))],ap,av,[]]) rfl hS fun hT=>?_;obtain rfl:=oi hz;exact Az (dt _ _ ⟨hQ,(AZ eh),1,cJ,cK,rfl,rfl,dz,hT,hR,(cM.Ah dz)⟩) rfl
  ·refine JL.exit rfl ?_;obtain rfl:=oi ec;obtain rfl:=dZ _ bz;exact Az (dY _ _ ⟨bn,bF,bG,Z,ag,ap,al,am,av,rfl,rfl,bH,cF,cG,bI,bJ⟩) rfl
def Nk(fuel:Nat)(p1:A2)(U:Int×(BV))(K:(List Int)×Int×Nat×Int×Int):Option (Bi ((List Int)×Int×Nat×Int×Int) (Int×BV)):= if K.2.2.2.2<U.1 then((ix p1.1 K.2.2.2.1).bind fun V=> (f99 fuel (K.1,K.2.1,K.2.2.1) V).bind fun O=> (As (K.2.2.2.2+1)).bind fun Y=> some (.more (O.2.1,O.2.2.1,O.2.2.2,O.1,Y))) else(some (.done (K.2.2.2.1,K.1,K.2.1,K.2.2.1)))
def MW(fuel:Nat)(p1:A2)(p2:Int)(K:(List Int)×Int×Nat×Int×(List Int)×Int):Option (Bi ((List Int)×Int×Nat×Int×(List Int)×Int) ((List Int)×BV)):= if K.2.2.2.2.2<p2 then((room K.2.2.2.2.1 K.2.2.2.1).bind fun U=> (ix p1.1 K.2.2.2.1).bind fun V=> (f99 fuel (K.1,K.2.1,K.2.2.1) V).bind fun O=> (As (K.2.2.2.2.2+1)).bind fun Y=> some (.more (O.2.1,O.2.2.1,O.2.2.2,O.1,U,Y))) else(some (.done (K.2.2.2.2.1,K.1,K.2.1,K.2.2.1)))
def f45(fuel:Nat)(p0:BV)(p1:A2)(p2:Int):Option (Int×(List Int)×(BV)):= (f41 fuel p0 6).bind fun K=> Option.bind (iter (Nk fuel p1 K) fuel (K.2.1,K.2.2.1,K.2.2.2,0,0)) fun O=> Option.bind (iter (MW fuel p1 p2) fuel (O.2.1,O.2.2.1,O.2.2.2,O.1,[],0)) fun U=> some (K.1,U.1,U.2)
theorem aM{bk:Nat}{bm:An}{c2:Nat}{bn:An}{bo:Nat}{bp:An}{bq:Nat}{p0:BV}{p1:A2}{p2:Int}(bK:Al rI E bm c2 p0.1)(br:Al (rL rI) E bn bo p1.1)(c3:Al (rL rI) E bp bq p1.2){fuel:Nat}{r:Int×(List Int)×(BV)}(bu:f45 fuel p0 p1 p2=some r):AK J 45 [pV bk 0,.agg #[sV bn p1.1 bo,sV bp p1.2 bq],iV p2] E [(bk,.cells #[sV bm p0.1 c2,iV p0.2.1,.int .u64 ((p0.2.2:Nat):Int)] 92 (0,0))] (fun w E' B'=>∃(bv:An) (bw:Nat) (bx:An) (bz:Nat),w= .tuple #[iV r.1,sV bv r.2.1 bw]∧B'= [(bk,.cells #[sV bx r.2.2.1 bz,iV r.2.2.2.1,.int .u64 ((r.2.2.2.2:Nat):Int)] 92 (0,0))]∧Al rI E' bv bw r.2.1∧Al rI E' bx bz r.2.2.1):=by
 refine A3 func45 fun Q c4 cs H bL bM=>?_;unfold f45 at bu;refine zg 2 rfl (B4 bL fun bf c5 ap bA bN=>?_);obtain⟨av,bO,bP⟩:=bs bu;refine zg 6 rfl (BZ 0 (HS (bK.Ah ap) bO) rfl rfl HF bN rfl ?_);rintro _ bg _ Y ⟨bQ,bR,rfl,rfl,bS⟩ bT;obtain⟨Z,bU,bV⟩:=bs bP;refine zg 8 rfl (Br (fun L s=>∃(U:LH) (aY:An) (aZ:Nat),Jn bg H U [bX bk #[sV aY Z.2.1 aZ,iV Z.2.2.1,.int .u64 ((Z.2.2.2:Nat):Int)] 92] [(0,pV bk 0),(2,iV p2),(4,pV bf 0),(8,iV av.1),(9,iV Z.1)] L s (Al rI U aY aZ Z.2.1)) ?_ ?_)
 ·rintro _ _ ⟨U,aY,aZ,rfl,rfl,bh,bW,bY⟩;obtain⟨V,bZ,b0⟩:=bs bV;refine zg 9 rfl (Br (fun L s=>∃(a0:LH) (a1:An) (a2:Nat) (bi:Seg) (a3:An) (a4:Nat),Jn U H a0 [bX bk #[sV a3 V.2.1 a4,iV V.2.2.1,.int .u64 ((V.2.2.2:Nat):Int)] 92,bi] [(8,iV av.1),(11,sV a1 V.1 a2)] L s (OL 3 rI a0 a1 a2 bi V.1∧Al rI a0 a3 a4 V.2.1)) ?_ ?_)
  ·rintro _ _ ⟨a0,a1,a2,bi,a3,a4,rfl,rfl,b1,b2,b3,b4⟩;refine zg 7 rfl (B7 1 b3 b2 rfl fun c6 bB b5 b6=>?_);obtain rfl:=oi b0;exact AA func45 rfl rfl (bM ((((ap.Ab Y).Ab bh).Ab b1).Ab bB) rfl ⟨a1,a2,a3,a4,rfl,rfl,b5,(b4.Ah bB)⟩ b6)
  ·intro b7;refine JL.block (CN bZ (fun L s K=>∃(ag:LH) (a5:An) (a6:Nat) (al:An) (am:Nat) (a7:Seg),Jn U H ag [bX bk #[sV a5 K.1 a6,iV K.2.1,.int .u64 ((K.2.2.1:Nat):Int)] 92,a7] [(0,pV bk 0),(2,iV p2),(4,pV bf 0),(8,iV av.1),(9,iV K.2.2.2.1),(11,sV al K.2.2.2.2.1 am),(12,iV K.2.2.2.2.2)] L s (Al rI ag a5 a6 K.1∧OL 3 rI ag al am a7 K.2.2.2.2.1)) ⟨U,aY,aZ,none,0,[],rfl,rfl,Ar,bW,bY,OL.nil⟩ ?_);rintro _ _ K ⟨ag,a5,a6,al,am,a7,rfl,rfl,a8,bC,bD,bE⟩ b8 ⟨c7,bj⟩ b9;have bF:=bj;unfold MW at bF;refine zg 7 rfl (AL bF (fun ca cb=>?_) (fun ca cc=>?_))
   ·obtain⟨cd,ce,cf⟩:=bs cb;refine zg 7 rfl (JS.app (pp:=rI) (v:=iV K.2.2.2.1) (a:=al) (c:=am) 1 ce rfl rfl rfl rfl (fun _=>rfl) rfl (fun _=>rfl) rfl rfl rfl underlying28 underlying28 underlying28 AW (CR type3) CM rfl (by decide) (by decide) (by decide) (by decide) bE rfl bC rfl fun c8 cg ci ck cm cn=>?_);refine zg 4 rfl (JL.fl 0 (bA.Ah ((Y.Ab bh).Ab a8)) underlying24 BQ Cr ?_);obtain⟨c9,co,cp⟩:=bs cf;refine zg 1 rfl (Ce (br.Ah (((ap.Ab Y).Ab bh).Ab a8)) co underlying22 BX ?_);rintro da db _ ⟨dc,dd,rfl,cq⟩ cr;refine BY 0 cr CQ rfl rfl rfl ?_;obtain⟨a9,ct,cu⟩:=bs cp;refine BZ 0 (NC bD cq ct) rfl rfl L4 cn rfl ?_;rintro _ cv _ bG ⟨cw,cy,rfl,rfl,cz⟩ cA;obtain⟨cB,cC,cD⟩:=bs cu;refine zg 5 rfl (Bc cC rfl rfl rfl ?_);refine zg 2 rfl ?_;obtain rfl:=oi cD;exact Az (b9 _ _ (a9.2.1,a9.2.2.1,a9.2.2.2,a9.1,cd,cB) ⟨cv,cw,cy,cg,ci,ck,rfl,rfl,(a8.Ab bG),cA,cz,(cm.Ah bG)⟩ bj) rfl
   ·refine JL.exit rfl ?_;obtain rfl:=oi cc;obtain rfl:=b8 _ bj;exact Az (b7 _ _ ⟨ag,al,am,a7,a5,a6,rfl,rfl,a8,bC,bE,bD⟩) rfl
 ·intro cE;refine JL.block (CN bU (fun L s O=>∃(ba:LH) (bb:An) (bc:Nat),Jn bg H ba [bX bk #[sV bb O.1 bc,iV O.2.1,.int .u64 ((O.2.2.1:Nat):Int)] 92] [(0,pV bk 0),(2,iV p2),(4,pV bf 0),(8,iV av.1),(9,iV O.2.2.2.1),(10,iV O.2.2.2.2)] L s (Al rI ba bb bc O.1)) ⟨bg,bQ,bR,rfl,rfl,Ar,bT,bS⟩ ?_);rintro _ _ O ⟨ba,bb,bc,rfl,rfl,bd,bH,bI⟩ cF ⟨de,bl⟩ cG;have bJ:=bl;unfold Nk at bJ;refine zg 7 rfl (AL bJ (fun cH cI=>?_) (fun cH cJ=>?_))
  ·refine zg 5 rfl (JL.fl 0 (bA.Ah (Y.Ab bd)) underlying24 BQ Cr ?_);obtain⟨df,cK,cM⟩:=bs cI;refine zg 1 rfl (Ce (br.Ah ((ap.Ab Y).Ab bd)) cK underlying22 BX ?_);rintro dg dh _ ⟨di,dj,rfl,cN⟩ cO;refine BY 0 cO CQ rfl rfl rfl ?_;obtain⟨be,cP,cQ⟩:=bs cM;refine BZ 0 (NC bI cN cP) rfl rfl L4 bH rfl ?_;rintro _ cR _ cT ⟨cV,cW,rfl,rfl,cX⟩ cY;obtain⟨cZ,c0,c1⟩:=bs cQ;refine zg 5 rfl (Bc c0 rfl rfl rfl ?_);refine zg 2 rfl ?_;obtain rfl:=oi c1;exact Az (cG _ _ (be.2.1,be.2.2.1,be.2.2.2,be.1,cZ) ⟨cR,cV,cW,rfl,rfl,(bd.Ab cT),cY,cX⟩ bl) rfl
  ·refine JL.exit rfl ?_;obtain rfl:=oi cJ;obtain rfl:=cF _ bl;exact Az (cE _ _ ⟨ba,bb,bc,rfl,rfl,bd,bH,bI⟩) rfl
def OM(fuel:Nat)(p1:A2)(p2:List Int)(p4:Bool)(K:(List Int)×Int×Nat×(AI)×Int×Int):Option (Bi ((List Int)×Int×Nat×(AI)×Int×Int) ((AI)×BV)):= if 0<K.2.2.2.2.2 then((As ((p2.length:Int) - 1)).bind fun ag=> (As (K.2.2.2.2.1+2)).bind fun al=> (f96 fuel (K.1,K.2.1,K.2.2.1) K.2.2.2.2.1 (min ag al)).bind fun O=> (ix p2 O.1).bind fun am=> (ix p2 O.1).bind fun ap=> (ix p1.2 ap).bind fun Z=> Option.bind (if p4=true then(some (decide (0<(Z.length:Int)))) else(some false)) fun av=> Option.bind (if av=true then((f97 fuel O.2 2).bind fun aY=> some aY) else(some (false,O.2.1,O.2.2.1,O.2.2.2))) fun U=> Option.bind (if U.1=true then((f99 fuel U.2 Z).bind fun V=> some (V.2.1,V.2.2.1,V.2.2.2,V.1)) else(some (U.2.1,U.2.2.1,U.2.2.2,am))) fun Y=> (room K.2.2.2.1 (O.1,Y.2.2.2)).bind fun aZ=> (As (K.2.2.2.2.2 - 1)).bind fun a0=> some (.more (Y.1,Y.2.1,Y.2.2.1,aZ,O.1,a0))) else(some (.done (K.2.2.2.1,K.1,K.2.1,K.2.2.1)))
def f46(fuel:Nat)(p0:BV)(p1:A2)(p2:List Int)(p3:Int)(p4:Bool):Option ((AI)×(BV)):= (f41 fuel p0 p3).bind fun K=> Option.bind (iter (OM fuel p1 p2 p4) fuel (K.2.1,K.2.2.1,K.2.2.2,[],0,K.1)) fun O=> some O
theorem aA{bk:Nat}{bo:An}{c2:Nat}{bp:An}{bq:Nat}{br:An}{bu:Nat}{ag:An}{al:Nat}{p0:BV}{p1:A2}{p2:List Int}{p3:Int}{p4:Bool}(bW:Al rI E bo c2 p0.1)(dA:Al (rL rI) E bp bq p1.1)(bY:Al (rL rI) E br bu p1.2)(bv:Al rI E ag al p2){fuel:Nat}{r:(AI)×(BV)}(bw:f46 fuel p0 p1 p2 p3 p4=some r):AK J 46 [pV bk 0,.agg #[sV bp p1.1 bq,sV br p1.2 bu],sV ag p2 al,iV p3,.bool p4] E [(bk,.cells #[sV bo p0.1 c2,iV p0.2.1,.int .u64 ((p0.2.2:Nat):Int)] 92 (0,0))] (fun w E' B'=>∃(bx:An) (bz:Nat) (g0:Seg) (bA:An) (bB:Nat),w= sV bx r.1 bz∧B'= [(bk,.cells #[sV bA r.2.1 bB,iV r.2.2.1,.int .u64 ((r.2.2.2:Nat):Int)] 92 (0,0))]++g0∧OL 27 Bo E' bx bz g0 r.1∧Al rI E' bA bB r.2.1):=by
 refine A3 func46 fun Q dB cs H bZ b0=>?_;unfold f46 at bw;refine zg 2 rfl (B4 bZ fun a5 dC aZ b1 b2=>?_);obtain⟨dD,b3,b4⟩:=bs bw;refine zg 15 rfl (BZ 0 (HS (bW.Ah aZ) b3) rfl rfl HF b2 rfl ?_);rintro _ bj _ a0 ⟨b5,b6,rfl,rfl,b7⟩ b8;obtain⟨am,b9,ca⟩:=bs b4;refine zg 2 rfl (Br (fun L s=>∃(a6:LH) (a7:An) (a8:Nat) (a9:Seg) (ba:An) (bb:Nat),Jn bj H a6 [bX bk #[sV ba am.2.1 bb,iV am.2.2.1,.int .u64 ((am.2.2.2:Nat):Int)] 92,a9] [(11,sV a7 am.1 a8)] L s (OL 27 Bo a6 a7 a8 a9 am.1∧Al rI a6 ba bb am.2.1)) ?_ ?_)
 ·rintro _ _ ⟨a6,a7,a8,a9,ba,bb,rfl,rfl,cb,cc,cd,ce⟩;refine zg 5 rfl ?_;obtain rfl:=oi ca;exact AA func46 rfl rfl (b0 ((aZ.Ab a0).Ab cb) rfl ⟨a7,a8,a9,ba,bb,rfl,(by first | rfl | simp | (simp [Value.cells])),cd,ce⟩ cc)
 ·intro cf;refine JL.block (CN b9 (fun L s K=>∃(a1:LH) (bc:An) (bd:Nat) (V:An) (Y:Nat) (Z:Seg),Jn bj H a1 [bX bk #[sV bc K.1 bd,iV K.2.1,.int .u64 ((K.2.2.1:Nat):Int)] 92,Z] [(0,pV bk 0),(2,sV ag p2 al),(4,.bool p4),(6,pV a5 0),(11,sV V K.2.2.2.1 Y),(12,iV K.2.2.2.2.1),(13,iV K.2.2.2.2.2)] L s (Al rI a1 bc bd K.1∧OL 27 Bo a1 V Y Z K.2.2.2.1)) ⟨bj,b5,b6,none,0,[],rfl,rfl,Ar,b8,b7,OL.nil⟩ ?_);rintro _ _ K ⟨a1,bc,bd,V,Y,Z,rfl,rfl,ap,bC,bD,bE⟩ cg ⟨dE,bl⟩ ci;have bF:=bl;unfold OM at bF;refine zg 6 rfl (AL bF (fun ck cm=>?_) (fun ck cn=>?_))
  ·refine zg 8 rfl (Bg underlying28 rfl rfl rfl ?_);obtain⟨co,cp,cq⟩:=bs cm;refine Cd cp rfl rfl rfl ?_;obtain⟨cr,ct,cu⟩:=bs cq;refine zg 1 rfl (Bc ct rfl rfl rfl ?_);refine AD (v:=iV (min co cr)) rfl (fun ρ h=>Yl.min2 (h _ _ rfl) (h _ _ rfl)) ?_;obtain⟨O,cv,cw⟩:=bs cu;refine BZ 0 (Pb bD cv) rfl rfl NY bC rfl ?_;rintro _ dF _ av ⟨bG,bH,rfl,rfl,bI⟩ cy;obtain⟨bm,cz,cA⟩:=bs cw;refine zg 7 rfl (Ce (bv.Ah (((aZ.Ab a0).Ab ap).Ab av)) cz underlying28 AW ?_);rintro dG dH _ rfl cB;refine BY 0 cB Bv rfl rfl rfl (AD (v:= .agg #[iV O.1,iV bm]) rfl (fun ρ h=>Dg [(0,1),(1,1)] h Er underlying27 ⟨rfl,Bu type3,rfl,Bu type3,trivial⟩ rfl rfl) ?_);refine CF cy Er fun aY cC=>?_;refine BR 2 cC Cc fun bJ=>?_;refine zg 3 rfl (C6 6 fun ht=>?_);refine B8 0 ht underlying24 BQ rfl rfl rfl rfl (Cv 1 ht 1 (b1.Ah ((a0.Ab ap).Ab av)) Cr rfl rfl rfl rfl ?_);refine A4 ht rfl [2,3] rfl ?_;obtain⟨dI,cD,cE⟩:=bs cA;refine Cy 4 (bv.Ah (((aZ.Ab a0).Ab ap).Ab av)) cD ht underlying28 AW ?_;rintro dJ dK _ rfl cF;refine Cv 5 ht 0 cF Bv rfl rfl rfl rfl (Ci [6,7,8] ?_);obtain⟨bK,cG,cH⟩:=bs cE;refine Ce (bY.Ah (((aZ.Ab a0).Ab ap).Ab av)) cG underlying22 BX ?_;rintro dL dM _ ⟨bL,bM,rfl,cI⟩ cJ;refine BY 0 cJ CQ rfl rfl rfl ?_;obtain⟨cK,cM,cN⟩:=bs cH;refine zg 6 rfl (Dr 6 4 [bX bk #[sV bG O.2.1 bH,iV O.2.2.1,.int .u64 ((O.2.2.2:Nat):Int)] 92,Z,bX aY #[iV O.1,iV bm] 27] [(0,pV bk 0),(2,sV ag p2 al),(4,.bool p4),(6,pV a5 0),(11,sV V K.2.2.2.1 Y),(12,iV O.1),(13,iV K.2.2.2.2.2),(14,pV aY 0),(15,sV bL bK bM),(51,.bool cK)] (fun bN a2 bO=>?_) (fun bP=>?_))
   ·obtain⟨a3,cO,cP⟩:=bs cN;refine zg 1 rfl (EC [] (fun L s=>∃(a4:LH) (be:An) (bf:Nat),Jn bN H a4 [bX bk #[sV be a3.2.1 bf,iV a3.2.2.1,.int .u64 ((a3.2.2.2:Nat):Int)] 92,Z,bX aY #[iV O.1,iV bm] 27] [(0,pV bk 0),(2,sV ag p2 al),(4,.bool p4),(6,pV a5 0),(11,sV V K.2.2.2.1 Y),(12,iV O.1),(13,iV K.2.2.2.2.2),(14,pV aY 0),(15,sV bL bK bM),(55,.bool a3.1)] L s (Al rI a4 be bf a3.2.1)) ?_ ?_)
    ·rintro _ _ ⟨a4,be,bf,rfl,rfl,bn,bQ,bR⟩;obtain⟨U,cQ,cR⟩:=bs cP;refine JL.done (Br (fun L s=>∃(bg:LH) (bh:An) (bi:Nat),Jn a4 H bg [bX bk #[sV bh U.1 bi,iV U.2.1,.int .u64 ((U.2.2.1:Nat):Int)] 92,Z,bX aY #[iV O.1,iV U.2.2.2] 27] [(0,pV bk 0),(2,sV ag p2 al),(4,.bool p4),(6,pV a5 0),(11,sV V K.2.2.2.1 Y),(12,iV O.1),(13,iV K.2.2.2.2.2),(14,pV aY 0)] L s (Al rI bg bh bi U.1)) ?_ ?_)
     ·rintro _ _ ⟨bg,bh,bi,rfl,rfl,bS,bT,cT⟩;refine zg 2 rfl (AD rfl (fun ρ h=>FY (vs:= [iV O.1,iV U.2.2.2]) Gs Cc (h _ _ rfl) (FV (off:=0) 2 bT rfl rfl)) ?_);obtain⟨cV,cW,cX⟩:=bs cR;refine JS.app (pp:=Bo) (v:= .agg #[iV O.1,iV U.2.2.2]) (a:=V) (c:=Y) 1 cW rfl rfl rfl rfl (fun _=>rfl) rfl (fun _=>rfl) rfl rfl rfl underlying25 underlying25 underlying25 Cc (CR type27) Er rfl (by decide) (by decide) (by decide) (by decide) (bE.Ah (((av.Ab a2).Ab bn).Ab bS)) ⟨_,_,rfl,rfl,rfl⟩ bT rfl fun dN cY cZ c0 c1 c3=>?_;obtain⟨c4,c5,c6⟩:=bs cX;refine zg 5 rfl (Cd c5 rfl rfl rfl ?_);refine zg 2 rfl (JS.drop 2 c3 rfl fun c7=>?_);obtain rfl:=oi c6;exact Az (ci _ _ (U.1,U.2.1,U.2.2.1,cV,O.1,c4) ⟨bg,bh,bi,cY,cZ,c0,rfl,rfl,((((ap.Ab av).Ab a2).Ab bn).Ab bS),c7,cT,c1⟩ bl) rfl
     ·intro bU;refine BH cQ (fun c8 c9=>?_) (fun c8 da=>?_)
      ·obtain⟨dO,db,dc⟩:=bs c9;refine zg 3 rfl (BZ 0 (NC bR (cI.Ah (a2.Ab bn)) db) rfl rfl L4 bQ rfl ?_);rintro _ dd _ de ⟨df,dg,rfl,rfl,dh⟩ di;refine BJ underlying27 AW rfl rfl rfl (BR 2 di AW fun dj=>?_);refine JL.done ?_;obtain rfl:=oi dc;exact Az (bU _ _ ⟨dd,df,dg,rfl,rfl,de,dj,dh⟩) rfl
      ·refine JL.skip ?_;obtain rfl:=oi da;exact Az (bU _ _ ⟨a4,be,bf,rfl,rfl,Ar,bQ,bR⟩) rfl
    ·intro bV;refine DZ 52 cO (fun dk dl=>?_) (fun dk dm=>?_)
     ·obtain⟨dP,dn,dp⟩:=bs dl;refine zg 1 rfl (BZ 0 (Lp (bI.Ah a2) dn) rfl rfl Kh bO rfl ?_);rintro _ dq _ dr ⟨dt,du,rfl,rfl,dv⟩ dw;refine zg 1 rfl ?_;obtain rfl:=oi dp;exact Az (bV _ _ ⟨dq,dt,du,rfl,rfl,dr,dw,dv⟩) rfl
     ·refine zg 3 rfl ?_;obtain rfl:=oi dm;exact Az (bV _ _ ⟨bN,bG,bH,rfl,rfl,Ar,bO,(bI.Ah a2)⟩) rfl
   ·refine DZ 47 cM (fun dx dy=>?_) (fun dx dz=>?_)
    ·refine zg 1 rfl (Bg underlying28 rfl rfl rfl ?_);refine zg 2 rfl ?_;obtain rfl:=oi dy;exact bP Ar bJ rfl
    ·refine zg 4 rfl ?_;obtain rfl:=oi dz;exact bP Ar bJ rfl
  ·refine JL.exit rfl ?_;obtain rfl:=oi cn;obtain rfl:=cg _ bl;exact Az (cf _ _ ⟨a1,V,Y,Z,bc,bd,rfl,rfl,ap,bC,bE,bD⟩) rfl
def MX(fuel:Nat)(p1:A2)(K:(List Int)×Int×Nat×(AI)×Int):Option (Bi ((List Int)×Int×Nat×(AI)×Int) ((AI)×BV)):= if K.2.2.2.2<(K.2.2.2.1.length:Int) then((f97 fuel (K.1,K.2.1,K.2.2.1) 6).bind fun O=> Option.bind (if O.1=true then((As ((p1.1.length:Int) - 1)).bind fun Y=> (f41 fuel O.2 Y).bind fun U=> (ix K.2.2.2.1 K.2.2.2.2).bind fun Z=> some ((K.2.2.2.1.set (Int.toNat K.2.2.2.2) (Z.1,U.1)),U.2.1,U.2.2.1,U.2.2.2)) else(some (K.2.2.2.1,O.2.1,O.2.2.1,O.2.2.2))) fun V=> (As (K.2.2.2.2+1)).bind fun ag=> some (.more (V.2.1,V.2.2.1,V.2.2.2,V.1,ag))) else(some (.done (K.2.2.2.1,K.1,K.2.1,K.2.2.1)))
def f40(fuel:Nat)(p0:BV)(p1:A2)(p2:Int):Option ((AI)×(BV)):= (f45 fuel p0 p1 5).bind fun O=> (f46 fuel O.2.2 p1 O.2.1 p2 true).bind fun K=> Option.bind (iter (MX fuel p1) fuel (K.2.1,K.2.2.1,K.2.2.2,K.1,0)) fun U=> some U
theorem ak{bk:Nat}{bp:An}{c2:Nat}{be:An}{bf:Nat}{bq:An}{br:Nat}{p0:BV}{p1:A2}{p2:Int}(bO:Al rI E bp c2 p0.1)(bu:Al (rL rI) E be bf p1.1)(bv:Al (rL rI) E bq br p1.2){fuel:Nat}{r:(AI)×(BV)}(bw:f40 fuel p0 p1 p2=some r):AK J 40 [pV bk 0,.agg #[sV be p1.1 bf,sV bq p1.2 br],iV p2] E [(bk,.cells #[sV bp p0.1 c2,iV p0.2.1,.int .u64 ((p0.2.2:Nat):Int)] 92 (0,0))] (fun w E' B'=>∃(bx:An) (bz:Nat) (bA:An) (bB:Nat),w= sV bx r.1 bz∧B'= [(bk,.cells #[sV bA r.2.1 bB,iV r.2.2.1,.int .u64 ((r.2.2.2:Nat):Int)] 92 (0,0))]∧Al Bo E' bx bz r.1∧Al rI E' bA bB r.2.1):=by
 refine A3 func40 fun Q c3 cs H bP bQ=>?_;unfold f40 at bw;refine zg 2 rfl (B4 bP fun aZ c4 ag bg bR=>?_);refine zg 5 rfl (BO bg BW BD rfl rfl ?_);obtain⟨c5,bS,bT⟩:=bs bw;refine BZ 0 (aM (bO.Ah ag) (bu.Ah ag) (bv.Ah ag) bS) rfl rfl (AS func45 rfl) bR rfl ?_;rintro _ c6 _ am ⟨c7,c8,c9,da,rfl,rfl,bU,bV⟩ bW;refine zg 9 rfl (BO (bg.Ah am) BW BD rfl rfl ?_);obtain⟨db,bY,bZ⟩:=bs bT;refine zg 2 rfl (BZ 0 (aA bV (bu.Ah (ag.Ab am)) (bv.Ah (ag.Ab am)) bU bY) rfl rfl (AS func46 rfl) bW rfl ?_);rintro _ bh _ bC ⟨b0,b1,b2,b3,b4,rfl,rfl,b5,b6⟩ b7;refine EO 0 rfl b7 fun b8=>?_;obtain⟨al,b9,ca⟩:=bs bZ;refine zg 7 rfl (Br (fun L s=>∃(a0:LH) (a1:An) (a2:Nat) (bi:Seg) (a3:An) (a4:Nat),Jn bh H a0 [bX bk #[sV a3 al.2.1 a4,iV al.2.2.1,.int .u64 ((al.2.2.2:Nat):Int)] 92,bi] [(9,sV a1 al.1 a2)] L s (OL 27 Bo a0 a1 a2 bi al.1∧Al rI a0 a3 a4 al.2.1)) ?_ ?_)
 ·rintro _ _ ⟨a0,a1,a2,bi,a3,a4,rfl,rfl,cb,cc,cd,ce⟩;refine zg 5 rfl (B7 1 cd cc rfl fun dc bD cf cg=>?_);obtain rfl:=oi ca;exact AA func40 rfl rfl (bQ ((((ag.Ab am).Ab bC).Ab cb).Ab bD) rfl ⟨a1,a2,a3,a4,rfl,rfl,cf,(ce.Ah bD)⟩ cg)
 ·intro ci;refine JL.block (CN b9 (fun L s K=>∃(ap:LH) (a5:An) (a6:Nat) (Y:An) (Z:Nat) (av:Seg),Jn bh H ap [bX bk #[sV a5 K.1 a6,iV K.2.1,.int .u64 ((K.2.2.1:Nat):Int)] 92,av] [(0,pV bk 0),(4,pV aZ 0),(9,sV Y K.2.2.2.1 Z),(10,iV K.2.2.2.2)] L s (Al rI ap a5 a6 K.1∧OL 27 Bo ap Y Z av K.2.2.2.1)) ⟨bh,b3,b4,b0,b1,b2,rfl,rfl,Ar,b8,b6,b5⟩ ?_);rintro _ _ K ⟨ap,a5,a6,Y,Z,av,rfl,rfl,bj,bE,bF,bl⟩ ck ⟨dd,bm⟩ cm;have bG:=bm;unfold MX at bG;refine zg 5 rfl (Bg underlying25 rfl rfl rfl ?_);refine zg 2 rfl (AL bG (fun cn co=>?_) (fun cn cp=>?_))
  ·obtain⟨cq,cr,ct⟩:=bs co;refine zg 6 rfl (BZ 0 (Lp bF cr) rfl rfl Kh bE rfl ?_);rintro _ bH _ a7 ⟨cu,cv,rfl,rfl,bI⟩ bJ;obtain⟨O,cw,cy⟩:=bs ct;refine JL.done (Br (fun L s=>∃(aY:LH) (a8:An) (a9:Nat) (ba:Seg) (bb:An) (bc:Nat),Jn bH H aY [bX bk #[sV bb O.2.1 bc,iV O.2.2.1,.int .u64 ((O.2.2.2:Nat):Int)] 92,ba] [(0,pV bk 0),(4,pV aZ 0),(9,sV a8 O.1 a9),(10,iV K.2.2.2.2)] L s (OL 27 Bo aY a8 a9 ba O.1∧Al rI aY bb bc O.2.1)) ?_ ?_)
   ·rintro _ _ ⟨aY,a8,a9,ba,bb,bc,rfl,rfl,cz,cA,cB,cC⟩;obtain⟨cD,cE,cF⟩:=bs cy;refine zg 3 rfl (Bc cE rfl rfl rfl ?_);refine zg 2 rfl ?_;obtain rfl:=oi cF;exact Az (cm _ _ (O.2.1,O.2.2.1,O.2.2.2,O.1,cD) ⟨aY,bb,bc,a8,a9,ba,rfl,rfl,((bj.Ab a7).Ab cz),cA,cC,cB⟩ bm) rfl
   ·intro bK;refine BH cw (fun cG cH=>?_) (fun cG cI=>?_)
    ·refine zg 4 rfl (JL.fl 0 (bg.Ah (((am.Ab bC).Ab bj).Ab a7)) underlying24 BQ Cr ?_);refine Bg underlying22 rfl rfl rfl ?_;obtain⟨cJ,cK,cM⟩:=bs cH;refine Cd cK rfl rfl rfl ?_;obtain⟨U,cN,cO⟩:=bs cM;refine BZ 0 (HS bI cN) rfl rfl HF bJ rfl ?_;rintro _ cP _ bL ⟨cQ,cR,rfl,rfl,cT⟩ cV;obtain⟨V,cW,cX⟩:=bs cO;refine IZ 1 (bl.Ah (a7.Ab bL)) cW rfl rfl rfl rfl rfl rfl underlying25 Cc ?_;rintro bn bd f138 _ cY ⟨_,_,rfl,rfl,rfl⟩ cZ bM c0 de df;refine BJ underlying27 AW rfl rfl rfl (JS.store (v:=iV U.1) (off:=bd+1) 1 rfl rfl rfl cV rfl rfl AW (by simp [Value.cells,CI]) cY (by have:=bM;simp only [Rp.n,rK,rN,rB,rP,rL] at this;show _+1≤_;omega) fun bN=>?_);rw [T8 (m:=1) (ws:= [iV V.1,iV V.2]) (vs:= [iV V.1,iV U.1]) (by have:=bM;simp only [Rp.n,rK,rN,rB,rP,rL] at this;show _+2≤_;omega) cZ rfl (Nat.le_of_ble_eq_true rfl)] at bN ⊢;have c1:=c0 ((V.1,U.1)) [iV V.1,iV U.1] ⟨_,_,rfl,rfl,rfl⟩;have bo:(K.2.2.2.1.set (Int.toNat K.2.2.2.2) (V.1,U.1)).length=K.2.2.2.1.length:=List.length_set;refine Gf (L':= [(0,pV bk 0),(4,pV aZ 0),(9,.slice Y ((K.2.2.2.1.set (Int.toNat K.2.2.2.2) (V.1,U.1))).length Z),(10,iV K.2.2.2.2),(22,iV K.2.2.2.2),(23,.slice Y ((K.2.2.2.1.set (Int.toNat K.2.2.2.2) (V.1,U.1))).length Z),(24,iV (K.2.2.2.1.length:Int)),(25,.bool (decide (K.2.2.2.2<(K.2.2.2.1.length:Int)))),(28,pV bk 0),(29,.bool cq.1),(30,.slice Y ((K.2.2.2.1.set (Int.toNat K.2.2.2.2) (V.1,U.1))).length Z),(31,iV K.2.2.2.2),(32,pV bk 0),(33,pV aZ 0),(34,.slice be p1.1.length bf),(35,iV (p1.1.length:Int)),(36,iV cJ),(37,iV U.1),(38,pV bn bd),(39,pV bn (bd+1))]) ⟨rfl,rfl,by rw [bo];rfl,rfl,rfl,by rw [bo];rfl,rfl,rfl,rfl,rfl,by rw [bo];rfl,rfl,rfl,rfl,rfl,rfl,rfl,rfl,rfl,rfl,trivial⟩ ?_;refine JL.done ?_;obtain rfl:=oi cX;exact Az (bK _ _ ⟨cP,Y,Z,[(bn,.cells (A0 f138 bd [iV V.1,iV U.1]) 27 (0,0))],cQ,cR,rfl,rfl,bL,bN,c1,cT⟩) rfl
    ·refine JL.skip ?_;obtain rfl:=oi cI;exact Az (bK _ _ ⟨bH,Y,Z,av,cu,cv,rfl,rfl,Ar,bJ,(bl.Ah a7),bI⟩) rfl
  ·refine JL.exit rfl ?_;obtain rfl:=oi cp;obtain rfl:=ck _ bm;exact Az (ci _ _ ⟨ap,Y,Z,av,a5,a6,rfl,rfl,bj,bE,bl,bF⟩) rfl
def f24(fuel:Nat)(p0:A2)(p1:BV):Option ((List A2)×(BV)):= (f39 fuel p1 7).bind fun K=> some (([p0,K.1,K.1]:List A2),K.2)
theorem ae{Y:An}{c2:Nat}{Z:An}{ag:Nat}{bk:Nat}{ap:An}{av:Nat}{p0:A2}{p1:BV}(bb:Al (rL rI) E Y c2 p0.1)(bc:Al (rL rI) E Z ag p0.2)(bd:Al rI E ap av p1.1){fuel:Nat}{r:(List A2)×(BV)}(aY:f24 fuel p0 p1=some r):AK J 24 [.agg #[sV Y p0.1 c2,sV Z p0.2 ag],pV bk 0] E [(bk,.cells #[sV ap p1.1 av,iV p1.2.1,.int .u64 ((p1.2.2:Nat):Int)] 92 (0,0))] (fun w E' B'=>∃(aZ:An) (a0:Nat) (a1:An) (a2:Nat),w= sV aZ r.1 a0∧B'= [(bk,.cells #[sV a1 r.2.1 a2,iV r.2.2.1,.int .u64 ((r.2.2.2:Nat):Int)] 92 (0,0))]∧Al (rP (rL (rL rI)) (rL (rL rI))) E' aZ a0 r.1∧Al rI E' a1 a2 r.2.1):=by
 refine A3 func24 fun Q bB cs H be bf=>?_;unfold f24 at aY;refine zg 2 rfl (B4 be fun bC bD U bg bh=>?_);obtain⟨K,bi,bj⟩:=bs aY;refine zg 5 rfl (BZ 0 (aL (bd.Ah U) bi) rfl rfl (AS func39 rfl) bh rfl ?_);rintro _ bE _ V ⟨a3,a4,a5,a6,al,am,rfl,rfl,a7,a8,bl⟩ bm;refine CF bm GU fun bn bo=>?_;refine Cq (S':= [[(bk,.cells #[sV al K.2.1 am,iV K.2.2.1,.int .u64 ((K.2.2.2:Nat):Int)] 92 (0,0))],[],[(bn,.cells #[nS,nS] 24 (0,0))]]) rfl bo fun bp=>BR 2 bp BD fun bq=>?_;refine CV 2 bq rfl fun bF O a9 br=>zg 3 rfl (BO (bg.Ah (V.Ab O)) BW BD rfl rfl ?_);refine BO a9 BW BD rfl rfl (BO a9 BW BD rfl rfl ?_);refine Dx (pp:=(rP (rL (rL rI)) (rL (rL rI)))) [.agg #[sV Y p0.1 c2,sV Z p0.2 ag],.agg #[sV a3 K.1.1 a4,sV a5 K.1.2 a6],.agg #[sV a3 K.1.1 a4,sV a5 K.1.2 a6]] [p0,K.1,K.1] rfl rfl rfl underlying33 BD GU (by decide) rfl rfl rfl ⟨⟨_,_,rfl,⟨_,_,rfl,(bb.Ah ((U.Ab V).Ab O))⟩,⟨_,_,rfl,(bc.Ah ((U.Ab V).Ab O))⟩⟩,⟨_,_,rfl,⟨_,_,rfl,(a7.Ah O)⟩,⟨_,_,rfl,(a8.Ah O)⟩⟩,⟨_,_,rfl,⟨_,_,rfl,(a7.Ah O)⟩,⟨_,_,rfl,(a8.Ah O)⟩⟩,trivial⟩ br fun bu bG bv bw=>zg 2 rfl (B7 3 bv bw rfl fun bH ba bx bz=>?_);refine Cq (S':= [[(bk,.cells #[sV al K.2.1 am,iV K.2.2.1,.int .u64 ((K.2.2.2:Nat):Int)] 92 (0,0))],[],[],[]]) rfl bz fun bA=>?_;obtain rfl:=oi bj;exact AA func24 rfl rfl (bf (((U.Ab V).Ab O).Ab ba) rfl ⟨(AZ bu),3,al,am,rfl,rfl,bx,(bl.Ah (O.Ab ba))⟩ bA)
end Pal
namespace Pal
theorem Ck{S A:Type}{body:S→Option (Bi S A)}{Q:A→Prop}{K:S}{F:Nat}(n:Nat)(I:Nat→S→Prop)(V:I 0 K)(Z:n<F)
  (round:∀i s,i<n→I i s→AY (body s) (Bi.sat (I (i+1)) Q)) (last:∀s,I n s→AY (body s) (fun st=>∃a,st= .done a∧Q a)):AY (Pal.iter body F K) Q:=by
 refine Mq (fun m s=>∃i,i≤n∧m=n - i∧I i s) ?_ (m:=n - 0) ⟨0,Nat.zero_le _,rfl,V⟩ (by omega);rintro m s ⟨i,hi,rfl,O⟩;rcases Nat.lt_or_ge i n with Y | ag
 ·refine(round i s Y O).Ah ?_;intro st U;cases st with
  | more s'=>exact⟨n - (i+1),by omega,i+1,by omega,rfl,U⟩
  | done a=>exact U
 ·obtain rfl:i=n:=by omega
  refine(last s O).Ah ?_;rintro st ⟨a,rfl,h⟩;exact h
theorem CW{α:Type}{o:Option α}{a:α}(h:AY o (fun x=>x=a)):o=some a:=by obtain⟨x,K,rfl⟩:=h;exact K
theorem HM(F:Nat)(a lo hi:Int):f101 F a lo hi=some (decide (a<lo∨hi<a)):=by
 unfold f101;by_cases h:a<lo
 ·simp [h]
 ·simp [h]
theorem RE(F:Nat){s n:Nat}(hs:s<65536)(V:n≤16):f103 F s (n:Int)=some (s.testBit n):=by
 unfold f103;have K:LA s (n:Int)=some (s>>>n):=by unfold LA;rw [if_pos (by omega)];rfl
 rw [K];simp only [Option.bind_some];have O:s>>>n<65536:=Nat.lt_of_le_of_lt (Nat.shiftRight_le _ _) hs;have U:J8 (s>>>n) 1=some (s>>>n&&& 1):=if_pos ⟨O,by omega⟩;rw [U];simp only [Option.bind_some];rw [X8]
theorem SO(F:Nat){s n:Nat}(hs:s<65536)(K:n<16):f90 F s (n:Int)=some (s ||| 1<<<n):=by
 unfold f90;have O:Lq (n:Int)=some (1<<<n):=by unfold Lq;rw [if_pos (by omega)];rfl
 rw [O];simp only [Option.bind_some];have U:1<<<n<65536:=by rw [Nat.one_shiftLeft];exact Nat.pow_lt_pow_right (by omega) (show n<16 from K)
 have V:Je s (1<<<n)=some (s ||| 1<<<n):=if_pos ⟨hs,U⟩;rw [V];rfl
theorem Nr{a b:Nat}(K:a<65536)(hb:b<65536):a ||| b<65536:=Nat.or_lt_two_pow (n:=16) K hb
theorem SN{n:Nat}(K:n<16):1<<<n<65536:=by rw [Nat.one_shiftLeft];exact Nat.pow_lt_pow_right (by omega) (show n<16 from K)
def Hz(n:Nat)(l:List Int):Prop:=∀x∈l,0≤x∧x<(n:Int)
def CP(l:List Int):Nat:=l.foldl (fun s x=>s ||| 1<<<x.toNat) 0
theorem Ut(l:List Int)(x:Int):CP (l++ [x])=CP l ||| 1<<<x.toNat:=by simp [CP]
theorem QX{l:List Int}(h:Hz 16 l):CP l<65536:=by
 have key:∀(l:List Int) (s:Nat),s<65536→Hz 16 l→l.foldl (fun s x=>s ||| 1<<<x.toNat) s<65536:=by
  intro l
  induction l with
  | nil=>intro s hs _;exact hs
  | cons x l O=>
   intro s hs K;have V:=K x (by simp);exact O _ (Nr hs (SN (by omega))) fun y U=>K y (by simp [U])
 exact key l 0 (by omega) h
theorem Kp{l:List Int}(h:∀x∈l,0≤x)(n:Nat):(CP l).testBit n=decide ((n:Int)∈l):=by
 have key:∀(l:List Int) (s:Nat),(∀x∈l,0≤x)→(l.foldl (fun s x=>s ||| 1<<<x.toNat) s).testBit n=(s.testBit n || decide ((n:Int)∈l)):=by
  intro l
  induction l with
  | nil=>intro s _;simp
  | cons x l O=>
   intro s K;have V:=K x (by simp);rw [List.foldl_cons,O _ fun y U=>K y (by simp [U]),Nat.testBit_or];have e:(1<<<x.toNat).testBit n=decide ((n:Int)=x):=by
    rw [Nat.one_shiftLeft,Nat.testBit_two_pow];exact decide_eq_decide.2 ⟨fun h=>by omega,fun h=>by omega⟩
   rw [e,Bool.or_assoc];congr 1;simp
 rw [CP,key l 0 h];simp
theorem RB{F:Nat}{l:List Int}(V:100<F)(Y:l.length<100)(h:Hz 16 l):f120 F l=some (CP l):=by
 refine CW ?_;unfold f120;refine AE (S:=fun r=>r=CP l) ?_ (by rintro r rfl;exact Ak rfl);refine Ck l.length (fun i s=>s=(CP (l.take i),(i:Int))) (by simp [CP]) (by omega) ?_ ?_
 ·rintro i s hi rfl;unfold MC;refine Bw (by simp;omega) (Bn (m:=i) rfl hi ?_);have Z:=h l[i] (List.getElem_mem hi);have O:l[i]=((l[i].toNat:Nat):Int):=by omega
  have hs:CP (l.take i)<65536:=QX fun y U=>h y (List.mem_of_mem_take U);have K:=SO F (n:=l[i].toNat) hs (by omega);rw [← O] at K;refine AQ K ?_;refine AT ((i+1:Nat):Int) (by simp) (by omega) (by omega) ?_;refine Ak ?_;show _=_;rw [List.take_add_one,List.getElem?_eq_getElem hi];simp only [Option.toList_some];rw [Ut]
 ·rintro s rfl;unfold MC;exact A8 (by simp) (Ak ⟨_,rfl,by simp⟩)
def Cw(s:Nat)(k:Nat):List Int:=((List.range k).filter (fun n=>s.testBit n)).map (fun(n:Nat)=>(n:Int))
theorem N4(s k:Nat):Cw s (k+1)=if s.testBit k=true then Cw s k++ [(k:Int)] else Cw s k:=by
 unfold Cw;rw [List.range_succ,List.filter_append];by_cases h:s.testBit k=true
 ·rw [if_pos h];simp [h]
 ·rw [if_neg h];simp [h]
theorem Me(s k:Nat):(Cw s k).length≤k:=by
 unfold Cw;rw [List.length_map];exact Nat.le_trans (List.length_filter_le _ _) (by simp)
theorem IK{s k:Nat}{x:Int}:x∈Cw s k↔∃n:Nat,n<k∧s.testBit n=true∧x=(n:Int):=by
 unfold Cw;simp only [List.mem_map,List.mem_filter,List.mem_range];exact⟨fun⟨n,⟨K,O⟩,U⟩=>⟨n,K,O,U.symm⟩,fun⟨n,K,O,U⟩=>⟨n,⟨K,O⟩,U.symm⟩⟩
theorem OU{F s:Nat}(K:100<F)(hs:s<65536):f89 F s=some (Cw s 16):=by
 refine CW ?_;unfold f89;refine AE (S:=fun r=>r=Cw s 16) ?_ (by rintro r rfl;exact Ak rfl);refine Ck 16 (fun i st=>st=(Cw s i,(i:Int))) rfl (by omega) ?_ ?_
 ·rintro i st hi rfl;unfold MR;refine Bw (by simp only;omega) (AQ (RE F hs (by omega)) ?_);have hlen:=Me s i;refine AE (S:=fun r=>r=Cw s (i+1)) ?_ ?_
  ·rw [N4];refine Bl (fun h=>?_) (fun h=>?_)
   ·rw [if_pos h];exact Kq (by simp only;omega) (Ak rfl)
   ·rw [if_neg h];exact Ak rfl
  ·rintro r rfl;exact AT ((i+1:Nat):Int) (by simp) (by omega) (by omega) (Ak rfl)
 ·rintro st rfl;unfold MR;exact A8 (by simp) (Ak ⟨_,rfl,rfl⟩)
end Pal
namespace Pal
abbrev JW:=List (List Int)×List (List Int)
structure VL (n:Nat) (l:List Int):Prop where
 len:l.length≤3
 inr:Hz n l
 IH:l.Pairwise (·<·)
structure VJ (n:Nat) (J:JW):Prop where
 pos:0<n
 le:n≤8
 l1:J.1.length=n
 l2:J.2.length=n
 nx:∀(i:Nat) l,J.1[i]? =some l→VL n l∧0<l.length
 fl:∀(i:Nat) l,J.2[i]? =some l→VL n l∧(i:Int) ∉ l
theorem ZI{l:List Int}(h:l.Pairwise (·<·)){i:Nat}(hi:i<l.length)(K:0<i):¬(l[i]≤l[i - 1]'(by omega)):=by
 have:=List.pairwise_iff_getElem.1 h (i - 1) i (by omega) hi (by omega);omega
theorem Rt{F n:Nat}{J:JW}{m:Nat}{l:List Int}{b:Bool}(O:100<F)(U:J.1.length=n)(V:0<n∧n≤8)(K:VL n l)(hb:b=true∨(m:Int) ∉ l):f136 F J (m:Int) l b=some none:=by
 refine CW ?_;unfold f136;have hlen:=K.len;refine AE (S:=fun q=>q=Sum.inr ()) ?_ (by rintro q rfl;exact Ak rfl);refine Ck l.length (fun i s=>s=(i:Int)) rfl (by omega) ?_ ?_
 ·rintro i s hi rfl;unfold Jx;have Y:=K.inr l[i] (List.getElem_mem hi);refine Bw (by omega) (Bn (m:=i) rfl hi ?_);refine AT ((n - 1:Nat):Int) (by omega) (by omega) (by omega) (AQ (HM F _ _ _) ?_);refine A8 (by simp;omega) (AE (S:=fun c=>c=false) ?_ ?_)
  ·refine Bl (fun h=>?_) (fun h=>Ak rfl);rcases hb with rfl | hb
   ·exact Ak rfl
   ·exact absurd (h▸List.getElem_mem hi) hb
  ·rintro c rfl;refine A8 (by simp) (AE (S:=fun c=>c=false) ?_ ?_)
   ·refine Bl (fun h=>?_) (fun h=>Ak rfl);refine AT ((i - 1:Nat):Int) (by omega) (by omega) (by omega) (Bn (m:=i - 1) rfl (by omega) ?_);exact Ak (decide_eq_false (ZI K.IH hi (by omega)))
   ·rintro c rfl;refine A8 (by simp) (AT ((i+1:Nat):Int) (by simp) (by omega) (by omega) ?_);exact Ak rfl
 ·rintro s rfl;unfold Jx;exact A8 (by omega) (Ak ⟨_,rfl,rfl⟩)
theorem X0{F n:Nat}{J:JW}(U:100<F)(K:VJ n J):f113 F J=some none:=by
 have V:=K.l1;have al:=K.l2;have Y:=K.pos;have Z:=K.le;refine CW ?_;unfold f113;refine A8 (by omega) (A8 (by omega) (A8 (by omega) ?_));refine AE (S:=fun q=>q=Sum.inr ()) ?_ (by rintro q rfl;exact Ak rfl);refine Ck n (fun i s=>s=(i:Int)) rfl (by omega) ?_ ?_
 ·rintro i s hi rfl;unfold Ju;have ag:i<J.1.length:=by omega
  have O:i<J.2.length:=by omega
  obtain⟨v1,v2⟩:=K.nx i _ (List.getElem?_eq_getElem ag);obtain⟨w1,w2⟩:=K.fl i _ (List.getElem?_eq_getElem O);have am:=v1.len;have g2:=w1.len;refine Bw (by omega) (Bn (m:=i) rfl ag ?_);refine A8 (by omega) (A8 (by omega) ?_);refine AQ (Rt U V ⟨Y,Z⟩ v1 (.inl rfl)) (A8 (by simp) ?_);refine Bn (m:=i) rfl O (A8 (by omega) ?_);refine Bn (m:=i) rfl O (AQ (Rt U V ⟨Y,Z⟩ w1 (.inr w2)) ?_);refine A8 (by simp) (AT ((i+1:Nat):Int) (by simp) (by omega) (by omega) ?_);exact Ak rfl
 ·rintro s rfl;unfold Ju;exact A8 (by omega) (Ak ⟨_,rfl,rfl⟩)
theorem P7(F:Nat):Lo F none=some 0:=by
 unfold Lo f112;have h:∃b,f135 F=some b:=by unfold f135;exact⟨_,rfl⟩
 obtain⟨b,hb⟩:=h;rw [hb];cases b <;> rfl
def GH(nx:List (List Int))(s:Nat):Nat:=(Cw s 16).foldl (fun o m=>o ||| CP (nx.getD m.toNat [])) 0
theorem VJ.FN{n:Nat}{J:JW}(K:VJ n J)(m:Nat):VL n (J.1.getD m []):=by
 rw [List.getD_eq_getElem?_getD];cases h:J.1[m]? with
 | none=>exact⟨by simp,fun x O=>by simp at O,by simp⟩
 | some l=>exact(K.nx m l h).1
theorem Hz.Ah{n m:Nat}{l:List Int}(h:Hz n l)(hle:n≤m):Hz m l:=fun x K=>by have:=h x K;omega
theorem Oy{n:Nat}{J:JW}(U:VJ n J)(s k:Nat):(GH J.1 s).testBit k=true↔∃m,m<16∧s.testBit m=true∧(k:Int)∈J.1.getD m []:=by
 have key:∀(l:List Int) (o:Nat),(l.foldl (fun o m=>o ||| CP (J.1.getD m.toNat [])) o).testBit k=true↔o.testBit k=true∨∃m∈l,(k:Int)∈J.1.getD m.toNat []:=by
  intro l
  induction l with
  | nil=>intro o;simp
  | cons x l V=>
   intro o;rw [List.foldl_cons,V,Nat.testBit_or,Bool.or_eq_true,Kp fun y Y=>((U.FN x.toNat).inr y Y).1,decide_eq_true_eq];simp only [List.mem_cons,exists_eq_or_imp,or_assoc]
 unfold GH;rw [key];simp only [Nat.zero_testBit,Bool.false_eq_true,false_or];constructor
 ·rintro⟨x,Z,ag⟩;obtain⟨m,K,O,rfl⟩:=IK.1 Z;exact⟨m,K,O,ag⟩
 ·rintro⟨m,K,O,al⟩;exact⟨(m:Int),IK.2 ⟨m,K,O,rfl⟩,by simpa using al⟩
theorem Ux{n s:Nat}(h:∀k,n≤k→s.testBit k=false):s<2 ^ n:=Nat.lt_pow_two_of_testBit s h
theorem Sn{n:Nat}{J:JW}(K:VJ n J)(s:Nat):GH J.1 s<2 ^ n:=by
 refine Ux fun k U=>?_;cases h:(GH J.1 s).testBit k with
 | false=>rfl
 | true=>
  obtain⟨m,_,_,O⟩:=(Oy K s k).1 h;have:=(K.FN m).inr _ O;omega
theorem Rx{n:Nat}(h:n≤8):2 ^ n≤256:=Nat.pow_le_pow_right (by omega) h
theorem IV{n s k:Nat}(h:s<2 ^ n)(O:s.testBit k=true):k<n:=by
 rcases Nat.lt_or_ge k n with K | K
 ·exact K
 ·rw [Nat.testBit_lt_two_pow (Nat.lt_of_lt_of_le h (Nat.pow_le_pow_right (by omega) K))] at O;cases O
theorem Wz{F n:Nat}{J:JW}{A:List Nat}{s:Nat}(V:100<F)(K:VJ n J)(hs:s<2 ^ n):Lh F (J.1,J.2,A) s=some (GH J.1 s,(J.1,J.2,A)):=by
 have am:=K.l1;have al:=K.le;have ap:=Rx al;refine CW ?_;unfold Lh;refine AQ (OU V (by omega)) ?_;refine AE (S:=fun r=>r=GH J.1 s) ?_ (by rintro r rfl;exact Ak rfl);have hlen:=Me s 16;refine Ck (Cw s 16).length (fun i st=>st=(((Cw s 16).take i).foldl (fun o m=>o ||| CP (J.1.getD m.toNat [])) 0,(i:Int))∧((Cw s 16).take i).foldl (fun o m=>o ||| CP (J.1.getD m.toNat [])) 0<65536) ⟨rfl,by simp⟩ (by omega) ?_ ?_
 ·rintro i st hi ⟨rfl,Y⟩;unfold Mn;obtain⟨m,av,g2,Z⟩:=IK.1 (List.getElem_mem hi);have hm:=IV hs g2;have O:m<J.1.length:=by omega
  have U:=(K.nx m _ (List.getElem?_eq_getElem O)).1;have aY:=U.len;refine Bw (by simp;omega) ?_;refine Bn (m:=i) rfl hi ?_;refine Bn (m:=m) Z O ?_;refine AQ (RB V (show J.1[m].length<100 by omega) (U.inr.Ah (by omega))) ?_;have ag:CP J.1[m]<65536:=QX (U.inr.Ah (by omega));refine AQ (b:=((Cw s 16).take i).foldl (fun o m=>o ||| CP (J.1.getD m.toNat [])) 0 ||| CP J.1[m]) (if_pos ⟨Y,ag⟩) ?_;refine AT ((i+1:Nat):Int) (by simp) (by omega) (by omega) ?_;have e:((Cw s 16).take (i+1)).foldl (fun o m=>o ||| CP (J.1.getD m.toNat [])) 0=((Cw s 16).take i).foldl (fun o m=>o ||| CP (J.1.getD m.toNat [])) 0 ||| CP J.1[m]:=by
   rw [List.take_add_one,List.getElem?_eq_getElem hi,List.foldl_append,Z];simp [List.getD_eq_getElem?_getD,O]
  refine Ak ⟨?_,?_⟩
  ·rw [e]
  ·rw [e];exact Nr Y ag
 ·rintro st ⟨rfl,_⟩;unfold Mn;refine A8 (by simp) (Ak ⟨_,rfl,?_⟩);rw [List.take_length];rfl
def AG(J:JW):Nat→Nat
 | 0=>1
 | a+1=>GH J.1 (AG J a)
theorem Ix{n:Nat}{J:JW}(K:VJ n J):∀a,AG J a<2 ^ n
 | 0=>Nat.one_lt_two_pow (by have:=K.pos;omega)
 | a+1=>Sn K _
def Gp(J:JW):List Nat:=(List.range 13).map (AG J)
def LF(J:JW)(n k:Nat)(A:List Nat):Prop:=A.length=13∧(∀i,i≤k→i<13→A[i]? =some (AG J i))∧∀x∈A,x<2 ^ n
theorem LF.all{J:JW}{n:Nat}{A:List Nat}(h:LF J n 12 A):A=Gp J:=by
 apply List.ext_getElem?;intro i;rcases Nat.lt_or_ge i 13 with hi | hi
 ·rw [h.2.1 i (by omega) hi];simp [Gp,hi]
 ·rw [List.getElem?_eq_none (by rw [h.1];exact hi),List.getElem?_eq_none (by simp [Gp];exact hi)]
theorem Qx{F n:Nat}{J:JW}{A:List Nat}(al:100<F)(Y:VJ n J)(am:A.length=13)(Z:∀x∈A,x<2 ^ n):
  AY (iter (K8 F) F (J.1,J.2,A,A,0)) (fun r=>r.1=J.1∧r.2.1=J.2∧r.2.2.1=A∧r.2.2.2.length=13∧r.2.2.2[0]? =A[0]? ∧(∀i,i<12→∀s,A[i]? =some s→r.2.2.2[i+1]? =some (GH J.1 s))∧∀x∈r.2.2.2,x<2 ^ n):=by
 refine Ck 12 (fun k st=>∃B:List Nat,st=(J.1,J.2,A,B,(k:Int))∧B.length=13∧B[0]? =A[0]? ∧(∀i,i<k→∀s,A[i]? =some s→B[i+1]? =some (GH J.1 s))∧∀x∈B,x<2 ^ n) ⟨A,rfl,am,rfl,fun i hi=>by omega,Z⟩ (by omega) ?_ ?_
 ·rintro k st av ⟨B,rfl,K,O,hs,hb⟩;unfold K8;have U:k<A.length:=by omega
  have ag:k+1<B.length:=by omega
  refine Bw (by simp only;omega) (AT ((k+1:Nat):Int) (by simp) (by omega) (by omega) ?_);refine Bn (m:=k) rfl U (AQ (Wz al Y (Z _ (List.getElem_mem U))) ?_);refine Bn (m:=k+1) rfl ag (AT ((k+1:Nat):Int) (by simp) (by omega) (by omega) ?_);refine Ak ⟨B.set (k+1) (GH J.1 A[k]),rfl,by simpa using K,?_,?_,?_⟩
  ·rw [List.getElem?_set_ne (by omega)];exact O
  ·intro i hi s V;by_cases e:i=k
   ·subst e;rw [List.getElem?_set_self ag];have:A[i]=s:=by rw [List.getElem?_eq_getElem U] at V;exact Option.some.inj V
    rw [this]
   ·rw [List.getElem?_set_ne (by omega)];exact hs i (by omega) s V
  ·intro x ap;rcases List.mem_or_eq_of_mem_set ap with h | h
   ·exact hb x h
   ·subst h;exact Sn Y _
 ·rintro st ⟨B,rfl,K,O,hs,hb⟩;unfold K8;refine A8 (by simp) (Ak ⟨_,rfl,rfl,rfl,rfl,K,O,hs,hb⟩)
theorem ZO{F n:Nat}{J:JW}(av:100<F)(al:VJ n J):f92 F J=some (some (J.1,J.2,Gp J)):=by
 have a5:=al.pos;refine CW ?_;unfold f92;refine Bn (m:=0) rfl (by simp) ?_;refine AE (S:=fun q=>q=Sum.inl (some (J.1,J.2,Gp J))) ?_ (by rintro q rfl;exact Ak rfl);refine Ck 12 (fun k st=>∃A:List Nat,st=(J.1,J.2,A)∧LF J n k A) ?_ (by omega) ?_ ?_
 ·refine⟨_,rfl,by simp,fun i hi _=>?_,fun x aY=>?_⟩
  ·obtain rfl:i=0:=by omega
   rfl
  ·rcases List.mem_or_eq_of_mem_set aY with h | h
   ·simp at h;subst h;exact Nat.two_pow_pos n
   ·subst h;exact Nat.one_lt_two_pow (by omega)
 ·rintro k st a6 ⟨A,rfl,K⟩;unfold Nc;refine AE (Qx av al K.1 K.2.2) ?_;rintro⟨aZ,a0,am,B⟩ ⟨Y,Z,ag,O,g2,U,V⟩;simp only at Y Z ag O g2 U V ⊢;subst Y Z ag;refine Bl (fun h=>?_) (fun h=>?_)
  ·refine Ak ⟨B,rfl,O,fun i hi ap=>?_,V⟩;cases i with
   | zero=>rw [g2];exact K.2.1 0 (by omega) (by omega)
   | succ i=>exact U i (by omega) _ (K.2.1 i (by omega) (by omega))
  ·have e:B=am:=Decidable.byContradiction fun a1=>h a1;subst e;refine Ak ?_;show _=_;have a2:LF J n 12 B:=by
    refine⟨O,fun i hi ap=>?_,V⟩;have:∀i,i<13→B[i]? =some (AG J i):=by
     intro i
     induction i with
     | zero=>intro _;exact K.2.1 0 (by omega) (by omega)
     | succ i a3=>intro h;exact U i (by omega) _ (a3 (by omega))
    exact this i ap
   rw [a2.all]
 ·rintro st ⟨A,rfl,K⟩;unfold Nc;refine AE (Qx av al K.1 K.2.2) ?_;rintro⟨aZ,a0,am,B⟩ ⟨Y,Z,ag,O,g2,U,V⟩;simp only at Y Z ag O g2 U V ⊢;subst Y Z ag;have a4:LF J n 12 B:=by
   refine⟨O,fun i hi ap=>?_,V⟩;cases i with
   | zero=>rw [g2];exact K.2.1 0 (by omega) (by omega)
   | succ i=>exact U i (by omega) _ (K.2.1 i (by omega) (by omega))
  have e:B=am:=by rw [a4.all,K.all]
  refine A8 (by rw [e];simp) (Ak ⟨_,rfl,?_⟩);rw [K.all]
end Pal
namespace Pal
theorem W9(J:JW){a:Nat}(K:a<13):(Gp J)[a]? =some (AG J a):=by simp [Gp,K]
abbrev Ey:=List Int×Int×Nat
def BG(k:Nat)(b:Ey):Prop:=0≤b.2.1∧b.2.1≤(k:Int)
theorem BG.Ah{k k':Nat}{b:Ey}(h:BG k b)(K:k≤k'):BG k' b:=⟨h.1,by have:=h.2;omega⟩
theorem Xa{F k:Nat}{b:Ey}(hb:BG k b)(K:k<1000000):AY (f100 F b) (fun r=>r.1<2 ^ 64∧BG (k+1) r.2):=by
 obtain⟨O,U⟩:=hb;unfold f100;refine AT (b.2.1+1) rfl (by omega) (by omega) ?_;have key:∀x:Nat,(x % 2 ^ 64)>>>11<2 ^ 64:=fun x=>Nat.lt_of_le_of_lt (Nat.shiftRight_le _ _) (Nat.mod_lt _ (Nat.two_pow_pos 64));refine AE (S:=fun _=>True) ?_ ?_
 ·refine Bl (fun h=>?_) (fun h=>?_)
  ·refine AT b.2.1 (by omega) (by omega) (by omega) (Bn (m:=b.2.1.toNat) (by omega) (by omega) ?_);exact Ak trivial
  ·exact Ak trivial
 ·intro x _;exact Ak ⟨key _,by simp only;omega,by simp only;omega⟩
theorem U1{a:Nat}(h:a<2 ^ 62):LG a=(a:Int):=by
 unfold LG;exact IQ (by omega)
theorem HQ{F k:Nat}{b:Ey}{m:Int}(hb:BG k b)(O:k<1000000)(hm:m<1000000):AY (f41 F b m) (fun r=>0≤r.1∧(r.1≤m∨r.1=0)∧BG (k+1) r.2):=by
 unfold f41;refine AE (Xa hb O) ?_;rintro⟨x,Z⟩ ⟨ag,K⟩;refine Bl (fun h=>?_) (fun h=>?_)
 ·exact Ak ⟨by simp,.inr rfl,K⟩
 ·have U:Df m=m.toNat:=by unfold Df;omega
  have V:(Df m+1) % 2 ^ 64=m.toNat+1:=by rw [U];omega
  have Y:x % (m.toNat+1)<m.toNat+1:=Nat.mod_lt _ (by omega);refine AQ (b:=x % (m.toNat+1)) (by rw [V];unfold Nt;rw [if_neg (by omega)]) ?_;refine Ak ?_;simp only;generalize x % (m.toNat+1)=z at Y ⊢;rw [U1 (by omega)];exact⟨by omega,.inl (by omega),K⟩
theorem OT{F k:Nat}{b:Ey}{lo hi:Int}(hb:BG k b)(O:k<1000000)(V:0≤lo)(Y:lo≤hi)(Z:hi<1000):AY (f96 F b lo hi) (fun r=>lo≤r.1∧r.1≤hi∧BG (k+1) r.2):=by
 unfold f96;refine AT (hi - lo) rfl (by omega) (by omega) (AE (HQ hb O (by omega)) ?_);rintro⟨x,ag⟩ ⟨U,g2,K⟩;simp only at U g2 K ⊢;exact AT (lo+x) rfl (by omega) (by omega) (Ak ⟨by simp only;omega,by simp only;omega,K⟩)
theorem Lg{F k:Nat}{b:Ey}{m:Int}(hb:BG k b)(K:k<1000000)(U:1≤m)(V:m<1000):AY (f97 F b m) (fun r=>BG (k+1) r.2):=by
 unfold f97;refine AT (m - 1) rfl (by omega) (by omega) (AE (HQ hb K (by omega)) ?_);rintro⟨x,Y⟩ ⟨Z,g2,O⟩;exact Ak O
theorem M8{F k:Nat}{b:Ey}{l:List Int}(hb:BG k b)(U:k<1000000)(Y:0<l.length)(Z:l.length<1000):AY (f99 F b l) (fun r=>r.1∈l∧BG (k+1) r.2):=by
 unfold f99;refine AT ((l.length - 1:Nat):Int) (by omega) (by omega) (by omega) (AE (HQ hb U (by omega)) ?_);rintro⟨x,ag⟩ ⟨V,g2,K⟩;simp only at V g2 K ⊢;have O:x.toNat<l.length:=by omega
 exact Bn (m:=x.toNat) (by omega) O (Ak ⟨List.getElem_mem O,K⟩)
theorem Xl{F:Nat}{x:Int}(K:100<F):f98 F [] x=some [x]:=by
 obtain⟨F,rfl⟩:∃k,F=k+1:=⟨F - 1,by omega⟩;refine CW ?_;unfold f98;refine AQ (b:=([],false)) ?_ ?_
 ·unfold iter;rfl
 ·refine AQ (b:= [x]) ?_ (Ak rfl)
  rfl
theorem Xp{F:Nat}{a x:Int}(ap:100<F):f98 F [a] x=some (if x<a then [x,a] else if x=a then [a] else [a,x]):=by
 obtain⟨F,rfl⟩:∃k,F=k+2:=⟨F - 2,by omega⟩;refine CW ?_;unfold f98;have U:As 1=some 1:=rfl;have V:ix [a] 0=some a:=rfl;have r0:room ([]:List Int) x=some [x]:=if_pos (by simp);have ag:room ([]:List Int) a=some [a]:=if_pos (by simp);have al:room [x] a=some [x,a]:=if_pos (by simp);have am:room [a] x=some [a,x]:=if_pos (by simp);have step:JR (F+2) [a] x ([],false,0)=some (.more (if x<a then([x,a],true,1) else if x=a then([x],true,1) else([a],false,1))):=by
  unfold JR;rcases Int.lt_trichotomy x a with h | h | h
  ·have Y:x≤a:=by omega
   have Z:a≠x:=by omega
   simp [V,h,Y,Z,r0,al,U]
  ·subst h;simp [V,r0,U]
  ·have Y:¬x≤a:=by omega
   have Z:a≠x:=by omega
   have K:¬x<a:=by omega
   have O:¬x=a:=by omega
   simp [V,Y,Z,K,O,ag,U]
 have last:∀(o:List Int) (b:Bool),JR (F+2) [a] x (o,b,1)=some (.done (o,b)):=by
  intro o b;unfold JR;simp
 rcases Int.lt_trichotomy x a with h | h | h
 ·rw [if_pos h] at step;refine AQ (b:=([x,a],true)) ?_ ?_
  ·unfold iter;rw [step];simp only;unfold iter;rw [last]
  ·rw [if_pos h];exact AQ (b:= [x,a]) (by simp) (Ak rfl)
 ·subst h;rw [if_neg (by omega),if_pos rfl] at step;refine AQ (b:=([x],true)) ?_ ?_
  ·unfold iter;rw [step];simp only;unfold iter;rw [last]
  ·rw [if_neg (show ¬x<x by omega),if_pos (rfl:x=x)];exact AQ (b:= [x]) (by simp) (Ak rfl)
 ·have K:¬x<a:=by omega
  have O:¬x=a:=by omega
  rw [if_neg K,if_neg O] at step;refine AQ (b:=([a],false)) ?_ ?_
  ·unfold iter;rw [step];simp only;unfold iter;rw [last]
  ·rw [if_neg K,if_neg O];exact AQ (b:= [a,x]) (by simp [am]) (Ak rfl)
theorem Ss{F n:Nat}{l:List Int}{x:Int}(O:100<F)(U:Hz n l)(V:l.length≤1)(Y:0≤x∧x<(n:Int)):AY (f98 F l x) (fun r=>VL n r∧0<r.length∧r.length≤l.length+1∧∀y∈r,y=x∨y∈l):=by
 match l,V with
 | [],_=>
  rw [Xl O];exact Ak ⟨⟨by simp,fun y K=>by simp at K;subst K;exact Y,by simp⟩,by simp,by simp,fun y K=>by simpa using K⟩
 | [a],_=>
  rw [Xp O];have Z:=U a (by simp);refine Ak ?_;rcases Int.lt_trichotomy x a with h | h | h
  ·rw [if_pos h];exact⟨⟨by simp,fun y K=>by simp at K;rcases K with rfl | rfl <;> assumption,by simpa using h⟩,by simp,by simp,fun y K=>by simpa using K⟩
  ·rw [if_neg (by omega),if_pos h];exact⟨⟨by simp,fun y K=>by simp at K;subst K;exact Z,by simp⟩,by simp,by simp,fun y K=>by simp at K;subst K;simp⟩
  ·rw [if_neg (by omega),if_neg (by omega)];exact⟨⟨by simp,fun y K=>by simp at K;rcases K with rfl | rfl <;> assumption,by simpa using h⟩,by simp,by simp,fun y K=>by simp at K;rcases K with rfl | rfl <;> simp⟩
 | a::b::l,h=>simp at h
structure PJ (n i:Nat) (N K:List (List Int)):Prop where
 l1:N.length=i
 l2:K.length=i
 nx:∀(q:Nat) l,N[q]? =some l→VL n l∧0<l.length
 fl:∀(q:Nat) l,K[q]? =some l→VL n l∧(q:Int) ∉ l
theorem PJ.snoc{n i:Nat}{N U:List (List Int)}{a b:List Int}(h:PJ n i N U)(V:VL n a∧0<a.length)(hb:VL n b∧(i:Int) ∉ b):PJ n (i+1) (N++ [a]) (U++ [b]):=by
 refine⟨by simp [h.l1],by simp [h.l2],fun q l K=>?_,fun q l K=>?_⟩
 ·rcases Nat.lt_or_ge q N.length with O | O
  ·rw [List.getElem?_append_left O] at K;exact h.nx q l K
  ·rw [List.getElem?_append_right O] at K;have:q - N.length=0:=by
    rcases Nat.eq_zero_or_pos (q - N.length) with e | e
    ·exact e
    ·rw [List.getElem?_eq_none (by simp;omega)] at K;cases K
   rw [this] at K;simp at K;subst K;exact V
 ·rcases Nat.lt_or_ge q U.length with O | O
  ·rw [List.getElem?_append_left O] at K;exact h.fl q l K
  ·rw [List.getElem?_append_right O] at K;have e:q - U.length=0:=by
    rcases Nat.eq_zero_or_pos (q - U.length) with e | e
    ·exact e
    ·rw [List.getElem?_eq_none (by simp;omega)] at K;cases K
   rw [e] at K;simp at K;subst K;have:q=i:=by have:=h.l2;omega
   subst this;exact hb
theorem U5{F n i k:Nat}{al:Int×Ey}{am:(List (List Int))×(List (List Int))×(List Int)×Int×Nat×Int}{b:Ey}{c:Int}(a4:100<F)(ap:al.1=(n:Int))(av:am.2.2.2.2.2=(i:Int))(hi:i<n)(a8:n≤8)(hb:BG k b)(a9:k<1000)(ba:c=0∨c=1∨c=2):
  AY (iter (Nl F al am) F (b.1,b.2.1,b.2.2,[],c)) (fun r=>VL n r.1∧(i:Int) ∉ r.1∧BG (k+10) r.2):=by
 refine Mq (fun m st=>∃(l:List Int) (K:Ey),st=(K.1,K.2.1,K.2.2,l,(m:Int))∧m≤2∧VL n l∧(i:Int) ∉ l∧l.length≤2 - m∧BG (k+10 - 4*m) K) ?_ (m:=c.toNat) ⟨[],b,by simp;omega,by omega,⟨by simp,fun x a5=>by simp at a5,by simp⟩,by simp,by simp,hb.Ah (by omega)⟩ (by omega);rintro m st ⟨l,K,rfl,bb,Y,Z,hlen,aY⟩;unfold Nl;refine AE (S:=fun q=>q=decide (0<m∧1<n)) ?_ ?_
 ·refine Bl (fun h=>?_) (fun h=>?_)
  ·refine Ak ?_;rw [ap];exact decide_eq_decide.2 ⟨fun aZ=>⟨by simp only at h;omega,by omega⟩,fun aZ=>by omega⟩
  ·refine Ak ?_;have:¬0<m:=by simp only at h;omega
   simp [this]
 ·rintro q rfl;refine Bl (fun h=>?_) (fun h=>?_)
  ·have aZ:0<m∧1<n:=of_decide_eq_true h;refine AT ((i:Int) - 1) (by rw [av]) (by omega) (by omega) ?_;refine AE (HQ (F:=F) (b:=(K.1,K.2.1,K.2.2)) (m:=max 0 ((i:Int) - 1)) aY (by omega) (by omega)) ?_;rintro⟨y,bc⟩ ⟨a0,g2,a1⟩;simp only at a0 g2 a1 ⊢;refine AE (Lg (F:=F) a1 (by omega) (by omega) (by omega)) ?_;rintro⟨o,bd⟩ ag;simp only at ag ⊢;refine AE (S:=fun r=>0≤r.1∧r.1<(n:Int)∧BG (k+10 - 4*m+1+1+1) r.2) ?_ ?_
   ·refine Bl (fun _=>?_) (fun _=>?_)
    ·refine AT ((n:Int) - 1) (by rw [ap]) (by omega) (by omega) (AE (HQ (F:=F) ag (by omega) (by omega)) ?_);rintro⟨z,a2⟩ ⟨O,U,V⟩;exact Ak ⟨O,by simp only at O U ⊢;omega,V⟩
    ·exact Ak ⟨a0,by simp only;omega,BG.Ah ag (by omega)⟩
   ·rintro⟨z,a2⟩ ⟨O,U,V⟩;simp only at O U V ⊢;refine AE (S:=fun r=>VL n r∧(i:Int) ∉ r∧r.length≤l.length+1) ?_ ?_
    ·rw [av];refine Bl (fun a6=>?_) (fun _=>?_)
     ·refine AE (Ss (F:=F) a4 Y.inr (by omega) ⟨O,U⟩) ?_;rintro r ⟨v1,v2,a3,v4⟩;refine Ak ⟨v1,fun a7=>?_,a3⟩;rcases v4 _ a7 with e | e
      ·exact a6 e.symm
      ·exact Z e
     ·exact Ak ⟨Y,Z,by omega⟩
    ·rintro r ⟨v1,v2,a3⟩;exact AT ((m - 1:Nat):Int) (by omega) (by omega) (by omega) (Ak ⟨m - 1,by omega,r,a2,rfl,by omega,v1,v2,by omega,V.Ah (by omega)⟩)
  ·exact Ak ⟨Y,Z,aY.Ah (by omega)⟩
theorem Z4{F k mx:Nat}{b:Ey}(aY:100<F)(hb:BG k b)(bd:k<100)(be:1≤mx)(bf:mx≤8):AY (f39 F b (mx:Int)) (fun r=>(∃n,n≤mx∧VJ n r.1)∧BG (k+301) r.2):=by
 unfold f39;refine AE (OT (F:=F) hb (by omega) (by omega) (by omega) (by omega)) ?_;rintro⟨aZ,a8⟩ ⟨n1,n2,a0⟩;simp only at n1 n2 a0;obtain⟨n,rfl⟩:∃n:Nat,aZ=(n:Int):=⟨aZ.toNat,by omega⟩;have bg:1≤n:=by omega
 have a1:n≤8:=by omega
 refine AE (S:=fun r=>PJ n n r.2.2.2.1 r.2.2.2.2∧BG (k+301) (r.1,r.2.1,r.2.2.1)) ?_ ?_
 ·refine Ck n (fun i st=>∃(N O:List (List Int)) (Y:Ey),st=(N,O,Y.1,Y.2.1,Y.2.2,(i:Int))∧PJ n i N O∧BG (k+1+30*i) Y) ⟨[],[],a8,rfl,⟨rfl,rfl,fun q l ag=>by simp at ag,fun q l ag=>by simp at ag⟩,a0⟩ (by omega) ?_ ?_
  ·rintro i st hi ⟨N,O,Z,rfl,K,al⟩;unfold M6;refine Bw (by simp only;omega) (AT ((n:Int) - 1) rfl (by omega) (by omega) ?_);refine AT ((i+1:Nat):Int) (by simp) (by omega) (by omega) (AE (Lg (F:=F) (b:=(Z.1,Z.2.1,Z.2.2)) al (by omega) (by omega) (by omega)) ?_);rintro⟨o,bh⟩ g2;simp only at g2 ⊢;have a2:Hz n [min ((n:Int) - 1) ((i+1:Nat):Int)]:=fun x U=>by simp at U;subst U;omega
   refine AE (S:=fun r=>VL n r.1∧0<r.1.length∧BG (k+1+30*i+2) r.2) ?_ ?_
   ·refine Bl (fun _=>?_) (fun _=>?_)
    ·refine AT ((n:Int) - 1) rfl (by omega) (by omega) (AE (OT (F:=F) g2 (by omega) (by omega) (by omega) (by omega)) ?_);rintro⟨y,a3⟩ ⟨am,ap,V⟩;simp only at am ap V ⊢;refine AE (Ss (F:=F) aY a2 (by simp) ⟨by omega,by omega⟩) ?_;rintro r ⟨v1,v2,bi,v4⟩;exact Ak ⟨v1,v2,V⟩
    ·exact Ak ⟨⟨by simp,a2,by simp⟩,by simp,BG.Ah g2 (by omega)⟩
   ·rintro⟨nx,a3⟩ ⟨w1,w2,w3⟩;simp only at w1 w2 w3 ⊢;refine AE (Lg (F:=F) (b:=a3) w3 (by omega) (by omega) (by omega)) ?_;rintro⟨o2,bj⟩ av;simp only at av ⊢;refine AE (S:=fun r=>VL n r.1∧0<r.1.length∧BG (k+1+30*i+4) r.2) ?_ ?_
    ·refine Bl (fun _=>?_) (fun _=>?_)
     ·refine AT ((n:Int) - 1) rfl (by omega) (by omega) (AE (HQ (F:=F) av (by omega) (by omega)) ?_);rintro⟨y,a4⟩ ⟨am,ap,V⟩;simp only at am ap V ⊢;exact Ak ⟨⟨by simp,fun x U=>by simp at U;subst U;omega,by simp⟩,by simp,V⟩
     ·exact Ak ⟨w1,w2,BG.Ah av (by omega)⟩
    ·rintro⟨a5,a4⟩ ⟨u1,u2,a6⟩;simp only at u1 u2 a6 ⊢;refine AE (M8 (F:=F) (b:=a4) a6 (by omega) (by simp) (by simp)) ?_;rintro⟨c,a9⟩ ⟨a7,c2⟩;simp only at a7 c2 ⊢;have ba:c=0∨c=1∨c=2:=by simp at a7;omega
     refine AE (U5 (F:=F) (b:=a9) aY rfl rfl hi a1 c2 (by omega) ba) ?_;rintro⟨fl,bb⟩ ⟨t1,t2,t3⟩;simp only at t1 t2 t3 ⊢;have bl:=K.l1;have bm:=K.l2;refine AQ (b:=N++ [a5]) (if_pos (by simp;omega)) (AQ (b:=O++ [fl]) (if_pos (by simp;omega)) ?_);exact AT ((i+1:Nat):Int) (by simp) (by omega) (by omega) (Ak ⟨N++ [a5],O++ [fl],bb,rfl,K.snoc ⟨u1,u2⟩ ⟨t1,t2⟩,t3.Ah (by omega)⟩)
  ·rintro st ⟨N,O,Z,rfl,K,al⟩;unfold M6;refine A8 (by simp) (Ak ⟨_,rfl,K,al.Ah (by omega)⟩)
 ·rintro⟨bn,bo,bp,N,O⟩ ⟨K,bc⟩;refine Ak ⟨⟨n,by omega,?_⟩,bc⟩;exact⟨by omega,a1,K.l1,K.l2,K.nx,K.fl⟩
end Pal
namespace Pal
open Go Go.Conc Go.Proofs
open Go.Proofs.Tryz
end Pal
namespace Pal
def H5(J:JW)(n a:Nat)(d:List Bool):Prop:=d.length=n∧∀m,m<n→d[m]? =some ((AG J a).testBit m)
def Py(J:JW)(n a k:Nat)(d:List Bool):Prop:=d.length=n∧∀x:Nat,x<n→(d[x]? =some true↔∃m,m<k∧(AG J a).testBit m=true∧(x:Int)∈J.1.getD m [])
theorem Py.due{n a:Nat}{J:JW}{d:List Bool}(K:VJ n J)(h:Py J n a n d):H5 J n (a+1) d:=by
 refine⟨h.1,fun x U=>?_⟩;have V:x<d.length:=by rw [h.1];exact U
 rw [List.getElem?_eq_getElem V];congr 1;have Y:=h.2 x U;rw [List.getElem?_eq_getElem V,Option.some.injEq] at Y;have Z:=Oy K (AG J a) x;have e:d[x]=true↔(AG J (a+1)).testBit x=true:=by
  rw [Y];show _↔(GH J.1 (AG J a)).testBit x=true;rw [Z];have al:=K.le;constructor
  ·rintro⟨m,ag,g2,O⟩;exact⟨m,by omega,g2,O⟩
  ·rintro⟨m,ag,g2,O⟩;exact⟨m,IV (Ix K a) g2,g2,O⟩
 cases am:d[x] <;> cases ap:(AG J (a+1)).testBit x <;> simp_all
theorem V0{d:List Bool}{q x:Nat}(K:q<d.length):(d.set q true)[x]? =some true↔d[x]? =some true∨x=q:=by
 by_cases e:q=x
 ·subst e;rw [List.getElem?_set_self K];simp
 ·rw [List.getElem?_set_ne e];constructor
  ·exact .inl
  ·rintro(h | h)
   ·exact h
   ·exact absurd h.symm e
end Pal
namespace Pal
open Go Go.Conc Go.Proofs
open Go.Proofs.Tryz
end Pal
namespace Pal
theorem VJ.Px{n:Nat}{J:JW}(K:VJ n J)(m:Nat):VL n (J.2.getD m []):=by
 rw [List.getD_eq_getElem?_getD];cases h:J.2[m]? with
 | none=>exact⟨by simp,fun x O=>by simp at O,by simp⟩
 | some l=>exact(K.fl m l h).1
end Pal
namespace Pal
abbrev Bf:=List (Int×Int)
structure B9 (n:Nat) (lk:Bf):Prop where
 len:lk.length≤8
 yr:∀l∈lk,0≤l.1∧l.1≤6
 sn:∀l∈lk,0≤l.2∧l.2<(n:Int)
 IH:lk.Pairwise (fun a b=>a.1≤b.1)
theorem Xn{F n:Nat}{J:JW}{lk:Bf}(U:100<F)(K:VJ n J)(O:B9 n lk)(V:lk.length≤4):f116 F J lk=some none:=by
 have Y:=K.l1;have Z:=K.pos;have ag:=K.le;refine CW ?_;unfold f116;refine A8 (by omega) ?_;refine AE (S:=fun q=>q=Sum.inr ()) ?_ (by rintro q rfl;exact Ak rfl);refine Ck lk.length (fun i s=>s=(i:Int)) rfl (by omega) ?_ ?_
 ·rintro i s hi rfl;unfold Jy;have hm:=List.getElem_mem hi;have al:=O.yr _ hm;have hs:=O.sn _ hm;refine Bw (by omega) (Bn (m:=i) rfl hi ?_);refine AQ (HM F _ _ _) (A8 (by simp;omega) ?_);refine AE (S:=fun c=>c=false) ?_ ?_
  ·refine Bl (fun h=>?_) (fun h=>Ak rfl);refine AT ((i - 1:Nat):Int) (by omega) (by omega) (by omega) (Bn (m:=i - 1) rfl (by omega) ?_);have:=List.pairwise_iff_getElem.1 O.IH (i - 1) i (by omega) hi (by omega);exact Ak (decide_eq_false (by omega))
  ·rintro c rfl;refine A8 (by simp) (AT ((n - 1:Nat):Int) (by omega) (by omega) (by omega) ?_);refine AQ (HM F _ _ _) (A8 (by simp;omega) ?_);exact AT ((i+1:Nat):Int) (by simp) (by omega) (by omega) (Ak rfl)
 ·rintro s rfl;unfold Jy;exact A8 (by omega) (Ak ⟨_,rfl,rfl⟩)
theorem OY{F n:Nat}{J:JW}{lk:Bf}(K:100<F)(O:VJ n J)(U:B9 n lk)(V:lk.length≤4):f69 F J lk=some 0:=by
 unfold f69;rw [X0 K O];simp only [Option.bind_some,Option.isSome_none,Bool.false_eq_true,if_false];rw [Xn K O U V];simp only [Option.bind_some];rw [P7];rfl
def CO(lk:Bf):Nat:=match lk.getLast? with
 | some l=>l.1.toNat
 | none=>0
theorem Ik{n:Nat}{lk:Bf}(K:B9 n lk):CO lk≤6:=by
 unfold CO;split
 ·rename_i l h;have:=K.yr l (List.mem_of_getLast? h);omega
 ·omega
theorem QQ{F n:Nat}{O:JW}{A:List Nat}{lk:Bf}{age:Int}{ms:List Int}{fl:Nat}(U:B9 n lk):Ll F ((O.1,O.2,A),lk,age,ms,fl)=some ((CO lk:Nat):Int):=by
 have V:=U.len;refine CW ?_;unfold Ll CO;refine Bl (fun h=>?_) (fun h=>?_)
 ·simp only at h;have:lk= []:=List.length_eq_zero_iff.1 (by omega);subst this;exact Ak rfl
 ·simp only at h;have K:lk.length - 1<lk.length:=by omega
  refine AT ((lk.length - 1:Nat):Int) (by simp only;omega) (by omega) (by omega) (Bn (m:=lk.length - 1) rfl K ?_);rw [List.getLast?_eq_getElem?,List.getElem?_eq_getElem K];have:=U.yr _ (List.getElem_mem K);refine Ak ?_;simp only;omega
def Fe(J:JW)(m:Int)(l:Int×Int):Bool:=decide (m=l.2) || decide (l.2∈J.2.getD m.toNat [])
def EI(J:JW)(lk:Bf)(y:Nat)(m:Int):Bool:=lk.all fun l=>decide (l.1≠(y:Int)) || Fe J m l
def BS(lk:Bf)(y:Nat)(m:Int):Nat→Nat
 | 0=>0
 | k+1=>match lk[k]? with
  | some l=>if l.1=(y:Int)∧m≠l.2 then BS lk y m k ||| 1<<<k else BS lk y m k
  | none=>BS lk y m k
theorem MU(lk:Bf)(y:Nat)(m:Int):∀k,k≤16→BS lk y m k<65536
 | 0,_=>by unfold BS;omega
 | k+1,h=>by
  have:=MU lk y m k (by omega)
  unfold BS
  split
  ·split
   ·exact Nr this (SN (by omega))
   ·exact this
  ·exact this
theorem HJ(lk:Bf)(y:Nat)(m:Int)(i:Nat):∀k,(BS lk y m k).testBit i=true↔i<k∧∃l,lk[i]? =some l∧l.1=(y:Int)∧m≠l.2
 | 0=>by simp [BS]
 | k+1=>by
  have ag:=HJ lk y m i k
  have hb:(1<<<k).testBit i=decide (i=k):=by
   rw [Nat.one_shiftLeft,Nat.testBit_two_pow];exact decide_eq_decide.2 ⟨fun h=>h.symm,fun h=>h.symm⟩
  have key:∀P:Prop,(i<k∧P↔i<k+1∧P)∨i=k:=fun P=>by
   by_cases e:i=k
   ·exact .inr e
   ·exact .inl ⟨fun h=>⟨by omega,h.2⟩,fun h=>⟨by omega,h.2⟩⟩
  unfold BS;split
  ·rename_i l U;split
   ·rename_i V;rw [Nat.testBit_or,Bool.or_eq_true,ag,hb,decide_eq_true_iff];constructor
    ·rintro(⟨O,K⟩ | rfl)
     ·exact⟨by omega,K⟩
     ·exact⟨by omega,l,U,V.1,V.2⟩
    ·rintro⟨O,K⟩;by_cases e:i=k
     ·exact .inr e
     ·exact .inl ⟨by omega,K⟩
   ·rename_i V;rw [ag];constructor
    ·rintro⟨O,K⟩;exact⟨by omega,K⟩
    ·rintro⟨O,al,K,Y,Z⟩;by_cases e:i=k
     ·subst e;rw [U] at K;cases K;exact absurd ⟨Y,Z⟩ V
     ·exact⟨by omega,al,K,Y,Z⟩
  ·rename_i U;rw [ag];constructor
   ·rintro⟨O,K⟩;exact⟨by omega,K⟩
   ·rintro⟨O,al,K,Y,Z⟩;by_cases e:i=k
    ·subst e;rw [U] at K;cases K
    ·exact⟨by omega,al,K,Y,Z⟩
theorem W4{F:Nat}{l:List Int}{x:Int}(V:100<F)(Y:l.length<100):AY (f201 F l x) (fun r=>decide (0≤r)=decide (x∈l)):=by
 unfold f201;refine AE (S:=fun q=>match q with | Sum.inl r=>0≤r∧x∈l | Sum.inr _=>x ∉ l) ?_ ?_
 ·refine Ck l.length (fun i s=>s=(i:Int)∧x ∉ l.take i) ⟨rfl,by simp⟩ (by omega) ?_ ?_
  ·rintro i s hi ⟨rfl,K⟩;unfold Mv;refine Bw (by omega) (Bn (m:=i) rfl hi ?_);refine Bl (fun h=>?_) (fun h=>?_)
   ·exact Ak ⟨by omega,by rw [h];exact List.getElem_mem hi⟩
   ·refine AT ((i+1:Nat):Int) (by simp) (by omega) (by omega) (Ak ⟨rfl,?_⟩);rw [List.take_add_one,List.getElem?_eq_getElem hi];simp only [Option.toList_some,List.mem_append,List.mem_singleton];rintro(O | O)
    ·exact K O
    ·exact h O
  ·rintro s ⟨rfl,K⟩;unfold Mv;exact A8 (by omega) (Ak ⟨_,rfl,by simpa using K⟩)
 ·rintro(r | u) U
  ·exact Ak (by rw [decide_eq_true U.1,decide_eq_true U.2])
  ·exact Ak (by rw [decide_eq_false U];rfl)
theorem XG{F:Nat}{l:List Int}{x:Int}(K:100<F)(O:l.length<100):f199 F l x=some (decide (x∈l)):=by
 refine CW ?_;unfold f199;refine AE (W4 K O) ?_;intro r U;exact Ak U
theorem Xe{F n m:Nat}{J:JW}{A:List Nat}{s:Int}(U:100<F)(O:VJ n J)(hm:m<n):f192 F (J.1,J.2,A) (m:Int) s=some (if(m:Int)=s then some ((m:Int),none) else if s∈J.2.getD m [] then some ((m:Int),some s) else none):=by
 have Y:=O.l2;refine CW ?_;unfold f192;refine Bl (fun h=>?_) (fun h=>?_)
 ·rw [if_pos h];exact Ak rfl
 ·rw [if_neg h];have V:J.2[m]? =some (J.2.getD m []):=by rw [List.getD_eq_getElem?_getD,List.getElem?_eq_getElem (by omega)];rfl
  refine AQ (D6 (m:=m) rfl V) (AQ (XG U (by have:=(O.Px m).len;omega)) ?_);refine Bl (fun K=>?_) (fun K=>?_)
  ·rw [if_pos (of_decide_eq_true K)];exact Ak rfl
  ·rw [if_neg (of_decide_eq_false (by simpa using K))];exact Ak rfl
theorem W8{F n m y:Nat}{J:JW}{A:List Nat}{lk:Bf}{age:Int}{ms:List Int}{fl:Nat}(al:100<F)(am:VJ n J)(ap:B9 n lk)(hm:m<n):
  Lr F ((J.1,J.2,A),lk,age,ms,fl) (y:Int) (m:Int)=some (if EI J lk y (m:Int)=true then(BS lk y (m:Int) lk.length,true) else(0,false)):=by
 have a0:=ap.len;refine CW ?_;unfold Lr;refine AE (S:=fun q=>(EI J lk y (m:Int)=true∧q=Sum.inr (BS lk y (m:Int) lk.length))∨(EI J lk y (m:Int)=false∧q=Sum.inl (0,false))) ?_ ?_
 ·refine Ck lk.length (fun i s=>s=(BS lk y (m:Int) i,(i:Int))∧∀l∈lk.take i,(decide (l.1≠(y:Int)) || Fe J (m:Int) l)=true) ⟨rfl,by simp⟩ (by omega) ?_ ?_
  ·rintro i s hi ⟨rfl,K⟩;unfold Mo;have av:=MU lk y (m:Int) i (by omega);have hg:lk[i]? =some lk[i]:=List.getElem?_eq_getElem hi;have step:∀(l:Int×Int),l=lk[i]→(decide (l.1≠(y:Int)) || Fe J (m:Int) l)=true→∀O∈lk.take (i+1),(decide (O.1≠(y:Int)) || Fe J (m:Int) O)=true:=by
    rintro l rfl aY O V;rw [List.take_add_one,hg] at V;simp only [Option.toList_some,List.mem_append,List.mem_singleton] at V;rcases V with h | rfl
    ·exact K O h
    ·exact aY
   have Y:BS lk y (m:Int) (i+1)=if lk[i].1=(y:Int)∧(m:Int)≠lk[i].2 then BS lk y (m:Int) i ||| 1<<<i else BS lk y (m:Int) i:=by
    rw [BS,hg]
   refine Bw (by simp only;omega) (AE (S:=fun q=>(q=Sum.inr (BS lk y (m:Int) (i+1))∧(decide (lk[i].1≠(y:Int)) || Fe J (m:Int) lk[i])=true)∨(q=Sum.inl (0,false)∧(decide (lk[i].1≠(y:Int)) || Fe J (m:Int) lk[i])=false)) ?_ ?_)
   ·refine Bn (m:=i) rfl hi (Bl (fun h=>?_) (fun h=>?_))
    ·refine Ak (.inl ⟨?_,by rw [decide_eq_true h];rfl⟩);rw [Y,if_neg (fun Z=>h Z.1)]
    ·have aZ:lk[i].1=(y:Int):=by simpa using h
     refine AQ (Xe al am hm) ?_;by_cases e:(m:Int)=lk[i].2
     ·rw [if_pos e];refine AE (S:=fun q=>q=Sum.inr (BS lk y (m:Int) i)) (Bw rfl (Ak rfl)) ?_;rintro q rfl;refine Ak (.inl ⟨?_,by unfold Fe;rw [decide_eq_true e];simp⟩);rw [Y,if_neg (fun Z=>Z.2 e)]
     ·rw [if_neg e];by_cases U:lk[i].2∈J.2.getD m []
      ·rw [if_pos U];refine AE (S:=fun q=>q=Sum.inr (BS lk y (m:Int) i ||| 1<<<i)) ?_ ?_
       ·refine A8 (by simp [J7]) (Bw rfl ?_);refine AQ (SO F av (by omega)) (Ak rfl)
       ·rintro q rfl;refine Ak (.inl ⟨?_,by unfold Fe;rw [show((m:Int)).toNat=m by omega,decide_eq_true U];simp⟩);rw [Y,if_pos ⟨aZ,e⟩]
      ·rw [if_neg U];refine AE (S:=fun q=>q=Sum.inl (0,false)) ?_ ?_
       ·exact A8 (by simp [J7]) (A8 (by simp [LD]) (Ak rfl))
       ·rintro q rfl;refine Ak (.inr ⟨rfl,?_⟩);unfold Fe;rw [show((m:Int)).toNat=m by omega,decide_eq_false U,decide_eq_false e,decide_eq_false h];rfl
   ·rintro q (⟨rfl,ag⟩ | ⟨rfl,ag⟩)
    ·rw [Sum.elim_inr];exact AT ((i+1:Nat):Int) (by simp) (by omega) (by omega) (Ak ⟨rfl,step _ rfl ag⟩)
    ·rw [Sum.elim_inl];refine Ak (.inr ⟨?_,rfl⟩);unfold EI;rw [List.all_eq_false];exact⟨lk[i],List.getElem_mem hi,by rw [ag];simp⟩
  ·rintro s ⟨rfl,K⟩;unfold Mo;refine A8 (by simp only;omega) (Ak ⟨_,rfl,.inl ⟨?_,rfl⟩⟩);rw [List.take_length] at K;unfold EI;exact List.all_eq_true.2 K
 ·rintro q (⟨h,rfl⟩ | ⟨h,rfl⟩)
  ·rw [Sum.elim_inr,if_pos h];exact Ak rfl
  ·rw [Sum.elim_inl,if_neg (by rw [h];simp)];exact Ak rfl
theorem WU{F n m:Nat}{J:JW}{A:List Nat}{lk:Bf}{age:Int}{ms:List Int}{fl:Nat}(O:100<F)(U:VJ n J)(K:B9 n lk)(hm:m<n)(Z:ms.length<100)(V:fl<65536):
  Lx F (J.1,J.2,A) lk age ms fl (m:Int)=some (if EI J lk ms.length (m:Int)=true then some (ms++ [(m:Int)],fl ||| BS lk ms.length (m:Int) lk.length) else none):=by
 refine CW ?_;unfold Lx;refine AQ (W8 O U K hm) ?_;have Y:=MU lk ms.length (m:Int) lk.length (by have:=K.len;omega);by_cases h:EI J lk ms.length (m:Int)=true
 ·rw [if_pos h,if_pos h];refine A8 (by simp) (AQ (b:=ms) ?_ ?_)
  ·unfold f175 Lm;have:Dd ([]:List Int) ms=some ms:=by unfold Dd;rw [if_pos (by simp;omega)];rfl
   rw [this];rfl
  ·refine AQ (b:=ms++ [(m:Int)]) ?_ ?_
   ·unfold Dd;rw [if_pos (by simp;omega)]
   ·exact AQ (if_pos ⟨V,Y⟩) (Ak rfl)
 ·rw [if_neg h,if_neg h];exact Bw rfl (Ak rfl)
end Pal
namespace Pal
def D2(J:JW)(lk:Bf):Nat→Nat→List Int→Nat→List (List Int×Nat)
 | 0,_,ms,fl=> [(ms,fl)]
 | k+1,sm,ms,fl=>(Cw sm 16).flatMap fun m=>if EI J lk ms.length m=true then D2 J lk k (CP (J.1.getD m.toNat [])) (ms++ [m]) (fl ||| BS lk ms.length m lk.length) else []
theorem Mg(s:Nat):(Cw s 16).length≤16:=Me s 16
theorem Kk{α β:Type}{f:α→List β}{b:Nat}:∀{l:List α},(∀x∈l,(f x).length≤b)→(l.flatMap f).length≤l.length*b
 | [],_=>by simp
 | x::l,h=>by
  have O:=h x (by simp)
  have U:=Kk (l:=l) (fun y K=>h y (by simp [K]))
  simp only [List.flatMap_cons,List.length_append,List.length_cons,Nat.succ_mul]
  omega
theorem ML(J:JW)(lk:Bf):∀k sm ms fl,(D2 J lk k sm ms fl).length≤16 ^ k
 | 0,_,_,_=>by simp [D2]
 | k+1,sm,ms,fl=>by
  unfold D2
  refine Nat.le_trans (Kk (b:=16 ^ k) fun m _=>?_) ?_
  ·split
   ·exact ML J lk k _ _ _
   ·simp
  ·rw [Nat.pow_succ,Nat.mul_comm];exact Nat.mul_le_mul_left _ (Mg sm)
theorem WA{k:Nat}(h:k≤7):16 ^ k≤268435456:=Nat.le_trans (Nat.pow_le_pow_right (by omega) h) (by decide)
theorem QE{α β:Type}{step:List β→α→Option (List β)}{f:α→List β}:∀{l:List α} {ac:List β},(∀(l1 l2:List α) x,l=l1++x::l2→step (ac++l1.flatMap f) x=some (ac++(l1++ [x]).flatMap f))→Ft step l ac=some (ac++l.flatMap f)
 | [],ac,_=>by simp [Ft]
 | x::l,ac,h=>by
  have K:=h [] l x rfl
  simp only [List.flatMap_nil,List.append_nil,List.nil_append] at K
  unfold Ft
  rw [K]
  simp only [Option.bind_some]
  rw [QE (f:=f) (ac:=ac++ [x].flatMap f) (l:=l) ?_]
  ·simp
  ·intro l1 l2 y O;have:=h (x::l1) l2 y (by rw [O];rfl);simp only [List.flatMap_cons,List.flatMap_nil,List.append_nil,List.cons_append,List.append_assoc] at this ⊢;simpa using this
theorem T6{α β:Type}{step:List β→α→Option (List β)}{f:α→List β}{l:List α}{ac:List β}(h:∀(l1 l2:List α) x,l=l1++x::l2→step (ac++l1.flatMap f) x=some (ac++l1.flatMap f++f x)):Ft step l ac=some (ac++l.flatMap f):=
 QE fun l1 l2 x e=>by rw [h l1 l2 x e];simp
theorem ZG{F n:Nat}{J:JW}{A:List Nat}{lk:Bf}{age:Int}{ok:List (List Int×Nat)→Bool}(Z:100<F)(O:VJ n J)(U:B9 n lk)(a5:∀l:List (List Int×Nat),l.length≤16 ^ 7→(∀x∈l,x.2<65536)→ok l=true):
  ∀(k g sm:Nat) (ms:List Int) (fl:Nat) (ac:List (List Int×Nat)),ms.length+k=CO lk+1→k<g→sm<2 ^ n→fl<65536→ac.length+16 ^ k≤16 ^ 7→(∀x∈ac,x.2<65536)→
   IE ok F (J.1,J.2,A) lk age g sm ms fl ac=some (ac++D2 J lk k sm ms fl)∧∀x∈D2 J lk k sm ms fl,x.2<65536:=by
 have bh:=Ik U;have a6:=O.le;have bi:=Rx a6;intro k
 induction k with
 | zero=>
  intro g sm ms fl ac a7 hg av V hlen ag;obtain⟨g,rfl⟩:∃g',g=g'+1:=⟨g - 1,by omega⟩;refine⟨?_,fun x K=>by simp [D2] at K;subst K;exact V⟩;unfold IE;have al:I9 F (J.1,J.2,A) lk age ms fl sm=some none:=by
   unfold I9;rw [QQ U];simp only [Option.bind_some];rw [if_pos (by omega)]
  rw [al];simp only [Option.bind_some,J5];rw [if_pos]
  ·rfl
  ·refine a5 _ (by simpa using hlen) fun x K=>?_;rcases List.mem_append.1 K with K | K
   ·exact ag x K
   ·simp at K;subst K;exact V
 | succ k aY=>
  intro g sm ms fl ac a7 hg av V hlen ag;obtain⟨g,rfl⟩:∃g',g=g'+1:=⟨g - 1,by omega⟩;have bj:ms.length≤6:=by omega
  have bl:=Mg sm;have aZ:∀m∈Cw sm 16,∃q:Nat,m=(q:Int)∧q<n:=fun m hm=>by
   obtain⟨q,_,q2,a8⟩:=IK.1 hm;exact⟨q,a8,IV av q2⟩
  have a0:∀m:Int,fl ||| BS lk ms.length m lk.length<65536:=fun m=>Nr V (MU _ _ _ _ (by have:=U.len;omega))
  have a1:∀q:Nat,q<n→CP (J.1.getD q [])<2 ^ n:=fun q Y=>by
   rcases Nat.lt_or_ge (CP (J.1.getD q [])) (2 ^ n) with h | h
   ·exact h
   ·obtain⟨i,bm,a2⟩:=Nat.exists_ge_and_testBit_of_ge_two_pow h;rw [Kp (fun x K=>((O.FN q).inr x K).1)] at a2;have:=(O.FN q).inr _ (of_decide_eq_true a2);omega
  have a3:∀m∈Cw sm 16,EI J lk ms.length m=true→∀x∈D2 J lk k (CP (J.1.getD m.toNat [])) (ms++ [m]) (fl ||| BS lk ms.length m lk.length),x.2<65536:=fun m hm hb=>by
   obtain⟨q,rfl,Y⟩:=aZ m hm;have a9:16 ^ k≤16 ^ 7:=Nat.pow_le_pow_right (by omega) (by omega);exact(aY (k+1) _ _ _ [] (by simp;omega) (by omega) (a1 q Y) (a0 _) (by simpa using a9) (fun x K=>by simp at K)).2
  constructor
  ·unfold IE;have al:I9 F (J.1,J.2,A) lk age ms fl sm=some (some (Cw sm 16)):=by
    unfold I9;rw [QQ U];simp only [Option.bind_some];rw [if_neg (by omega),OU Z (by omega)];rfl
   rw [al];simp only [Option.bind_some,J5];rw [if_pos (by omega)];have e:D2 J lk (k+1) sm ms fl=(Cw sm 16).flatMap fun m=>if EI J lk ms.length m=true then D2 J lk k (CP (J.1.getD m.toNat [])) (ms++ [m]) (fl ||| BS lk ms.length m lk.length) else []:=rfl
   rw [e];refine T6 fun l1 l2 m hm=>?_;have ba:m∈Cw sm 16:=by rw [hm];simp
   obtain⟨q,rfl,Y⟩:=aZ m ba;unfold Po;rw [WU Z O U Y (by omega) V];simp only [Option.bind_some];by_cases hb:EI J lk ms.length (q:Int)=true
   ·rw [if_pos hb,if_pos hb];simp only;have bb:Ls F (J.1,J.2,A) lk age (ms++ [(q:Int)]) (fl ||| BS lk ms.length (q:Int) lk.length) (q:Int)=some (CP (J.1.getD q [])):=by
     unfold Ls;have bc:J.1[q]? =some (J.1.getD q []):=by rw [List.getD_eq_getElem?_getD,List.getElem?_eq_getElem (by have:=O.l1;omega)];rfl
     have a4:=O.FN q;rw [D6 (m:=q) rfl bc];simp only [Option.bind_some];rw [RB Z (by have:=a4.len;omega) (fun x K=>by have:=a4.inr x K;omega)];rfl
    rw [bb];simp only [Option.bind_some];have bd:l1.length+1≤16:=by
     have:=congrArg List.length hm;simp at this;omega
    have bn:(l1.flatMap fun m=>if EI J lk ms.length m=true then D2 J lk k (CP (J.1.getD m.toNat [])) (ms++ [m]) (fl ||| BS lk ms.length m lk.length) else []).length≤l1.length*16 ^ k:=Kk fun y _=>by
     split
     ·exact ML _ _ _ _ _ _
     ·simp
    have hmul:l1.length*16 ^ k+16 ^ k≤16 ^ (k+1):=by
     rw [Nat.pow_succ,← Nat.succ_mul,Nat.mul_comm _ 16];exact Nat.mul_le_mul_right _ bd
    have:=aY g (CP (J.1.getD q [])) (ms++ [(q:Int)]) (fl ||| BS lk ms.length (q:Int) lk.length) (ac++l1.flatMap fun m=>if EI J lk ms.length m=true then D2 J lk k (CP (J.1.getD m.toNat [])) (ms++ [m]) (fl ||| BS lk ms.length m lk.length) else []) (by simp;omega) (by omega) (a1 q Y) (a0 _) (by rw [List.length_append];omega) ?_
    ·rw [this.1,show((q:Int)).toNat=q by omega]
    ·intro x K;rcases List.mem_append.1 K with K | K
     ·exact ag x K
     ·obtain⟨y,be,am⟩:=List.mem_flatMap.1 K;have bf:y∈Cw sm 16:=by rw [hm];simp [be]
      split at am
      ·rename_i bg;exact a3 y bf bg x am
      ·simp at am
   ·rw [if_neg hb,if_neg hb];simp
  ·intro x K;unfold D2 at K;obtain⟨m,hm,ap⟩:=List.mem_flatMap.1 K;split at ap
   ·rename_i hb;exact a3 m hm hb x ap
   ·simp at ap
end Pal
