/- ToothCheat answers true for every list of numbers, on every schedule; without a condition beyond those of the given row and card. Part 4 of 8. -/
import Derived.Test.YtboibffcmhheiaaGreatDoorChb
import Derived.Test.YtboibffcmhheiaaGreatDoorChc
import Derived.Conc.WgGenN3
import Derived.Sort.AssemblyPlain
import Derived.Sort.Walk13a
set_option linter.all false
set_option maxRecDepth 100000
namespace Pal
open Go Go.Conc Go.Proofs
open Go.Proofs.Tryz
open Go.Conc.Lib Go.ConcR.Gen
theorem Kp{J:Judge Tryz.prog}{E:LH}{A:Nat}{age:Int}:Au J 129 [.pointer (some ⟨A,0,none⟩),iV age] E [] (fun w E' B'=>∃Z aa,w= .func (.func 152) #[] [.pointer (some ⟨Z,0,none⟩),.pointer (some ⟨aa,0,none⟩)].toArray∧B'= []∧At E' Z 0 [iV age]∧At E' aa 0 [.pointer (some ⟨A,0,none⟩)]):=by
 refine Au.en func129 rfl rfl fun Q an cs H ac ae=>?_;refine JL.go 2 rfl ?_;refine JS.box (v:= .pointer (some ⟨A,0,none⟩)) rfl rfl rfl ac rfl fun K ag=>?_;refine JS.Bi 1 ag rfl fun ah ai O aj=>?_;replace O:At ah K 0 [.pointer (some ⟨A,0,none⟩)]:=O;refine JS.box (v:=iV age) rfl rfl rfl aj rfl fun U ak=>?_;refine JS.Bi 2 ak rfl fun al ab W am=>?_;replace W:At al U 0 [iV age]:=W;refine JL.go 4 rfl ?_;refine JL.Y (v:= .func (.func 152) #[] ([.pointer (some ⟨U,0,none⟩),.pointer (some ⟨K,0,none⟩)]:List Value).toArray) rfl (fun ρ h=>Yl.FT (by simp) (by simp [h (.tmp 3) _ rfl,h (.tmp 2) _ rfl])) ?_;refine JL.go 2 rfl ?_;refine JL.rt func129 rfl rfl ?_;exact ae _ _ _ _ (ai.trans ab) rfl ⟨U,K,rfl,by simp,W,(O.mono ab)⟩ am
def EW(fuel:Nat)(A:(List (List Int))×(List (List Int))×(List Nat))(K:List (Int×Int))(age:Int):Option (Int×List (Int×(List Int)×Nat)):=
 (GC fuel A K age).bind fun s=>(Ho (fun ac=>(FU fuel age ac).isSome) fuel A K age fuel s [] 0 []).bind fun tr=>FU fuel age tr
theorem OS{L:WgLink}(aA:WgLib Tryz.prog L)(a5:L.done=128){F:Fam}{j:Nat}{E:LH}{k1 O:Nat}{a6 a7 U:Option Addr}{a8 a9 W:Nat}{ba:List Value}{aj:(List (List Int))×(List (List Int))×(List Nat)}{K:List (Int×Int)}{age:Int}(bb:At E k1 O (([.slice a6 (aj.1).length a8,.slice a7 (aj.2.1).length a9]:List Value)++ba))(bc:Ar (rL rI) E a6 a8 (aj.1))(bd:Ar (rL rI) E a7 a9 (aj.2.1))(bf:(rA 13 (rN .u16)).r E ba (aj.2.2))(bg:Ar (rP rI rI) E U W K){aB aC aD ol ka ak kc ae:Nat}(bk:At E aB aC [.pointer (some ⟨k1,O,none⟩)])(bl:At E aD ol [.slice U K.length W])(aG:At E ka ak [iV age])(bh:At E kc ae [.chan (some F.ch)])
  {fuel:Nat} {q:Int×List (Int×(List Int)×Nat)} (aE:EW fuel aj K age=some q) (aF:F.has j=decide (0<q.2.length)) (bi:∀E' a c,Le E E'→Ar (rP rI (rP (rL rI) (rN .u16))) E' a c q.2→F.msg j (.agg #[iV age,iV q.1,.slice a q.2.length c]) E'):
  Way Tryz.prog false (Stop Tryz.prog F (F.start j)) (born Tryz.prog ⟨.fn (.func 127) [.pointer (some F.sA),.pointer (some ⟨aB,aC,none⟩),.pointer (some ⟨aD,ol,none⟩),.pointer (some ⟨ka,ak,none⟩),.pointer (some ⟨kc,ae,none⟩)].toArray,#[]⟩) ⟨E,fun _=>none,false⟩:=by
 refine K1 (fn:=Tryz.f127) (vs:= [.pointer (some F.sA),.pointer (some ⟨aB,aC,none⟩),.pointer (some ⟨aD,ol,none⟩),.pointer (some ⟨ka,ak,none⟩),.pointer (some ⟨kc,ae,none⟩)]) func127 rfl rfl (by simp) (Nat.le_of_ble_eq_true rfl) ?_;obtain⟨H,bm⟩:∃H:LH,H=fun _=>none:=⟨_,rfl⟩;rw [← bm];have bj:Az E H []:=trivial;refine(?_:JL (AZ Tryz.prog false) (Stop Tryz.prog F (F.start j)) (baseD 127) Tryz.f127.ntmps (Ds 0 [.pointer (some F.sA),.pointer (some ⟨aB,aC,none⟩),.pointer (some ⟨aD,ol,none⟩),.pointer (some ⟨ka,ak,none⟩),.pointer (some ⟨kc,ae,none⟩)]) [] [.code _] [EV Tryz.prog] (Ap E H []));refine JL.go 2 rfl ?_;refine JL.defer (vs:= [.pointer (some F.sA)]) rfl rfl rfl rfl rfl ?_;refine JL.go 2 rfl ?_;refine JG.CQ 8 mixed rfl (by decide+kernel) fun ht=>?_;refine JG.ld 0 ht 0 bk (Ao underlying94) rfl rfl rfl rfl ?_;refine JG.ld 1 ht 0 bl (Ao underlying25) rfl rfl rfl rfl ?_;refine JG.V (v:= .agg #[.pointer (some ⟨k1,O,none⟩),.slice U (K).length W,iV 0,.slice none 0 0,.int .u16 ((0:Nat):Int)]) 2 ht rfl rfl (fun ρ h s' hs=>Yl.B4 [(0,1),(1,1),(2,3)] h (AN type175) underlying175 ⟨rfl,Ah type94,rfl,Ah type25,rfl,Ah type104,trivial⟩ rfl rfl) ?_;refine JG.ld 4 ht 0 aG (Ao underlying3) rfl rfl rfl rfl ?_;refine JG.V (v:= .agg #[iV age,iV 0,.slice none 0 0]) 5 ht rfl rfl (fun ρ h s' hs=>Yl.B4 [(0,1),(1,2)] h (AN type133) underlying133 ⟨rfl,Ah type3,rfl,Ah type97,trivial⟩ rfl rfl) ?_;refine JG.two (i:=3) (j:=6) rfl (by decide+kernel) ?_ ?_
 ·refine Take.M6 (v:= .agg #[.pointer (some ⟨k1,O,none⟩),.slice U (K).length W,iV 0,.slice none 0 0,.int .u16 ((0:Nat):Int)]) bj rfl rfl rfl rfl fun al an=>?_;refine JG.one (i:=6) rfl (by decide+kernel) ?_;refine Take.MC an rfl rfl rfl (AN type133) fun ag ao=>?_;refine JG.mv 7 ht rfl rfl ?_;refine Av.leaf (tail:= [8]) (by decide+kernel) (fun t=>A3 (by decide+kernel) BE t) ?_;refine JS.norm (S':= [[(al,.cells #[.pointer (some ⟨k1,O,none⟩),.slice U (K).length W,iV 0,.slice none 0 0,.int .u16 ((0:Nat):Int)] 175 (0,0))],[(ag,.cells #[iV 0,iV 0,.slice none 0 0] 133 (0,0))]]) rfl ao fun ap=>?_;refine JS.st (v:= .agg #[iV age,iV 0,.slice none 0 0]) (off:=0) 1 ap (Ah type133) rfl rfl rfl rfl fun ab=>?_;refine JL.go 3 rfl ?_;refine JS.norm (S':= [[(al,.cells #[.pointer (some ⟨k1,O,none⟩),.slice U K.length W,iV 0,.slice none 0 0,.int .u16 ((0:Nat):Int)] 175 (0,0))],[(ag,.cells #[iV age,iV 0,.slice none 0 0] 133 (0,0))]]) rfl ab fun aH=>?_;refine JL.wk [(3,.pointer (some ⟨ka,ak,none⟩)),(4,.pointer (some ⟨kc,ae,none⟩)),(5,.pointer (some ⟨al,0,none⟩)),(6,.pointer (some ⟨ag,0,none⟩))] rfl ?_;have aq:Le E E:=(Le.refl _);refine JL.go 2 rfl ?_;refine JL.ld 0 (aG.mono aq) (Ao underlying3) rfl rfl rfl ?_;refine JS.cl Kp rfl rfl (Ay func129 rfl) aH ?_;rintro _ bn _ aI ⟨ar,au,rfl,rfl,aJ,aK⟩ an;have Z:=aq.trans aI;refine JL.go 2 rfl ?_;refine JS.split (S':= [[(al,.cells #[.pointer (some ⟨k1,O,none⟩),.slice U K.length W,iV 0,.slice none 0 0,.int .u16 ((0:Nat):Int)] 175 (0,0))],[(ag,.cells #[iV age,iV 0,.slice none 0 0] 133 (0,0))]]) (by simp) an fun aL=>?_;refine JL.rangeFunc (caps:= [.pointer (some ⟨ar,0,none⟩),.pointer (some ⟨au,0,none⟩)]) rfl (by intro e;cases e) rfl (Ay func152 rfl) aL fun aa l T av aM=>?_;refine I4 (S':= [[(al,.cells #[.pointer (some ⟨k1,O,none⟩),.slice U K.length W,iV 0,.slice none 0 0,.int .u16 ((0:Nat):Int)] 175 (0,0))]++([(l,.loop ⟨.ready,none,127,T,#[17],Fv,Fw,aa⟩)]++ [(ag,.cells #[iV age,iV 0,.slice none 0 0] 133 (0,0))]),[(aa,.deferred (some []))]]) Mc aM fun ao=>?_;unfold EW at aE;obtain⟨bo,aN,aO⟩:=Option.bind_eq_some_iff.1 aE;obtain⟨tr,aP,aQ⟩:=Option.bind_eq_some_iff.1 aO;refine Lf (vs:= [.func (.yield l) #[] #[],.pointer (some ⟨ar,0,none⟩),.pointer (some ⟨au,0,none⟩)]) 0 (KM (I:=IP fuel age l ag aa T) (ok:=fun ac=>(FU fuel age ac).isSome) (acc:= []) IP.mono (bb.mono Z) (bc.mono Z) (bd.mono Z) (Rp.mono _ Z bf) (bg.mono Z) aK aJ ⟨(0,[]),none,0,[],rfl,rfl,OL.nil⟩ (fun E' aR ac bp bq a c hle aS aT aU=>Ls (av.sub ⟨rfl,trivial⟩) aS aT aU) aN aP) ao rfl ?_;rintro _ br _ aV ⟨aW,mv,aX,aR,rfl,rfl,A,a,c,g,aY,rfl,aZ⟩ a0;obtain rfl:A=q:=Option.some.inj (aY.symm.trans aQ);refine Lo (S':= [[(al,.cells #[.pointer (some ⟨k1,O,none⟩),.slice U K.length W,aW,mv,aX] 175 (0,0))],[(l,.loop ⟨.ready,none,127,T,#[17],Fv,Fw,aa⟩)],[(ag,.cells #[iV age,iV A.1,.slice a A.2.length c] 133 (0,0))],g,[(aa,.deferred (some []))]]) (by simp) a0 fun ap=>?_;refine Ka 1 ap rfl rfl rfl fun ab=>?_;refine(?_:JL (AZ Tryz.prog false) (Stop Tryz.prog F (F.start j)) (baseD 127) Tryz.f127.ntmps [(4,.pointer (some ⟨kc,ae,none⟩)),(6,.pointer (some ⟨ag,0,none⟩))] [⟨.collected aa,#[]⟩,dcall 128 #[.pointer (some F.sA)]] _ [EV Tryz.prog] _) T (av.sub ⟨rfl,rfl,trivial⟩);have aw:=Z.trans aV;have a1:dcall 128 #[.pointer (some F.sA)]=dcall L.done #[.pointer (some F.sA)]:=by rw [a5]
  rw [a1];refine JL.go 3 rfl ?_;refine JL.fd underlying133 (Ah type97) rfl rfl rfl ?_;refine JL.fd underlying97 (Ah type95) rfl rfl rfl ?_;refine JL.Y (v:= .slice a A.2.length c) rfl (fun ρ h=>Yl.load (Ao underlying95) (h _ _ rfl) (Ci (j:=2) (off:=2) ab rfl rfl)) ?_;refine JL.Y rfl (fun ρ h=>Yl.len rfl underlying95 (h _ _ rfl)) ?_;refine JL.go 2 rfl ?_;refine JL.ifs (p:=0<((A.2).length:Int)) rfl (fun a2=>?_) (fun a2=>?_)
  ·have ai:F.start j= .Bu j:=by unfold Fam.start;rw [aF,decide_eq_true (show 0<A.2.length by omega)];rfl
   rw [ai];refine JL.region ?_;refine JL.ld 0 (bh.mono aw) (Ao underlying162) rfl rfl rfl ?_;refine JS.BA 3 aZ ab rfl fun bu a3 a4 ay=>?_;refine JL.Y rfl (fun ρ h=>Yl.Bh (vs:= [iV age,iV A.1,.slice a A.2.length c]) (Ao underlying133) (Ah type133) (h _ _ rfl) (DM (off:=0) 2 ay rfl rfl)) ?_;refine JL.MU rfl rfl rfl rfl rfl rfl rfl (bi _ _ _ (aw.trans a3) a4) ?_;refine JL.done ?_;exact JL.out rfl (JO.collected 4 rfl ay rfl fun az=>JO.Ik aA rfl rfl (JO.leaveD rfl func127 rfl (.inr rfl) GI))
  ·have ai:F.start j= .BL:=by unfold Fam.start;rw [aF,decide_eq_false (show ¬0<A.2.length by omega)];rfl
   rw [ai];refine JL.skip ?_;exact JL.out rfl (JO.collected 4 rfl ab rfl fun az=>JO.Ik aA rfl rfl (JO.leaveD rfl func127 rfl (.inr rfl) GI))
 ·refine Take.MC bj rfl rfl rfl (AN type133) fun ah az=>?_;refine JG.one (i:=3) rfl (by decide+kernel) ?_;refine Take.M6 (v:= .agg #[.pointer (some ⟨k1,O,none⟩),.slice U (K).length W,iV 0,.slice none 0 0,.int .u16 ((0:Nat):Int)]) az rfl rfl rfl rfl fun am bv=>?_;refine JG.mv 7 ht rfl rfl ?_;refine Av.leaf (tail:= [8]) (by decide+kernel) (fun t=>A3 (by decide+kernel) BE t) ?_;refine JS.norm (S':= [[(ah,.cells #[iV 0,iV 0,.slice none 0 0] 133 (0,0))],[(am,.cells #[.pointer (some ⟨k1,O,none⟩),.slice U (K).length W,iV 0,.slice none 0 0,.int .u16 ((0:Nat):Int)] 175 (0,0))]]) rfl bv fun bw=>?_;refine JS.st (v:= .agg #[iV age,iV 0,.slice none 0 0]) (off:=0) 0 bw (Ah type133) rfl rfl rfl rfl fun bx=>?_;refine JL.go 3 rfl ?_;refine JS.perm (S':= [[(am,.cells #[.pointer (some ⟨k1,O,none⟩),.slice U K.length W,iV 0,.slice none 0 0,.int .u16 ((0:Nat):Int)] 175 (0,0))],[(ah,.cells #[iV age,iV 0,.slice none 0 0] 133 (0,0))]]) (List.Perm.swap _ _ _) bx fun aH=>?_;refine JL.wk [(3,.pointer (some ⟨ka,ak,none⟩)),(4,.pointer (some ⟨kc,ae,none⟩)),(5,.pointer (some ⟨am,0,none⟩)),(6,.pointer (some ⟨ah,0,none⟩))] rfl ?_;have aq:Le E E:=(Le.refl _);refine JL.go 2 rfl ?_;refine JL.ld 0 (aG.mono aq) (Ao underlying3) rfl rfl rfl ?_;refine JS.cl Kp rfl rfl (Ay func129 rfl) aH ?_;rintro _ bn _ aI ⟨ar,au,rfl,rfl,aJ,aK⟩ an;have Z:=aq.trans aI;refine JL.go 2 rfl ?_;refine JS.split (S':= [[(am,.cells #[.pointer (some ⟨k1,O,none⟩),.slice U K.length W,iV 0,.slice none 0 0,.int .u16 ((0:Nat):Int)] 175 (0,0))],[(ah,.cells #[iV age,iV 0,.slice none 0 0] 133 (0,0))]]) (by simp) an fun aL=>?_;refine JL.rangeFunc (caps:= [.pointer (some ⟨ar,0,none⟩),.pointer (some ⟨au,0,none⟩)]) rfl (by intro e;cases e) rfl (Ay func152 rfl) aL fun aa l T av aM=>?_;refine I4 (S':= [[(am,.cells #[.pointer (some ⟨k1,O,none⟩),.slice U K.length W,iV 0,.slice none 0 0,.int .u16 ((0:Nat):Int)] 175 (0,0))]++([(l,.loop ⟨.ready,none,127,T,#[17],Fv,Fw,aa⟩)]++ [(ah,.cells #[iV age,iV 0,.slice none 0 0] 133 (0,0))]),[(aa,.deferred (some []))]]) Mc aM fun ao=>?_;unfold EW at aE;obtain⟨bo,aN,aO⟩:=Option.bind_eq_some_iff.1 aE;obtain⟨tr,aP,aQ⟩:=Option.bind_eq_some_iff.1 aO;refine Lf (vs:= [.func (.yield l) #[] #[],.pointer (some ⟨ar,0,none⟩),.pointer (some ⟨au,0,none⟩)]) 0 (KM (I:=IP fuel age l ah aa T) (ok:=fun ac=>(FU fuel age ac).isSome) (acc:= []) IP.mono (bb.mono Z) (bc.mono Z) (bd.mono Z) (Rp.mono _ Z bf) (bg.mono Z) aK aJ ⟨(0,[]),none,0,[],rfl,rfl,OL.nil⟩ (fun E' aR ac bp bq a c hle aS aT aU=>Ls (av.sub ⟨rfl,trivial⟩) aS aT aU) aN aP) ao rfl ?_;rintro _ br _ aV ⟨aW,mv,aX,aR,rfl,rfl,A,a,c,g,aY,rfl,aZ⟩ a0;obtain rfl:A=q:=Option.some.inj (aY.symm.trans aQ);refine Lo (S':= [[(am,.cells #[.pointer (some ⟨k1,O,none⟩),.slice U K.length W,aW,mv,aX] 175 (0,0))],[(l,.loop ⟨.ready,none,127,T,#[17],Fv,Fw,aa⟩)],[(ah,.cells #[iV age,iV A.1,.slice a A.2.length c] 133 (0,0))],g,[(aa,.deferred (some []))]]) (by simp) a0 fun ap=>?_;refine Ka 1 ap rfl rfl rfl fun ab=>?_;refine(?_:JL (AZ Tryz.prog false) (Stop Tryz.prog F (F.start j)) (baseD 127) Tryz.f127.ntmps [(4,.pointer (some ⟨kc,ae,none⟩)),(6,.pointer (some ⟨ah,0,none⟩))] [⟨.collected aa,#[]⟩,dcall 128 #[.pointer (some F.sA)]] _ [EV Tryz.prog] _) T (av.sub ⟨rfl,rfl,trivial⟩);have aw:=Z.trans aV;have a1:dcall 128 #[.pointer (some F.sA)]=dcall L.done #[.pointer (some F.sA)]:=by rw [a5]
  rw [a1];refine JL.go 3 rfl ?_;refine JL.fd underlying133 (Ah type97) rfl rfl rfl ?_;refine JL.fd underlying97 (Ah type95) rfl rfl rfl ?_;refine JL.Y (v:= .slice a A.2.length c) rfl (fun ρ h=>Yl.load (Ao underlying95) (h _ _ rfl) (Ci (j:=2) (off:=2) ab rfl rfl)) ?_;refine JL.Y rfl (fun ρ h=>Yl.len rfl underlying95 (h _ _ rfl)) ?_;refine JL.go 2 rfl ?_;refine JL.ifs (p:=0<((A.2).length:Int)) rfl (fun a2=>?_) (fun a2=>?_)
  ·have ai:F.start j= .Bu j:=by unfold Fam.start;rw [aF,decide_eq_true (show 0<A.2.length by omega)];rfl
   rw [ai];refine JL.region ?_;refine JL.ld 0 (bh.mono aw) (Ao underlying162) rfl rfl rfl ?_;refine JS.BA 3 aZ ab rfl fun bu a3 a4 ay=>?_;refine JL.Y rfl (fun ρ h=>Yl.Bh (vs:= [iV age,iV A.1,.slice a A.2.length c]) (Ao underlying133) (Ah type133) (h _ _ rfl) (DM (off:=0) 2 ay rfl rfl)) ?_;refine JL.MU rfl rfl rfl rfl rfl rfl rfl (bi _ _ _ (aw.trans a3) a4) ?_;refine JL.done ?_;exact JL.out rfl (JO.collected 4 rfl ay rfl fun az=>JO.Ik aA rfl rfl (JO.leaveD rfl func127 rfl (.inr rfl) GI))
  ·have ai:F.start j= .BL:=by unfold Fam.start;rw [aF,decide_eq_false (show ¬0<A.2.length by omega)];rfl
   rw [ai];refine JL.skip ?_;exact JL.out rfl (JO.collected 4 rfl ab rfl fun az=>JO.Ik aA rfl rfl (JO.leaveD rfl func127 rfl (.inr rfl) GI))
end Pal
namespace Go.Proofs
abbrev Tryz.link:Go.Conc.Lib.WgLink:={add:=126,done:=128,wait:=132,relMerge:=139,disable:=140,enable:=141,inBubble:=142,associate:=143,fatal:=144,uOr:=145,uAdd:=146,raceRead:=147,uLoad:=148,uStore:=149,disassociate:=150,semrelease:=151,acquire:=157,isAssociated:=158,uCas:=159,raceWrite:=160,semacquire:=161,orU64:=170,addU64:=171,loadU64:=172,storeU64:=173,casU64:=177,tWgP:=189,tUP:=191,tAssoc:=192,tWg:=171,tAU:=168,tU64:=90,tUint:=156,tU32:=169,tPU32:=196,tPAU:=221,tPU64:=223,tNoCopy:=164,tANoCopy:=165,tAlign64:=166}
theorem Tryz.JC:Go.Conc.Lib.WgLib Tryz.prog Tryz.link:=
 ⟨Tryz.func126,Tryz.func128,Tryz.func132,Tryz.func139,Tryz.func140,Tryz.func141,Tryz.func142,Tryz.func143,Tryz.func144,Tryz.func145,Tryz.func146,Tryz.func147,Tryz.func148,Tryz.func149,Tryz.func150,Tryz.func151,Tryz.func157,Tryz.func158,Tryz.func159,Tryz.func160,Tryz.func161,Tryz.func170,Tryz.func171,Tryz.func172,Tryz.func173,Tryz.func177,Tryz.underlying189,Tryz.runUnderlying189,Tryz.sizeOf189,Tryz.isAgg189,Tryz.zeroValue189,Tryz.underlying191,Tryz.runUnderlying191,Tryz.sizeOf191,Tryz.isAgg191,Tryz.zeroValue191,Tryz.underlying192,Tryz.runUnderlying192,Tryz.sizeOf192,Tryz.isAgg192,Tryz.zeroValue192,Tryz.underlying171,Tryz.runUnderlying171,Tryz.sizeOf171,Tryz.isAgg171,Tryz.zeroValue171,Tryz.underlying168,Tryz.runUnderlying168,Tryz.sizeOf168,Tryz.isAgg168,Tryz.zeroValue168,Tryz.underlying90,Tryz.runUnderlying90,Tryz.sizeOf90,Tryz.isAgg90,Tryz.zeroValue90,Tryz.underlying156,Tryz.runUnderlying156,Tryz.sizeOf156,Tryz.isAgg156,Tryz.zeroValue156,Tryz.underlying169,Tryz.runUnderlying169,Tryz.sizeOf169,Tryz.isAgg169,Tryz.zeroValue169,Tryz.underlying196,Tryz.runUnderlying196,Tryz.sizeOf196,Tryz.isAgg196,Tryz.zeroValue196,Tryz.underlying221,Tryz.runUnderlying221,Tryz.sizeOf221,Tryz.isAgg221,Tryz.zeroValue221,Tryz.underlying223,Tryz.runUnderlying223,Tryz.sizeOf223,Tryz.isAgg223,Tryz.zeroValue223,Tryz.underlying0,Tryz.runUnderlying0,Tryz.sizeOf0,Tryz.isAgg0,Tryz.zeroValue0,Tryz.underlying3,Tryz.runUnderlying3,Tryz.sizeOf3,Tryz.isAgg3,Tryz.zeroValue3,Tryz.underlying4,Tryz.runUnderlying4,Tryz.sizeOf4,Tryz.isAgg4,Tryz.zeroValue4,Tryz.underlying9,Tryz.runUnderlying9,Tryz.sizeOf9,Tryz.isAgg9,Tryz.zeroValue9,Tryz.underlying20,Tryz.runUnderlying20,Tryz.sizeOf20,Tryz.isAgg20,Tryz.zeroValue20,Tryz.underlying21,Tryz.runUnderlying21,Tryz.sizeOf21,Tryz.isAgg21,Tryz.zeroValue21,(by decide+kernel),(by decide+kernel)⟩
end Go.Proofs
namespace Pal
open Go Go.Conc Go.Proofs Go.Conc.Lib Go.ConcR.Gen
theorem OZ{F:Fam}(K:F.n<2147483648){E:LH}{kc A:Nat}(O:At E kc A [.chan (some F.ch)]):Way Tryz.prog false (Stop Tryz.prog F .BN) (born Tryz.prog ⟨.fn (.func 131) [.pointer (some F.sA),.pointer (some ⟨kc,A,none⟩)].toArray,#[]⟩) ⟨E,fun _=>none,false⟩:=by
 refine K1 (fn:=Tryz.f131) (vs:= [.pointer (some F.sA),.pointer (some ⟨kc,A,none⟩)]) Tryz.func131 rfl rfl (by simp) (Nat.le_of_ble_eq_true rfl) ?_;obtain⟨H,U⟩:∃H:LH,H=fun _=>none:=⟨_,rfl⟩;rw [← U];refine(?_:JL (AZ Tryz.prog false) (Stop Tryz.prog F .BN) (baseD 131) Tryz.f131.ntmps (Ds 0 [.pointer (some F.sA),.pointer (some ⟨kc,A,none⟩)]) [] [.code _] [EV Tryz.prog] (Ap E H []));refine JL.go 2 rfl ?_;refine JL.wait Tryz.JC K rfl rfl rfl rfl rfl ?_;refine JL.go 2 rfl ?_;refine JL.ld 0 O (Ao Tryz.underlying162) rfl rfl rfl ?_;refine JL.QI rfl rfl rfl rfl rfl rfl rfl ?_;refine JL.done ?_;exact JL.out rfl (JO.leaveD rfl Tryz.func131 rfl (.inr rfl) GI)
end Pal
namespace Pal
open Go Go.Conc Go.Proofs
open Go.Proofs.Tryz
open Go.Conc.Lib Go.ConcR.Gen
noncomputable def FV:Code:=match Tryz.f102.body with | some (.seq _ (.seq _ (.seq _ (.seq (.seq _ (.block _ (.loop c))) _))))=>c | _=> .skip
theorem NT{F:Fam}(aN:F.n=13){E:LH}{k1 ah:Nat}{ai aj ak:Option Addr}{al am an:Nat}{ao:List Value}{K:(List (List Int))×(List (List Int))×(List Nat)}{ab:List (Int×Int)}(ar:At E k1 ah (([.slice ai (K.1).length al,.slice aj (K.2.1).length am]:List Value)++ao))(au:Ar (rL rI) E ai al (K.1))(av:Ar (rL rI) E aj am (K.2.1))(aw:(rA 13 (rN .u16)).r E ao (K.2.2))(ay:Ar (rP rI rI) E ak an ab){U W Z ol kc aa:Nat}(az:At E U W [.pointer (some ⟨k1,ah,none⟩)])(aA:At E Z ol [.slice ak ab.length an])(aB:At E kc aa [.chan (some F.ch)]){fuel:Nat}{qs:Nat→Int×List (Int×(List Int)×Nat)}(aC:∀j,j<13→EW fuel K ab ((j:Nat):Int)=some (qs j))(aD:∀j,j<13→F.has j=decide (0<(qs j).2.length))(aE:∀j,j<13→∀E' a c,Ar (rP rI (rP (rL rI) (rN .u16))) E' a c (qs j).2→F.msg j (.agg #[iV ((j:Nat):Int),iV (qs j).1,.slice a (qs j).2.length c]) E'){j:Nat}(ac:j<13){ae H:LH}(hle:Le E ae)(aF:Az ae H []){k:List Item}{cs:List Frame}
  (h:∀O,Le E O→Az O H []→JL (AZ Tryz.prog true) (Stop Tryz.prog F (F.Cc j)) (base 102) Tryz.f102.ntmps [(2,.pointer (some ⟨U,W,none⟩)),(3,.pointer (some ⟨Z,ol,none⟩)),(5,.pointer (some ⟨kc,aa,none⟩)),(6,.pointer (some F.sA)),(11,iV ((j+1:Nat):Int))] [] (.inLoop FV::k) cs (Ap O H [])):
  JL (AZ Tryz.prog true) (Stop Tryz.prog F (.C4 j)) (base 102) Tryz.f102.ntmps [(2,.pointer (some ⟨U,W,none⟩)),(3,.pointer (some ⟨Z,ol,none⟩)),(5,.pointer (some ⟨kc,aa,none⟩)),(6,.pointer (some F.sA)),(11,iV ((j:Nat):Int))] [] (.code FV:: .inLoop FV::k) cs (Ap ae H []):=by
 refine JL.go 5 rfl ?_;rw [decide_eq_true (show((j:Nat):Int)<13 by omega)];refine JL.go 7 rfl ?_;refine JS.alloc rfl rfl rfl aF (AN type3) fun ap aG=>?_;refine JS.st (v:=iV ((j:Nat):Int)) (off:=0) 0 aG (Ah type3) rfl rfl rfl rfl fun aH=>?_;refine JS.Bi 0 aH rfl fun O aI ag aJ=>?_;replace ag:At O ap 0 [iV ((j:Nat):Int)]:=ag;refine JS.split (S':= []) (by simp) aJ fun aK=>?_;have A:=hle.trans aI;refine JL.go 3 rfl ?_;refine JL.addPos Tryz.JC rfl rfl rfl rfl rfl rfl ?_;refine JL.go 2 rfl ?_;refine JL.Y (v:= .func (.func 127) #[] ([.pointer (some F.sA),.pointer (some ⟨U,W,none⟩),.pointer (some ⟨Z,ol,none⟩),.pointer (some ⟨ap,0,none⟩),.pointer (some ⟨kc,aa,none⟩)]:List Value).toArray) rfl (fun ρ h=>Yl.FT (by simp) (by simp [h (.tmp 6) _ rfl,h (.tmp 2) _ rfl,h (.tmp 3) _ rfl,h (.tmp 7) _ rfl,h (.tmp 5) _ rfl])) ?_;have aq:=OS Tryz.JC rfl (F:=F) (j:=j) (ar.mono A) (au.mono A) (av.mono A) (Rp.mono _ A aw) (ay.mono A) (az.mono A) (aA.mono A) ag (aB.mono A) (aC j ac) (aD j ac) (fun E' a c _ aL=>aE j ac E' a c aL);refine JL.Sl (fi:= #[]) rfl rfl rfl rfl rfl rfl rfl (by first | exact aq | (simp only [List.append_toArray,List.nil_append,Array.append_empty,Array.empty_append];exact aq)) ?_
 refine JL.go 3 rfl ?_;have aM:Aw (((j:Nat):Int)+1)=some (((j+1:Nat)):Int):=by unfold Aw;rw [if_pos (by omega)];simp
 refine JL.Y rfl (fun ρ h=>Yl.A1 (h _ _ rfl) (h _ _ rfl) aM) ?_;refine JL.go 2 rfl ?_;exact JL.kw (h O A aK) rfl
theorem Ou{F:Fam}(U:F.n=13){E:LH}{k1 ae:Nat}{ag ah ai:Option Addr}{aj ak al:Nat}{am:List Value}{A:(List (List Int))×(List (List Int))×(List Nat)}{W:List (Int×Int)}(ap:At E k1 ae (([.slice ag (A.1).length aj,.slice ah (A.2.1).length ak]:List Value)++am))(aq:Ar (rL rI) E ag aj (A.1))(ar:Ar (rL rI) E ah ak (A.2.1))(au:(rA 13 (rN .u16)).r E am (A.2.2))(av:Ar (rP rI rI) E ai al W){Z aa ab ol kc ac:Nat}(aw:At E Z aa [.pointer (some ⟨k1,ae,none⟩)])(ay:At E ab ol [.slice ai W.length al])(az:At E kc ac [.chan (some F.ch)]){fuel:Nat}{qs:Nat→Int×List (Int×(List Int)×Nat)}(aA:∀j,j<13→EW fuel A W ((j:Nat):Int)=some (qs j))(aB:∀j,j<13→F.has j=decide (0<(qs j).2.length))(aC:∀j,j<13→∀E' a c,Ar (rP rI (rP (rL rI) (rN .u16))) E' a c (qs j).2→F.msg j (.agg #[iV ((j:Nat):Int),iV (qs j).1,.slice a (qs j).2.length c]) E'){H:LH}{k:List Item}{cs:List Frame}
  (h:∀K,Le E K→Az K H []→JL (AZ Tryz.prog true) (Stop Tryz.prog F .Dg) (base 102) Tryz.f102.ntmps [(2,.pointer (some ⟨Z,aa,none⟩)),(3,.pointer (some ⟨ab,ol,none⟩)),(5,.pointer (some ⟨kc,ac,none⟩)),(6,.pointer (some F.sA)),(11,iV 13)] [] (.code FV:: .inLoop FV::k) cs (Ap K H [])):
  ∀(m j:Nat),j+m=13→0<m→∀O,Le E O→Az O H []→JL (AZ Tryz.prog true) (Stop Tryz.prog F (.C4 j)) (base 102) Tryz.f102.ntmps [(2,.pointer (some ⟨Z,aa,none⟩)),(3,.pointer (some ⟨ab,ol,none⟩)),(5,.pointer (some ⟨kc,ac,none⟩)),(6,.pointer (some F.sA)),(11,iV ((j:Nat):Int))] [] (.code FV:: .inLoop FV::k) cs (Ap O H []):=by
 intro m
 induction m with
 | zero=>intro j _ aD;cases aD
 | succ m aE=>
  intro j aH _ O hle aF;refine NT U ap aq ar au av aw ay az aA aB aC (by omega) hle aF fun K an ao=>?_;refine JL.again ?_;by_cases hm:m=0
  ·subst hm;have aG:j=12:=by omega
   subst aG;have e:F.Cc 12= .Dg:=by unfold Fam.Cc;rw [U];rfl
   rw [e];exact h K an ao
  ·have e:F.Cc j= .C4 (j+1):=by unfold Fam.Cc;rw [U,if_neg (by omega)]
   rw [e];exact aE (j+1) (by omega) (by omega) K an ao
end Pal
namespace Pal
open Go Go.Conc Go.Proofs
open Go.Proofs.Tryz
open Go.Conc.Lib Go.ConcR.Gen
noncomputable def MZ:Code:=match Tryz.f102.body with | some (.seq _ (.seq _ (.seq _ (.seq _ (.seq _ (.seq _ (.seq (.seq _ (.block _ (.loop c))) _)))))))=>c | _=> .skip
def partOf(qs:Nat→Int×List (Int×(List Int)×Nat))(k:Nat):(Int×Int×List (Int×(List Int)×Nat)):=(((k:Nat):Int),(qs k).1,(qs k).2)
theorem Rc{A:List Nat}{kk n:Nat}(K:kk<n)(O:kk ∉ A):((List.range n).filter (fun x=> !(A++ [kk]).contains x)).length<((List.range n).filter (fun x=> !A.contains x)).length:=by
 have e:(List.range n).filter (fun x=> !(A++ [kk]).contains x)=((List.range n).filter (fun x=> !A.contains x)).filter (fun x=>x != kk):=by
  rw [List.filter_filter];apply List.filter_congr;intro x _;by_cases U:x∈A <;> by_cases W:x=kk <;> simp [U,W]
 rw [e];apply List.length_filter_lt_length_iff_exists.2;exact⟨kk,by simp [K,O],by simp⟩
theorem On{F:Fam}(ab:F.n=13){Q:GP}(ar:∀g s,(Ce Tryz.prog).ok Q g s→F.fin g s){qs:Nat→Int×List (Int×(List Int)×Nat)}(au:∀kk v E',F.msg kk v E'→∃a c,v= .agg #[iV ((kk:Nat):Int),iV (qs kk).1,.slice a (qs kk).2.length c]∧Ar (rP rI (rP (rL rI) (rN .u16))) E' a c (qs kk).2)
  {E H:LH} {k:List Item} {cs:List Frame}
  (av:∀(A:List Nat) (U:LH) (a:Option Addr) (c:Nat) (g:Seg),Le E U→A.Nodup→(∀x∈A,x<13∧F.has x=true)→(∀x,x<13→F.has x=true→x∈A)→OL 133 (rP rI (rP rI (rL (rP rI (rP (rL rI) (rN .u16)))))) U a c g (A.map (partOf qs))→Az U H [g]→JL (Ce Tryz.prog) Q (base 102) Tryz.f102.ntmps [(8,.slice a (A.map (partOf qs)).length c)] [] k cs (Ap U H [g])):
  ∀(m:Nat) (A:List Nat) (vs:List Value) (O:LH) (a:Option Addr) (c:Nat) (g:Seg),((List.range 13).filter (fun x=> !A.contains x)).length=m→A.Nodup→(∀x∈A,x<13∧F.has x=true)→A.length+m≤13→Le E O→OL 133 (rP rI (rP rI (rL (rP rI (rP (rL rI) (rN .u16)))))) O a c g (A.map (partOf qs))→Az O H [g]→
   JL (AZ Tryz.prog true) (Stop Tryz.prog F (.Bq A vs)) (base 102) Tryz.f102.ntmps [(8,.slice a (A.map (partOf qs)).length c),(18,.chan (some F.ch))] [] (.code MZ:: .inLoop MZ:: .inBlock 2::k) cs (Ap O H [g]):=by
 intro m
 induction m using Nat.strongRecOn with
 | _ m aw=>
  intro A vs O a c g hm ac ae hlen hle ag ah;refine JL.go 2 rfl ?_;refine JL.RQ rfl rfl rfl rfl rfl rfl underlying162 (AN type133) ?_ ?_
  ·intro kk v E' W ay ai aj az aA;rw [ab] at W;obtain⟨ak,al,rfl,aB⟩:=au kk v E' aA;have aC:Az E' H [g]:=ah.up az;refine(?_:JL (AZ Tryz.prog true) (Stop Tryz.prog F (.Bq (A++ [kk]) (vs++ [_]))) (base 102) Tryz.f102.ntmps _ [] _ cs (Ap E' H [g]));refine JL.go 9 rfl ?_;refine JS.alloc rfl rfl rfl aC (AN type133) fun aD aE=>?_;refine JS.st (v:= .agg #[iV ((kk:Nat):Int),iV (qs kk).1,.slice ak (qs kk).2.length al]) (off:=0) 1 aE (Ah type133) rfl rfl rfl rfl fun aF=>?_;refine JS.Bi 1 aF rfl fun am Z aa aG=>?_;replace aa:At am aD 0 [iV ((kk:Nat):Int),iV (qs kk).1,.slice ak (qs kk).2.length al]:=aa;refine JS.split (S':= [g]) (by simp) aG fun aH=>?_;refine JL.go 3 rfl ?_;refine JL.Bt aa (Ao underlying133) (Ah type133) rfl rfl ?_;have aI:(A.map (partOf qs)).length+1≤2 ^ 40:=by rw [List.length_map];omega
   refine JS.HR (pp:=(rP rI (rP rI (rL (rP rI (rP (rL rI) (rN .u16))))))) (xv:=partOf qs kk) 0 rfl rfl rfl rfl (fun w=>rfl) rfl (fun w=>rfl) rfl rfl rfl underlying130 underlying130 underlying130 (Ah type133) (Cp type133) (AN type133) rfl (by decide) (by decide) (by decide) (by decide) aI (ag.mono (aj.trans Z)) ⟨_,_,rfl,rfl,⟨_,_,rfl,rfl,⟨_,_,rfl,aB.mono Z⟩⟩⟩ aH rfl fun w an ao g' ap aJ=>?_;have em:A.map (partOf qs)++ [partOf qs kk]=(A++ [kk]).map (partOf qs):=by simp
   rw [em] at ap;refine JL.y (v:= .slice an ((A++ [kk]).map (partOf qs)).length ao) rfl rfl rfl (fun ρ h=>by rw [← em];exact Yl.assign (h _ _ rfl)) ?_;refine JL.go 2 rfl ?_;refine JL.again ?_;have aK:((List.range 13).filter (fun x=> !(A++ [kk]).contains x)).length<m:=by rw [← hm];exact Rc W ai
   exact JL.kw (aw _ aK (A++ [kk]) (vs++ [_]) am an ao g' rfl (by rw [List.nodup_append];exact⟨ac,by simp,by intro x K y aq;simp at aq;subst aq;intro e;exact ai (e▸K)⟩) (by intro x K;simp at K;rcases K with K | rfl;exact ae x K;exact⟨W,ay⟩) (by simp only [List.length_append,List.length_cons,List.length_nil];omega) ((hle.trans aj).trans Z) ap aJ) rfl
  ·intro aL T aM;refine ar _ _ ?_;refine(?_:JL (Ce Tryz.prog) Q (base 102) Tryz.f102.ntmps _ [] _ cs (Ap O H [g])) T aM;refine JL.go 5 rfl ?_;exact JL.kw (av A O a c g hle ac ae (fun x K hh=>aL x (by rw [ab];exact K) hh) ag ah) rfl
end Pal
namespace Pal
open Go Go.Conc
section
variable {P:Program}{J:Judge P}{Q:Goroutine→St→Prop}{b:Frame}{n:Nat}{ds:List Deferred}{ops:Array Oper}{k:List Item}{cs:List Frame}{fuel:Nat}{D:Nat→Bool}{listed:Array Bool}{L L':Env}{s:St}{xl:List Nat}
variable {d:Option Tmp}{op:Op}{ty:TypeId}{p:String}{af:Array Edge}{g:Option (Nat×Bool)}{v:Value}
theorem JB.V(i:Nat)(pure:Bool)(A:s.q=false)(K:F2 n L ops i=some ⟨d,op,ty,p,af,g⟩)
  (O:∀ρ,Cw L ρ→∀s':St,(pure=false→∀x o,(A8 D s).E x=some o→s'.E x=some o)→Yl P ⟨d,op,ty,p,af,g⟩ ρ s' v)
  (U:EH J Q b n ds ops k cs (AD xl) D fuel (AW listed i) (AH L d v) s) (W:Iq ops listed xl pure i=true:=by decide+kernel):EH J Q b n ds ops k cs (AD xl) D (fuel+1) listed L s:=by
 obtain⟨Z,aa,ab⟩:=KB K;exact JB.val i pure Z W A aa ab O U
def JR(n:Nat)(L:Env)(ops:Array Oper)(i:Nat):Option Env:=
 match Fa ops.toList i with
 | some ⟨d,op,ty,p,af,g⟩=>match AS L ops ⟨d,op,ty,p,af,g⟩ with
  | some true=>match A2 n d with
   | true=>match F3 L op with
    | some v=>match d with
     | some d=>some ((d,v)::L)
     | none=>some L
    | none=>none
   | false=>none
  | _=>none
 | none=>none
theorem O2{i:Nat}(h:JR n L ops i=some L'):∃o v,ops[i]? =some o∧A2 n o.dst=true∧AS L ops o=some true∧F3 L o.op=some v∧L'=AH L o.dst v:=by
 unfold JR at h;split at h
 ·rename_i d op ty p af g A;rw [Gh,Array.getElem?_toList] at A;split at h
  ·rename_i hw;split at h
   ·rename_i K;split at h
    ·rename_i v O;refine⟨_,v,A,K,hw,O,?_⟩;cases d with
     | none=>cases h;rfl
     | some d=>cases h;rfl
    ·cases h
   ·cases h
  ·cases h
 ·cases h
theorem JB.mv(i:Nat)(A:s.q=false)(h:JR n L ops i=some L')
  (K:EH J Q b n ds ops k cs (AD xl) D fuel (AW listed i) L' s) (O:Iq ops listed xl true i=true:=by decide+kernel):EH J Q b n ds ops k cs (AD xl) D (fuel+1) listed L s:=by
 obtain⟨o,v,U,W,hw,Z,rfl⟩:=O2 h;exact JB.val i true U O A hw W (fun ρ aa s' _=>HK aa Z) K
end
end Pal
namespace Pal
open Go Go.Conc Go.Proofs
open Go.Proofs.Tryz
variable {J:Judge Tryz.prog}{E:LH}
def L1:List Nat:= [0,1,2,2,3,3,3,3,4,4,4,4,4,4,4,4,5,5,5,5,5,5,5,5,5,5,5,5,5,5,5,5,6,6,6,6,6,6,6,6,6,6,6,6,6,6,6,6,6,6,6,6,6,6,6,6,6,6,6,6,6,6,6,6,7,7,7,7,7,7,7,7,7,7,7,7,7,7,7,7,7,7,7,7,7,7,7,7,7,7,7,7,7,7,7,7,7,7,7,7,7,7,7,7,7,7,7,7,7,7,7,7,7,7,7,7,7,7,7,7,7,7,7,7,7,7,7,7,8,8,8,8,8,8,8,8,8,8,8,8,8,8,8,8,8,8,8,8,8,8,8,8,8,8,8,8,8,8,8,8,8,8,8,8,8,8,8,8,8,8,8,8,8,8,8,8,8,8,8,8,8,8,8,8,8,8,8,8,8,8,8,8,8,8,8,8,8,8,8,8,8,8,8,8,8,8,8,8,8,8,8,8,8,8,8,8,8,8,8,8,8,8,8,8,8,8,8,8,8,8,8,8,8,8,8,8,8,8,8,8,8,8,8,8,8,8,8,8,8,8,8,8,8,8,8,8]
def f187(fuel:Nat)(p0:Nat):Option (Int):=
 Option.bind (
  if(((4294967296):Nat):Int)≤(((p0):Nat):Int) then(
   some (p0>>>32,32)
  ) else(
   some (p0,0)
  )
 ) fun A=>
 Option.bind (
  if(((65536):Nat):Int)≤(((A.1):Nat):Int) then(
   (Aw (A.2+16)).bind fun U=>
   some (A.1>>>16,U)
  ) else(
   some A
  )
 ) fun K=>
 Option.bind (
  if(((256):Nat):Int)≤(((K.1):Nat):Int) then(
   (Aw (K.2+8)).bind fun W=>
   some (K.1>>>8,W)
  ) else(
   some K
  )
 ) fun O=>
 (Hj L1 (((((O.1) % 256):Nat):Int))).bind fun Z=>
 (Aw (((Z):Nat):Int)).bind fun aa=>
 (Aw (O.2+aa)).bind fun ab=>
 some ab
theorem QL{p0:Nat}{fuel:Nat}{r:Int}(ac:f187 fuel p0=some r):Au J 187 [.int .u64 ((p0:Nat):Int)] E [] (fun w E' B'=>w=iV r∧B'= []):=by
 refine Au.en func187 rfl rfl fun Q aS cs H ae ay=>?_;unfold f187 at ac;obtain⟨O,ag,az⟩:=bs ac;refine JL.go 10 rfl ?_;refine JL.join (fun L s=>∃(A:LH),Jm E H A [] [(0,.int .u64 ((O.1:Nat):Int)),(2,iV O.2)] L s) ?_ ?_
 ·rintro _ _ ⟨A,rfl,rfl,aA,ah⟩;obtain⟨U,ai,aB⟩:=bs az;refine JL.go 6 rfl ?_;refine JL.join (fun L s=>∃(K:LH),Jm A H K [] [(0,.int .u64 ((U.1:Nat):Int)),(2,iV U.2)] L s) ?_ ?_
  ·rintro _ _ ⟨K,rfl,rfl,aC,aj⟩;obtain⟨W,ak,aD⟩:=bs aB;refine JL.go 6 rfl ?_;refine JL.join (fun L s=>∃(al:LH),Jm K H al [] [(0,.int .u64 ((W.1:Nat):Int)),(2,iV W.2)] L s) ?_ ?_
   ·rintro _ _ ⟨al,rfl,rfl,aE,aF⟩;refine JL.go 4 rfl ?_;refine JL.Y (v:= .int .u8 (((W.1) % 256:Nat):Int)) rfl (fun ρ h=>Yl.R9 underlying90 underlying5 (h _ _ rfl)) ?_;obtain⟨aG,aH,aI⟩:=bs aD;refine JL.Y (v:= .int .u8 ((aG:Nat):Int)) rfl (fun ρ h=>Yl.I5 (l:=L1) (by decide+kernel) underlying9 (h _ _ rfl) (h _ _ rfl) aH) ?_;obtain⟨aJ,aK,aL⟩:=bs aI;refine JL.Y (v:=iV aJ) rfl (fun ρ h=>Yl.M1 underlying5 underlying3 (h _ _ rfl) aK) ?_;obtain⟨aT,aM,aN⟩:=bs aL;refine JL.Y rfl (fun ρ h=>Yl.A1 (h _ _ rfl) (h _ _ rfl) aM) ?_;refine JL.go 2 rfl ?_;obtain rfl:=oi aN;refine JL.rt func187 rfl rfl ?_;exact ay _ _ _ _ ((aA.trans aC).trans aE) rfl ⟨rfl,rfl⟩ aF
   ·intro am;refine JL.ifs (p:=(((256):Nat):Int)≤(((U.1):Nat):Int)) rfl (fun Z=>?_) (fun Z=>?_)
    ·have an:=ak;rw [if_pos Z] at an;refine JL.go 3 rfl ?_;refine JL.Y (v:= .int .u64 ((U.1>>>8:Nat):Int)) rfl (fun ρ h=>Yl.Gy 8 (h _ _ rfl) (h _ _ rfl) (by decide)) ?_;obtain⟨aU,aO,aP⟩:=bs an;refine JL.go 4 rfl ?_;refine JL.Y rfl (fun ρ h=>Yl.A1 (h _ _ rfl) (h _ _ rfl) aO) ?_;refine JL.go 2 rfl ?_;obtain rfl:=oi aP;exact JL.kw (am _ _ ⟨K,rfl,rfl,(Le.refl _),aj⟩) rfl
    ·have ao:=ak;rw [if_neg Z] at ao;refine JL.skip ?_;obtain rfl:=oi ao;exact JL.kw (am _ _ ⟨K,rfl,rfl,(Le.refl _),aj⟩) rfl
  ·intro ap;refine JL.ifs (p:=(((65536):Nat):Int)≤(((O.1):Nat):Int)) rfl (fun aa=>?_) (fun aa=>?_)
   ·have aq:=ai;rw [if_pos aa] at aq;refine JL.go 3 rfl ?_;refine JL.Y (v:= .int .u64 ((O.1>>>16:Nat):Int)) rfl (fun ρ h=>Yl.Gy 16 (h _ _ rfl) (h _ _ rfl) (by decide)) ?_;obtain⟨aV,aQ,aR⟩:=bs aq;refine JL.go 4 rfl ?_;refine JL.Y rfl (fun ρ h=>Yl.A1 (h _ _ rfl) (h _ _ rfl) aQ) ?_;refine JL.go 2 rfl ?_;obtain rfl:=oi aR;exact JL.kw (ap _ _ ⟨A,rfl,rfl,(Le.refl _),ah⟩) rfl
   ·have ar:=ai;rw [if_neg aa] at ar;refine JL.skip ?_;obtain rfl:=oi ar;exact JL.kw (ap _ _ ⟨A,rfl,rfl,(Le.refl _),ah⟩) rfl
 ·intro au;refine JL.ifs (p:=(((4294967296):Nat):Int)≤(((p0):Nat):Int)) rfl (fun ab=>?_) (fun ab=>?_)
  ·have av:=ag;rw [if_pos ab] at av;refine JL.go 3 rfl ?_;refine JL.Y (v:= .int .u64 ((p0>>>32:Nat):Int)) rfl (fun ρ h=>Yl.Gy 32 (h _ _ rfl) (h _ _ rfl) (by decide)) ?_;refine JL.go 5 rfl ?_;obtain rfl:=oi av;exact JL.kw (au _ _ ⟨E,rfl,rfl,(Le.refl _),ae⟩) rfl
  ·have aw:=ag;rw [if_neg ab] at aw;refine JL.skip ?_;obtain rfl:=oi aw;exact JL.kw (au _ _ ⟨E,rfl,rfl,(Le.refl _),ae⟩) rfl
def f163(fuel:Nat)(p0:Nat):Option (Int):=
 (f187 fuel p0).bind fun A=>
 some A
theorem Mg{p0:Nat}{fuel:Nat}{r:Int}(A:f163 fuel p0=some r):Au J 163 [.int .u64 ((p0:Nat):Int)] E [] (fun w E' B'=>w=iV r∧B'= []):=by
 refine Au.en func163 rfl rfl fun Q ab cs H K O=>?_;unfold f163 at A;obtain⟨ac,U,W⟩:=bs A;refine JL.go 10 rfl ?_;refine JS.cl (QL U) rfl rfl (Ay func187 rfl) K ?_;rintro _ ae _ Z ⟨rfl,rfl⟩ aa;refine JL.go 2 rfl ?_;obtain rfl:=oi W;refine JL.rt func163 rfl rfl ?_;exact O _ _ _ _ Z rfl ⟨rfl,rfl⟩ aa
def f134(fuel:Nat)(p0:Int×Int×(List (Int×(List Int)×Nat)))(p1:Int×Int×(List (Int×(List Int)×Nat))):Option (Int):=
 (Aw (p0.1 - p1.1)).bind fun A=>
 some A
theorem Ec{A:Option Addr}{c2:Nat}{K:Option Addr}{O:Nat}{p0:Int×Int×(List (Int×(List Int)×Nat))}{p1:Int×Int×(List (Int×(List Int)×Nat))}(aq:Ar (rP rI (rP (rL rI) (rN .u16))) E A c2 (p0.2.2))(ar:Ar (rP rI (rP (rL rI) (rN .u16))) E K O (p1.2.2)){fuel:Nat}{r:Int}(Z:f134 fuel p0 p1=some r):Au J 134 [.agg #[iV p0.1,iV p0.2.1,.slice A (p0.2.2).length c2],.agg #[iV p1.1,iV p1.2.1,.slice K (p1.2.2).length O]] E [] (fun w E' B'=>w=iV r∧B'= []):=by
 refine Au.en func134 rfl rfl fun Q au cs H ab ac=>?_;unfold f134 at Z;refine JL.go 2 rfl ?_;refine JS.box (v:= .agg #[iV p0.1,iV p0.2.1,.slice A (p0.2.2).length c2]) rfl rfl rfl ab rfl fun ae ag=>?_;refine JS.Bi 1 ag rfl fun ah ai U aj=>?_;replace U:At ah ae 0 [iV p0.1,iV p0.2.1,.slice A (p0.2.2).length c2]:=U;refine JS.box (v:= .agg #[iV p1.1,iV p1.2.1,.slice K (p1.2.2).length O]) rfl rfl rfl aj rfl fun ak al=>?_;refine JS.Bi 2 al rfl fun am aa W an=>?_;replace W:At am ak 0 [iV p1.1,iV p1.2.1,.slice K (p1.2.2).length O]:=W;refine JL.go 4 rfl ?_;refine JL.fd underlying133 (Ah type3) rfl rfl rfl ?_;refine JL.ld 0 (U.mono aa) (Ao underlying3) rfl rfl rfl ?_;refine JL.fd underlying133 (Ah type3) rfl rfl rfl ?_;refine JL.ld 0 W (Ao underlying3) rfl rfl rfl ?_;obtain⟨av,ao,ap⟩:=bs Z;refine JL.Y rfl (fun ρ h=>Yl.A4 (h _ _ rfl) (h _ _ rfl) ao) ?_;refine JL.go 2 rfl ?_;obtain rfl:=oi ap;refine JL.rt func134 rfl rfl ?_;exact ac _ _ _ _ (ai.trans aa) rfl ⟨rfl,rfl⟩ an
def Gl(fuel:Nat)(p1:Int)(A:Int×(List (Int×Int×(List (Int×(List Int)×Nat))))):Option (AU (Int×(List (Int×Int×(List (Int×(List Int)×Nat))))) ((List (Int×Int×(List (Int×(List Int)×Nat)))))):=
 Option.bind (
  if p1<A.1 then(
   (ix A.2 (A.1)).bind fun U=>
   (Aw (A.1 - 1)).bind fun W=>
   (ix A.2 (W)).bind fun Z=>
   (f134 fuel U Z).bind fun aa=>
   some (decide (aa<0))
  ) else(
   some false
  )
 ) fun ab=>
 if ab=true then(
  (Aw (A.1 - 1)).bind fun K=>
  (Aw (A.1 - 1)).bind fun ac=>
  (ix A.2 (ac)).bind fun O=>
  (ix A.2 (A.1)).bind fun ae=>
  (ix (A.2.set (Int.toNat A.1) O) (K)).bind fun ah=>
  (Aw (A.1 - 1)).bind fun ag=>
  some (.more (ag,((A.2.set (Int.toNat A.1) O).set (Int.toNat K) ae)))
 ) else(
  some (.done A.2)
 )
def FO(fuel:Nat)(p1:Int)(p2:Int)(A:Int×(List (Int×Int×(List (Int×(List Int)×Nat))))):Option (AU (Int×(List (Int×Int×(List (Int×(List Int)×Nat))))) ((List (Int×Int×(List (Int×(List Int)×Nat)))))):=
 if A.1<p2 then(
  Option.bind (iter (Gl fuel p1) fuel A) fun K=>
  (Aw (A.1+1)).bind fun O=>
  some (.more (O,K))
 ) else(
  some (.done A.2)
 )
def f178(fuel:Nat)(p0:List (Int×Int×(List (Int×(List Int)×Nat))))(p1:Int)(p2:Int):Option ((List (Int×Int×(List (Int×(List Int)×Nat))))):=
 (Aw (p1+1)).bind fun A=>
 Option.bind (iter (FO fuel p1 p2) fuel (A,p0)) fun K=>
 some K
theorem Mm{K:Nat}{U:Nat}{W:Nat}{ay:Array Value}{p0:List (Int×Int×(List (Int×(List Int)×Nat)))}{p1:Int}{p2:Int}(hW:WL 133 (rP rI (rP rI (rL (rP rI (rP (rL rI) (rN .u16)))))) E K U W ay p0){fuel:Nat}{r:(List (Int×Int×(List (Int×(List Int)×Nat))))}(aQ:f178 fuel p0 p1 p2=some r):Au J 178 [.slice (some ⟨K,0,none⟩) W U,iV p1,iV p2,(.func (.func 134) #[] #[])] E [(K,.cells ay 133 (0,0))] (fun w E' B'=>∃(aR:Array Value),w= .tuple #[]∧B'= [(K,.cells aR 133 (0,0))]∧WL 133 (rP rI (rP rI (rL (rP rI (rP (rL rI) (rN .u16)))))) E' K U W aR (r)):=by
 refine Au.en func178 rfl rfl fun Q ca cs H bd bf=>?_;unfold f178 at aQ;obtain⟨bg,bh,bi⟩:=bs aQ;refine JL.go 3 rfl ?_;refine JL.Y rfl (fun ρ h=>Yl.A1 (h _ _ rfl) (h _ _ rfl) bh) ?_;obtain⟨bj,bk,bl⟩:=bs bi;refine JL.go 2 rfl ?_;refine JL.join (fun L s=>∃(az:LH) (f17:Array Value),Jn E H az [[(K,.cells f17 133 (0,0))]] [] L s (WL 133 (rP rI (rP rI (rL (rP rI (rP (rL rI) (rN .u16)))))) az K U W f17 (bj))) ?_ ?_
 ·rintro _ _ ⟨az,f17,rfl,rfl,bm,bn,bo⟩;obtain rfl:=oi bl;refine JL.fin (v:= .tuple #[]) rfl rfl (Bl.list func178 rfl (vs:= []) trivial) ?_;exact bf _ _ _ _ bm rfl ⟨f17,rfl,(by first | rfl | simp | (simp [Value.cells])),bo⟩ bn
 ·intro bp;refine JL.block ?_;refine JL.wk [(0,.slice (some ⟨K,0,none⟩) W U),(1,iV p1),(2,iV p2),(3,(.func (.func 134) #[] #[])),(8,iV bg)] rfl ?_;refine JL.Bg bk (fun L s ab=>∃(ai:LH) (f25:Array Value),Jn E H ai [[(K,.cells f25 133 (0,0))]] [(0,.slice (some ⟨K,0,none⟩) W U),(1,iV p1),(2,iV p2),(3,(.func (.func 134) #[] #[])),(8,iV ab.1)] L s (WL 133 (rP rI (rP rI (rL (rP rI (rP (rL rI) (rN .u16)))))) ai K U W f25 (ab.2))) ⟨E,ay,rfl,rfl,(Le.refl _),bd,hW⟩ ?_;rintro _ _ ab ⟨ai,f25,rfl,rfl,aS,aT,aU⟩ bq ⟨cb,aA⟩ br;have aB:=aA;unfold FO at aB;refine JL.go 7 rfl ?_;refine JL.ifs (p:=ab.1<p2) rfl (fun aC=>?_) (fun aC=>?_)
  ·have aV:=aB;rw [if_pos aC] at aV;obtain⟨aW,bu,bv⟩:=bs aV;refine JL.go 8 rfl ?_;refine JL.join (fun L s=>∃(ar:LH) (f48:Array Value),Jn ai H ar [[(K,.cells f48 133 (0,0))]] [(0,.slice (some ⟨K,0,none⟩) W U),(1,iV p1),(2,iV p2),(3,(.func (.func 134) #[] #[])),(8,iV ab.1)] L s (WL 133 (rP rI (rP rI (rL (rP rI (rP (rL rI) (rN .u16)))))) ar K U W f48 (aW))) ?_ ?_
   ·rintro _ _ ⟨ar,f48,rfl,rfl,bw,bx,bz⟩;obtain⟨bA,bB,bC⟩:=bs bv;refine JL.go 3 rfl ?_;refine JL.Y rfl (fun ρ h=>Yl.A1 (h _ _ rfl) (h _ _ rfl) bB) ?_;refine JL.go 2 rfl ?_;obtain rfl:=oi bC;exact JL.kw (br _ _ (bA,aW) ⟨ar,f48,rfl,rfl,(aS.trans bw),bx,bz⟩ aA) rfl
   ·intro bD;refine JL.block ?_;refine JL.wk [(0,.slice (some ⟨K,0,none⟩) W U),(1,iV p1),(2,iV p2),(3,(.func (.func 134) #[] #[])),(8,iV ab.1),(9,iV ab.1)] rfl ?_;refine JL.Bg bu (fun L s Z=>∃(an:LH) (f58:Array Value),Jn ai H an [[(K,.cells f58 133 (0,0))]] [(0,.slice (some ⟨K,0,none⟩) W U),(1,iV p1),(2,iV p2),(3,(.func (.func 134) #[] #[])),(8,iV ab.1),(9,iV Z.1)] L s (WL 133 (rP rI (rP rI (rL (rP rI (rP (rL rI) (rN .u16)))))) an K U W f58 (Z.2))) ⟨ai,f25,rfl,rfl,(Le.refl _),aT,aU⟩ ?_;rintro _ _ Z ⟨an,f58,rfl,rfl,aX,ao,aa⟩ bE ⟨cc,aD⟩ bF;have aY:=aD;unfold Gl at aY;refine JL.go 2 rfl ?_;refine JG.BX 17 [K] ⟨⟨0,_,rfl⟩,trivial⟩ ao mixed rfl (by decide+kernel) fun ht=>?_;refine JG.mv 0 ht rfl rfl ?_;refine JG.mv 1 ht rfl rfl ?_;refine JG.mv 2 ht rfl rfl ?_;refine JG.mv 3 ht rfl rfl ?_;obtain⟨aZ,a0,a1⟩:=bs aY;refine Av.join 0 #[true,true,true,true,true,true,true,true,true,true,true,true,true,true,true,true,true] (fun L s=>∃(au:LH),Jm an H au [[(K,.cells f58 133 (0,0))]] [(0,.slice (some ⟨K,0,none⟩) W U),(1,iV p1),(2,iV p2),(3,(.func (.func 134) #[] #[])),(8,iV ab.1),(9,iV Z.1),(34,.bool aZ)] L s) ?_ ?_
    ·rintro _ _ ⟨au,rfl,rfl,am,av⟩;refine Av.fin (by decide+kernel) ?_;refine JL.split (t:=aZ) rfl (fun aE=>?_) (fun aE=>?_)
     ·have a2:=a1;rw [if_pos aE] at a2;refine JL.go 3 rfl ?_;refine JB.draw [15,17] [K] mixed rfl ?_;refine JB.mv 0 rfl rfl ?_;refine JB.mv 1 rfl rfl ?_;refine JB.mv 2 rfl rfl ?_;refine JB.mv 3 rfl rfl ?_;obtain⟨ap,bG,bH⟩:=bs a2;refine JB.V 4 true rfl rfl (fun ρ h s' hs=>Yl.A4 (h _ _ rfl) (h _ _ rfl) bG) ?_;refine JB.mv 5 rfl rfl ?_;refine JB.mv 6 rfl rfl ?_;obtain⟨bI,bJ,bK⟩:=bs bH;refine JB.V 7 true rfl rfl (fun ρ h s' hs=>Yl.A4 (h _ _ rfl) (h _ _ rfl) bJ) ?_;obtain⟨A,a3,bL⟩:=bs bK;obtain⟨_,⟨_,_,rfl,rfl,⟨_,_,rfl,rfl,⟨ag,ah,rfl,bM⟩⟩⟩,aF⟩:=WL.at (aa.mono am) a3;replace aF:∀(j:Nat) w,[iV A.1,iV A.2.1,.slice ag (A.2.2).length ah][j]? =some w→f58[Int.toNat (bI)*3+j]? =some w:=aF;refine JB.V 8 true rfl rfl (fun ρ h s' hs=>Yl.A7 aa.2 a3 underlying130 (Ah type133) (h _ _ rfl) (h _ _ rfl)) ?_;refine JB.val (v:= .agg #[iV A.1,iV A.2.1,.slice ag (A.2.2).length ah]) 9 false rfl (by decide+kernel) rfl rfl rfl (fun ρ h s' hs=>have hs:=hs rfl;Yl.Bh (vs:= [iV A.1,iV A.2.1,.slice ag (A.2.2).length ah]) (Ao underlying133) (Ah type133) (h _ _ rfl) (fun q w aj=>by rw [Ba rfl];exact Bb 0 av rfl (by simp [AD]) hs (aF q w aj))) ?_;refine JB.mv 10 rfl rfl ?_;refine JB.mv 11 rfl rfl ?_;obtain⟨O,aw,bN⟩:=bs bL;obtain⟨_,⟨_,_,rfl,rfl,⟨_,_,rfl,rfl,⟨ak,al,rfl,bO⟩⟩⟩,aG⟩:=WL.at (aa.mono am) aw;replace aG:∀(j:Nat) w,[iV O.1,iV O.2.1,.slice ak (O.2.2).length al][j]? =some w→f58[Int.toNat (Z.1)*3+j]? =some w:=aG;refine JB.V 12 true rfl rfl (fun ρ h s' hs=>Yl.A7 aa.2 aw underlying130 (Ah type133) (h _ _ rfl) (h _ _ rfl)) ?_;refine JB.val (v:= .agg #[iV O.1,iV O.2.1,.slice ak (O.2.2).length al]) 13 false rfl (by decide+kernel) rfl rfl rfl (fun ρ h s' hs=>have hs:=hs rfl;Yl.Bh (vs:= [iV O.1,iV O.2.1,.slice ak (O.2.2).length al]) (Ao underlying133) (Ah type133) (h _ _ rfl) (fun q w aj=>by rw [Ba rfl];exact Bb 0 av rfl (by simp [AD]) hs (aG q w aj))) ?_;refine JB.V 14 true rfl rfl (fun ρ h s' hs=>Yl.A7 aa.2 aw underlying130 (Ah type133) (h _ _ rfl) (h _ _ rfl)) ?_;have aq:=WL.put (x':=A) (ws':= [iV A.1,iV A.2.1,.slice ag (A.2.2).length ah]) (aa.mono am) aa.2 aw ⟨_,_,rfl,rfl,⟨_,_,rfl,rfl,⟨_,_,rfl,bM⟩⟩⟩;refine JB.store (v:= .agg #[iV A.1,iV A.2.1,.slice ag (A.2.2).length ah]) (off:=Int.toNat (Z.1)*3) 15 0 (by decide+kernel) (by decide+kernel) rfl rfl rfl av rfl rfl (Ah type133) (by simp [Value.cells,Bs]) rfl aq.2 fun bP=>?_;obtain⟨aH,aI,bQ⟩:=bs bN;obtain⟨_,⟨_,_,rfl,rfl,⟨_,_,rfl,rfl,⟨bR,bS,rfl,cd⟩⟩⟩,a4⟩:=WL.at aq.1 aI;replace a4:∀(j:Nat) w,[iV aH.1,iV aH.2.1,.slice bR (aH.2.2).length bS][j]? =some w→(AL f58 (Int.toNat (Z.1)*3) [iV A.1,iV A.2.1,.slice ag (A.2.2).length ah])[Int.toNat (ap)*3+j]? =some w:=a4;refine JB.V 16 true rfl rfl (fun ρ h s' hs=>Yl.A7 (aq.1).2 aI underlying130 (Ah type133) (h _ _ rfl) (h _ _ rfl)) ?_;have a5:=WL.put (x':=O) (ws':= [iV O.1,iV O.2.1,.slice ak (O.2.2).length al]) aq.1 (aq.1).2 aI ⟨_,_,rfl,rfl,⟨_,_,rfl,rfl,⟨_,_,rfl,bO⟩⟩⟩;refine JB.store (v:= .agg #[iV O.1,iV O.2.1,.slice ak (O.2.2).length al]) (off:=Int.toNat (ap)*3) 17 0 (by decide+kernel) (by decide+kernel) rfl rfl rfl bP rfl rfl (Ah type133) (by simp [Value.cells,Bs]) rfl a5.2 fun bT=>?_;refine JB.fin (by decide+kernel) ?_;refine JS.norm (S':= [[(K,.cells (AL (AL f58 (Int.toNat (Z.1)*3) [iV A.1,iV A.2.1,.slice ag (A.2.2).length ah]) (Int.toNat (ap)*3) [iV O.1,iV O.2.1,.slice ak (O.2.2).length al]) 133 (0,0))]]) rfl bT fun bU=>?_;obtain⟨bV,bW,bX⟩:=bs bQ;refine JL.go 3 rfl ?_;refine JL.Y rfl (fun ρ h=>Yl.A4 (h _ _ rfl) (h _ _ rfl) bW) ?_;refine JL.go 2 rfl ?_;obtain rfl:=oi bX;exact JL.kw (bF _ _ (bV,((Z.2.set (Int.toNat Z.1) A).set (Int.toNat ap) O)) ⟨au,(AL (AL f58 (Int.toNat (Z.1)*3) [iV A.1,iV A.2.1,.slice ag (A.2.2).length ah]) (Int.toNat (ap)*3) [iV O.1,iV O.2.1,.slice ak (O.2.2).length al]),rfl,rfl,(aX.trans am),bU,a5.1⟩ aD) rfl
     ·have a6:=a1;rw [if_neg (by rw [aE];exact Bool.false_ne_true)] at a6;refine JL.exit rfl ?_;obtain rfl:=oi a6;obtain rfl:=bE _ aD;exact JL.kw (bD _ _ ⟨au,f58,rfl,rfl,(aX.trans am),av,(aa.mono am)⟩) rfl
    ·intro a7;refine Av.BP (q:=p1<Z.1) (i:=21) rfl (fun aJ=>?_) (fun aJ=>?_)
     ·have a8:=a0;rw [if_pos aJ] at a8;refine JG.mv 4 ht rfl rfl ?_;refine JG.mv 5 ht rfl rfl ?_;refine JG.mv 6 ht rfl rfl ?_;obtain⟨ac,a9,bY⟩:=bs a8;obtain⟨_,⟨_,_,rfl,rfl,⟨_,_,rfl,rfl,⟨aK,aL,rfl,bZ⟩⟩⟩,aM⟩:=WL.at aa a9;replace aM:∀(j:Nat) w,[iV ac.1,iV ac.2.1,.slice aK (ac.2.2).length aL][j]? =some w→f58[Int.toNat (Z.1)*3+j]? =some w:=aM;refine JG.V 7 ht rfl rfl (fun ρ h s' hs=>Yl.A7 (aa).2 a9 underlying130 (Ah type133) (h _ _ rfl) (h _ _ rfl)) ?_;refine JG.V 8 ht rfl rfl (fun ρ h s' hs=>Yl.Bh (vs:= [iV ac.1,iV ac.2.1,.slice aK (ac.2.2).length aL]) (Ao underlying133) (Ah type133) (h _ _ rfl) (fun q w aj=>by rw [Ba rfl];exact Bb 0 ao rfl (by simp [AD]) hs (aM q w aj))) ?_;refine JG.mv 9 ht rfl rfl ?_;refine JG.mv 10 ht rfl rfl ?_;obtain⟨b0,b1,b2⟩:=bs bY;refine JG.V 11 ht rfl rfl (fun ρ h s' hs=>Yl.A4 (h _ _ rfl) (h _ _ rfl) b1) ?_;obtain⟨ae,ba,b3⟩:=bs b2;obtain⟨_,⟨_,_,rfl,rfl,⟨_,_,rfl,rfl,⟨aN,aO,rfl,b4⟩⟩⟩,aP⟩:=WL.at aa ba;replace aP:∀(j:Nat) w,[iV ae.1,iV ae.2.1,.slice aN (ae.2.2).length aO][j]? =some w→f58[Int.toNat (b0)*3+j]? =some w:=aP;refine JG.V 12 ht rfl rfl (fun ρ h s' hs=>Yl.A7 (aa).2 ba underlying130 (Ah type133) (h _ _ rfl) (h _ _ rfl)) ?_;refine JG.V 13 ht rfl rfl (fun ρ h s' hs=>Yl.Bh (vs:= [iV ae.1,iV ae.2.1,.slice aN (ae.2.2).length aO]) (Ao underlying133) (Ah type133) (h _ _ rfl) (fun q w aj=>by rw [Ba rfl];exact Bb 0 ao rfl (by simp [AD]) hs (aP q w aj))) ?_;obtain⟨ce,b5,b6⟩:=bs b3;refine JG.ER (i:=14) ⟨⟨0,_,rfl⟩,trivial⟩ (vs:= [.agg #[iV ac.1,iV ac.2.1,.slice aK (ac.2.2).length aL],.agg #[iV ae.1,iV ae.2.1,.slice aN (ae.2.2).length aO]]) (Ec bZ b4 b5) (by decide+kernel) rfl rfl rfl rfl (Ay func134 rfl) rfl ao ?_;rintro _ b7 _ b8 ⟨rfl,rfl⟩ b9;refine JG.mv 15 ht rfl rfl ?_;refine JG.mv 16 ht rfl rfl ?_;obtain rfl:=oi b6;refine Av.BK ?_ (a7 _ _ ⟨b7,rfl,rfl,b8,b9⟩);exact⟨rfl,rfl,rfl,rfl,rfl,rfl,rfl,trivial⟩
     ·have bb:=a0;rw [if_neg aJ] at bb;refine JG.mv 4 ht rfl rfl ?_;refine JG.mv 5 ht rfl rfl ?_;refine JG.mv 6 ht rfl rfl ?_;refine JG.mv 7 ht rfl rfl ?_;refine JG.mv 8 ht rfl rfl ?_;refine JG.mv 9 ht rfl rfl ?_;refine JG.mv 10 ht rfl rfl ?_;refine JG.mv 11 ht rfl rfl ?_;refine JG.mv 12 ht rfl rfl ?_;refine JG.mv 13 ht rfl rfl ?_;refine JG.mv 14 ht rfl rfl ?_;refine JG.mv 15 ht rfl rfl ?_;refine JG.mv 16 ht rfl rfl ?_;obtain rfl:=oi bb;refine Av.BK ?_ (a7 _ _ ⟨an,rfl,rfl,(Le.refl _),ao⟩);exact⟨rfl,rfl,rfl,rfl,rfl,rfl,rfl,trivial⟩
  ·have bc:=aB;rw [if_neg aC] at bc;refine JL.exit rfl ?_;obtain rfl:=oi bc;obtain rfl:=bq _ aA;exact JL.kw (bp _ _ ⟨ai,f25,rfl,rfl,aS,aT,aU⟩) rfl
def f200(fuel:Nat)(p0:List (Int×Int×(List (Int×(List Int)×Nat))))(p1:Int)(p2:Int)(p3:Int):Option (Int×Int×Int):=
 (ix p0 (p2)).bind fun A=>
 (ix p0 (p1)).bind fun K=>
 (f134 fuel A K).bind fun O=>
 if O<0 then(
  (Aw (p3+1)).bind fun U=>
  some (p2,p1,U)
 ) else(
  some (p1,p2,p3)
 )
theorem Jk{O:Nat}{ak:Nat}{al:Nat}{U:Array Value}{W:Nat}{p0:List (Int×Int×(List (Int×(List Int)×Nat)))}{p1:Int}{p2:Int}{p3:Int}(hW:WL 133 (rP rI (rP rI (rL (rP rI (rP (rL rI) (rN .u16)))))) E O ak al U p0){fuel:Nat}{r:Int×Int×Int}(am:f200 fuel p0 p1 p2 p3=some r):Au J 200 [.slice (some ⟨O,0,none⟩) al ak,iV p1,iV p2,.pointer (some ⟨W,0,none⟩),(.func (.func 134) #[] #[])] E ([(W,.cells #[iV p3] 3 (0,0))]++ [(O,.cells U 133 (0,0))]) (fun w E' B'=>w= .tuple #[iV r.1,iV r.2.1]∧B'= [(W,.cells #[iV r.2.2] 3 (0,0))]++ [(O,.cells U 133 (0,0))]):=by
 refine Au.en func200 rfl rfl fun Q aJ cs H Z an=>?_;unfold f200 at am;refine JS.split (S':= [[(W,.cells #[iV p3] 3 (0,0))],[(O,.cells U 133 (0,0))]]) (by simp) Z fun Z=>?_;refine JL.go 7 rfl ?_;refine JG.BX 9 [O] ⟨⟨1,_,rfl⟩,trivial⟩ Z mixed rfl (by decide+kernel) fun ht=>?_;refine JG.mv 0 ht rfl rfl ?_;refine JG.mv 1 ht rfl rfl ?_;refine JG.mv 2 ht rfl rfl ?_;obtain⟨A,ao,ay⟩:=bs am;obtain⟨_,⟨_,_,rfl,rfl,⟨_,_,rfl,rfl,⟨aa,c4,rfl,az⟩⟩⟩,ab⟩:=WL.at hW ao;replace ab:∀(j:Nat) w,[iV A.1,iV A.2.1,.slice aa (A.2.2).length c4][j]? =some w→U[Int.toNat (p2)*3+j]? =some w:=ab;refine JG.V 3 ht rfl rfl (fun ρ h s' hs=>Yl.A7 (hW).2 ao underlying130 (Ah type133) (h _ _ rfl) (h _ _ rfl)) ?_;refine JG.V 4 ht rfl rfl (fun ρ h s' hs=>Yl.Bh (vs:= [iV A.1,iV A.2.1,.slice aa (A.2.2).length c4]) (Ao underlying133) (Ah type133) (h _ _ rfl) (fun q w ac=>by rw [Ba rfl];exact Bb 1 Z rfl (by simp [AD]) hs (ab q w ac))) ?_;refine JG.mv 5 ht rfl rfl ?_;refine JG.mv 6 ht rfl rfl ?_;obtain⟨K,ap,aA⟩:=bs ay;obtain⟨_,⟨_,_,rfl,rfl,⟨_,_,rfl,rfl,⟨ae,ag,rfl,aB⟩⟩⟩,ah⟩:=WL.at hW ap;replace ah:∀(j:Nat) w,[iV K.1,iV K.2.1,.slice ae (K.2.2).length ag][j]? =some w→U[Int.toNat (p1)*3+j]? =some w:=ah;refine JG.V 7 ht rfl rfl (fun ρ h s' hs=>Yl.A7 (hW).2 ap underlying130 (Ah type133) (h _ _ rfl) (h _ _ rfl)) ?_;refine JG.V 8 ht rfl rfl (fun ρ h s' hs=>Yl.Bh (vs:= [iV K.1,iV K.2.1,.slice ae (K.2.2).length ag]) (Ao underlying133) (Ah type133) (h _ _ rfl) (fun q w ac=>by rw [Ba rfl];exact Bb 1 Z rfl (by simp [AD]) hs (ah q w ac))) ?_;refine Av.leaf (tail:= [9,10]) (by decide+kernel) (fun t=>A3 (by decide+kernel) (A3 (by decide+kernel) BE) t) ?_;obtain⟨aC,aD,aq⟩:=bs aA;refine JS.FZ (vs:= [.agg #[iV A.1,iV A.2.1,.slice aa (A.2.2).length c4],.agg #[iV K.1,iV K.2.1,.slice ae (K.2.2).length ag]]) (Ec az aB aD) rfl rfl rfl rfl (Ay func134 rfl) rfl Z ?_;rintro _ aK _ ar ⟨rfl,rfl⟩ ai;refine JL.go 2 rfl ?_;refine JL.ifs (p:=aC<0) rfl (fun aj=>?_) (fun aj=>?_)
 ·have au:=aq;rw [if_pos aj] at au;refine JL.go 4 rfl ?_;refine JL.Y (v:=iV p3) rfl (fun ρ h=>Yl.load (Ao underlying3) (h _ _ rfl) (Ci (j:=0) (off:=0) ai rfl rfl)) ?_;obtain⟨av,aE,aF⟩:=bs au;refine JL.Y rfl (fun ρ h=>Yl.A1 (h _ _ rfl) (h _ _ rfl) aE) ?_;refine JL.go 1 rfl ?_;refine JS.st (v:=iV av) (off:=0) 0 ai (Ah type3) rfl rfl rfl rfl fun aG=>?_;refine JL.go 8 rfl ?_;refine JS.norm (S':= [[(W,.cells #[iV av] 3 (0,0))],[(O,.cells U 133 (0,0))],[]]) rfl aG fun aH=>?_;obtain rfl:=oi aF;refine JL.rt func200 rfl rfl ?_;exact an _ _ _ _ ar rfl ⟨rfl,(by first | rfl | simp | (simp [Value.cells]))⟩ aH
 ·have aw:=aq;rw [if_neg aj] at aw;refine JL.go 8 rfl ?_;refine JS.norm (S':= [[(W,.cells #[iV p3] 3 (0,0))],[(O,.cells U 133 (0,0))],[]]) rfl ai fun aI=>?_;obtain rfl:=oi aw;refine JL.rt func200 rfl rfl ?_;exact an _ _ _ _ ar rfl ⟨rfl,(by first | rfl | simp | (simp [Value.cells]))⟩ aI
def f197(fuel:Nat)(p0:List (Int×Int×(List (Int×(List Int)×Nat))))(p1:Int)(p2:Int)(p3:Int)(p4:Int):Option (Int×Int):=
 (f200 fuel p0 p1 p2 p4).bind fun A=>
 (f200 fuel p0 A.2.1 p3 A.2.2).bind fun K=>
 (f200 fuel p0 A.1 K.1 K.2.2).bind fun O=>
 some O.2
theorem Qv{A:Nat}{Z:Nat}{aa:Nat}{K:Array Value}{O:Nat}{p0:List (Int×Int×(List (Int×(List Int)×Nat)))}{p1:Int}{p2:Int}{p3:Int}{p4:Int}(hW:WL 133 (rP rI (rP rI (rL (rP rI (rP (rL rI) (rN .u16)))))) E A Z aa K p0){fuel:Nat}{r:Int×Int}(ab:f197 fuel p0 p1 p2 p3 p4=some r):Au J 197 [.slice (some ⟨A,0,none⟩) aa Z,iV p1,iV p2,iV p3,.pointer (some ⟨O,0,none⟩),(.func (.func 134) #[] #[])] E ([(O,.cells #[iV p4] 3 (0,0))]++ [(A,.cells K 133 (0,0))]) (fun w E' B'=>w=iV r.1∧B'= [(O,.cells #[iV r.2] 3 (0,0))]++ [(A,.cells K 133 (0,0))]):=by
 refine Au.en func197 rfl rfl fun Q aG cs H U ag=>?_;unfold f197 at ab;refine JS.split (S':= [[(O,.cells #[iV p4] 3 (0,0))],[(A,.cells K 133 (0,0))]]) (by simp) U fun U=>?_;obtain⟨ah,ai,aj⟩:=bs ab;refine JL.go 11 rfl ?_;refine JS.merge 0 1 rfl rfl U fun ak=>?_;refine JS.Bw 0 (Jk hW ai) rfl rfl (Ay func200 rfl) ak rfl ?_;rintro _ aH _ W ⟨rfl,rfl⟩ al;refine JS.part 0 rfl al fun am=>?_;refine JS.norm (S':= [[(O,.cells #[iV ah.2.2] 3 (0,0))],[],[(A,.cells K 133 (0,0))]]) rfl am fun an=>?_;obtain⟨ao,ap,aq⟩:=bs aj;refine JL.go 13 rfl ?_;refine JS.merge 0 2 rfl rfl an fun ar=>?_;refine JS.Bw 0 (Jk (hW.mono W) ap) rfl rfl (Ay func200 rfl) ar rfl ?_;rintro _ aI _ ac ⟨rfl,rfl⟩ au;refine JS.part 0 rfl au fun av=>?_;refine JS.norm (S':= [[(O,.cells #[iV ao.2.2] 3 (0,0))],[],[],[(A,.cells K 133 (0,0))]]) rfl av fun aw=>?_;obtain⟨ae,ay,az⟩:=bs aq;refine JL.go 13 rfl ?_;refine JS.merge 0 3 rfl rfl aw fun aA=>?_;refine JS.Bw 0 (Jk (hW.mono (W.trans ac)) ay) rfl rfl (Ay func200 rfl) aA rfl ?_;rintro _ aJ _ aB ⟨rfl,rfl⟩ aC;refine JS.part 0 rfl aC fun aD=>?_;refine JS.norm (S':= [[(O,.cells #[iV ae.2.2] 3 (0,0))],[],[],[],[(A,.cells K 133 (0,0))]]) rfl aD fun aE=>?_;refine JL.go 11 rfl ?_;refine JS.norm (S':= [[(O,.cells #[iV ae.2.2] 3 (0,0))],[],[],[],[(A,.cells K 133 (0,0))]]) rfl aE fun aF=>?_;obtain rfl:=oi az;refine JL.rt func197 rfl rfl ?_;exact ag _ _ _ _ ((W.trans ac).trans aB) rfl ⟨rfl,(by first | rfl | simp | (simp [Value.cells]))⟩ aF
def f181(fuel:Nat)(p0:List (Int×Int×(List (Int×(List Int)×Nat))))(p1:Int)(p2:Int):Option (Int×Int):=
 (Aw (p2 - p1)).bind fun A=>
 (EG (A) (4)).bind fun U=>
 (Aw (U*1)).bind fun W=>
 (Aw (p1+W)).bind fun Z=>
 (EG (A) (4)).bind fun aa=>
 (Aw (aa*2)).bind fun x14=>
 (Aw (p1+x14)).bind fun O=>
 (EG (A) (4)).bind fun ab=>
 (Aw (ab*3)).bind fun ac=>
 (Aw (p1+ac)).bind fun ae=>
 Option.bind (
  if 8≤A then(
   Option.bind (
    if 50≤A then(
     none
    ) else(
     some ()
    )
   ) fun ah=>
   (f197 fuel p0 Z O ae 0).bind fun ag=>
   some ag
  ) else(
   some (O,0)
  )
 ) fun K=>
 if K.2=0 then(
  some (K.1,1)
 ) else(
  if K.2=12 then(
   some (K.1,2)
  ) else(
   some (K.1,0)
  )
 )
theorem Mv{A:Nat}{Z:Nat}{aa:Nat}{K:Array Value}{p0:List (Int×Int×(List (Int×(List Int)×Nat)))}{p1:Int}{p2:Int}(hW:WL 133 (rP rI (rP rI (rL (rP rI (rP (rL rI) (rN .u16)))))) E A Z aa K p0){fuel:Nat}{r:Int×Int}(ak:f181 fuel p0 p1 p2=some r):Au J 181 [.slice (some ⟨A,0,none⟩) aa Z,iV p1,iV p2,(.func (.func 134) #[] #[])] E [(A,.cells K 133 (0,0))] (fun w E' B'=>w= .tuple #[iV r.1,iV r.2]∧B'= [(A,.cells K 133 (0,0))]):=by
 refine Au.en func181 rfl rfl fun Q bm cs H aE ab=>?_;unfold f181 at ak;obtain⟨al,aF,aG⟩:=bs ak;refine JL.go 9 rfl ?_;refine JL.Y rfl (fun ρ h=>Yl.A4 (h _ _ rfl) (h _ _ rfl) aF) ?_;refine JL.go 4 rfl ?_;refine JS.alloc rfl rfl rfl aE (AN type3) fun O am=>?_;obtain⟨aH,aI,aJ⟩:=bs aG;refine JL.go 5 rfl ?_;refine JL.Y (v:=iV aH) rfl (fun ρ h=>Yl.Hd (h _ _ rfl) (h _ _ rfl) aI) ?_;obtain⟨bn,aK,aL⟩:=bs aJ;refine JL.Y rfl (fun ρ h=>Yl.mulC (h _ _ rfl) (h _ _ rfl) aK) ?_;obtain⟨aM,aN,aO⟩:=bs aL;refine JL.Y rfl (fun ρ h=>Yl.A1 (h _ _ rfl) (h _ _ rfl) aN) ?_;obtain⟨aP,aQ,aR⟩:=bs aO;refine JL.go 6 rfl ?_;refine JL.Y (v:=iV aP) rfl (fun ρ h=>Yl.Hd (h _ _ rfl) (h _ _ rfl) aQ) ?_;obtain⟨x14,aS,aT⟩:=bs aR;refine JL.Y rfl (fun ρ h=>Yl.mulC (h _ _ rfl) (h _ _ rfl) aS) ?_;obtain⟨aU,aV,aW⟩:=bs aT;refine JL.Y rfl (fun ρ h=>Yl.A1 (h _ _ rfl) (h _ _ rfl) aV) ?_;obtain⟨aX,aY,aZ⟩:=bs aW;refine JL.go 6 rfl ?_;refine JL.Y (v:=iV aX) rfl (fun ρ h=>Yl.Hd (h _ _ rfl) (h _ _ rfl) aY) ?_;obtain⟨bo,a0,a1⟩:=bs aZ;refine JL.Y rfl (fun ρ h=>Yl.mulC (h _ _ rfl) (h _ _ rfl) a0) ?_;obtain⟨a2,a3,a4⟩:=bs a1;refine JL.Y rfl (fun ρ h=>Yl.A1 (h _ _ rfl) (h _ _ rfl) a3) ?_;obtain⟨U,an,ao⟩:=bs a4;refine JL.go 8 rfl ?_;refine JL.join (fun L s=>∃(ap:LH),Jm E H ap [[(A,.cells K 133 (0,0))],[(O,.cells #[iV U.2] 3 (0,0))]] [(11,.pointer (some ⟨O,0,none⟩)),(13,iV U.1)] L s) ?_ ?_
 ·rintro _ _ ⟨ap,rfl,rfl,ac,W⟩;refine JL.go 2 rfl ?_;refine JL.Y (v:=iV U.2) rfl (fun ρ h=>Yl.load (Ao underlying3) (h _ _ rfl) (Ci (j:=1) (off:=0) W rfl rfl)) ?_;refine JL.go 7 rfl ?_;refine JL.ifs (p:=U.2=0) rfl (fun ae=>?_) (fun ae=>?_)
  ·have aq:=ao;rw [if_pos ae] at aq;refine JL.go 6 rfl ?_;refine JS.drop 1 W rfl fun a5=>?_;obtain rfl:=oi aq;refine JL.rt func181 rfl rfl ?_;exact ab _ _ _ _ ac rfl ⟨rfl,(by first | rfl | simp | (simp [Value.cells]))⟩ a5
  ·have ag:=ao;rw [if_neg ae] at ag;refine JL.go 5 rfl ?_;refine JL.ifs (p:=U.2=12) rfl (fun ah=>?_) (fun ah=>?_)
   ·have ar:=ag;rw [if_pos ah] at ar;refine JL.go 6 rfl ?_;refine JS.drop 1 W rfl fun a6=>?_;obtain rfl:=oi ar;refine JL.rt func181 rfl rfl ?_;exact ab _ _ _ _ ac rfl ⟨rfl,(by first | rfl | simp | (simp [Value.cells]))⟩ a6
   ·have au:=ag;rw [if_neg ah] at au;refine JL.go 6 rfl ?_;refine JS.drop 1 W rfl fun a7=>?_;obtain rfl:=oi au;refine JL.rt func181 rfl rfl ?_;exact ab _ _ _ _ ac rfl ⟨rfl,(by first | rfl | simp | (simp [Value.cells]))⟩ a7
 ·intro av;refine JL.ifs (p:=8≤al) rfl (fun ai=>?_) (fun ai=>?_)
  ·have aw:=an;rw [if_pos ai] at aw;obtain⟨bp,ay,a8⟩:=bs aw;refine JL.go 6 rfl ?_;refine JL.join (fun L s=>∃(az:LH),Jm E H az [[(A,.cells K 133 (0,0))],[(O,.cells #[iV 0] 3 (0,0))]] [(0,.slice (some ⟨A,0,none⟩) aa Z),(3,(.func (.func 134) #[] #[])),(8,iV 0),(9,iV 0),(11,.pointer (some ⟨O,0,none⟩)),(12,iV aM),(13,iV aU),(14,iV a2)] L s) ?_ ?_
   ·rintro _ _ ⟨az,rfl,rfl,aA,a9⟩;obtain⟨ba,bb,bc⟩:=bs a8;refine JL.go 6 rfl ?_;refine JS.merge 1 0 rfl rfl a9 fun bd=>?_;refine JS.Bw 1 (Qv (hW.mono aA) bb) rfl rfl (Ay func197 rfl) bd rfl ?_;rintro _ bf _ bg ⟨rfl,rfl⟩ bh;refine JS.part 1 rfl bh fun bi=>?_;refine JS.norm (S':= [[],[(O,.cells #[iV ba.2] 3 (0,0))],[(A,.cells K 133 (0,0))]]) rfl bi fun bj=>?_;refine JL.go 2 rfl ?_;refine JS.swap 1 2 rfl rfl rfl bj fun bk=>?_;obtain rfl:=oi bc;exact JL.kw (av _ _ ⟨bf,rfl,rfl,(aA.trans bg),bk⟩) rfl
   ·intro bl;refine JL.ifs (p:=50≤al) rfl (fun aj=>?_) (fun aj=>?_)
    ·have aB:=ay;rw [if_pos aj] at aB;refine JL.go 5 rfl ?_;cases aB
    ·have aC:=ay;rw [if_neg aj] at aC;refine JL.skip ?_;obtain rfl:=oi aC;exact JL.kw (bl _ _ ⟨E,rfl,rfl,(Le.refl _),am⟩) rfl
  ·have aD:=an;rw [if_neg ai] at aD;refine JL.skip ?_;obtain rfl:=oi aD;exact JL.kw (av _ _ ⟨E,rfl,rfl,(Le.refl _),am⟩) rfl
end Pal
namespace Pal
open Go Go.Conc Go.Proofs
open Go.Proofs.Tryz
variable {J:Judge Tryz.prog}{E:LH}
def EN(fuel:Nat)(A:Int×Int×(List (Int×Int×(List (Int×(List Int)×Nat))))):Option (AU (Int×Int×(List (Int×Int×(List (Int×(List Int)×Nat))))) ((List (Int×Int×(List (Int×(List Int)×Nat)))))):=
 if A.1<A.2.1 then(
  (ix A.2.2 (A.2.1)).bind fun K=>
  (ix A.2.2 (A.1)).bind fun O=>
  (Aw (A.1+1)).bind fun U=>
  (Aw (A.2.1 - 1)).bind fun W=>
  some (.more (U,W,((A.2.2.set (Int.toNat A.1) K).set (Int.toNat A.2.1) O)))
 ) else(
  some (.done A.2.2)
 )
def f182(fuel:Nat)(p0:List (Int×Int×(List (Int×(List Int)×Nat))))(p1:Int)(p2:Int):Option ((List (Int×Int×(List (Int×(List Int)×Nat))))):=
 (Aw (p2 - 1)).bind fun A=>
 Option.bind (iter (EN fuel) fuel (p1,A,p0)) fun K=>
 some K
theorem Mj{U:Nat}{Z:Nat}{aa:Nat}{al:Array Value}{p0:List (Int×Int×(List (Int×(List Int)×Nat)))}{p1:Int}{p2:Int}(hW:WL 133 (rP rI (rP rI (rL (rP rI (rP (rL rI) (rN .u16)))))) E U Z aa al p0){fuel:Nat}{r:(List (Int×Int×(List (Int×(List Int)×Nat))))}(av:f182 fuel p0 p1 p2=some r):Au J 182 [.slice (some ⟨U,0,none⟩) aa Z,iV p1,iV p2,(.func (.func 134) #[] #[])] E [(U,.cells al 133 (0,0))] (fun w E' B'=>∃(aw:Array Value),w= .tuple #[]∧B'= [(U,.cells aw 133 (0,0))]∧WL 133 (rP rI (rP rI (rL (rP rI (rP (rL rI) (rN .u16)))))) E' U Z aa aw (r)):=by
 refine Au.en func182 rfl rfl fun Q a4 cs H aD aE=>?_;unfold f182 at av;obtain⟨aF,aG,aH⟩:=bs av;refine JL.go 8 rfl ?_;refine JL.Y rfl (fun ρ h=>Yl.A4 (h _ _ rfl) (h _ _ rfl) aG) ?_;obtain⟨aI,aJ,aK⟩:=bs aH;refine JL.go 2 rfl ?_;refine JL.join (fun L s=>∃(am:LH) (f17:Array Value),Jn E H am [[(U,.cells f17 133 (0,0))]] [] L s (WL 133 (rP rI (rP rI (rL (rP rI (rP (rL rI) (rN .u16)))))) am U Z aa f17 (aI))) ?_ ?_
 ·rintro _ _ ⟨am,f17,rfl,rfl,aL,aM,aN⟩;obtain rfl:=oi aK;refine JL.fin (v:= .tuple #[]) rfl rfl (Bl.list func182 rfl (vs:= []) trivial) ?_;exact aE _ _ _ _ aL rfl ⟨f17,rfl,(by first | rfl | simp | (simp [Value.cells])),aN⟩ aM
 ·intro aO;refine JL.block ?_;refine JL.wk [(0,.slice (some ⟨U,0,none⟩) aa Z),(8,iV p1),(9,iV aF)] rfl ?_;refine JL.Bg aJ (fun L s O=>∃(ah:LH) (f25:Array Value),Jn E H ah [[(U,.cells f25 133 (0,0))]] [(0,.slice (some ⟨U,0,none⟩) aa Z),(8,iV O.1),(9,iV O.2.1)] L s (WL 133 (rP rI (rP rI (rL (rP rI (rP (rL rI) (rN .u16)))))) ah U Z aa f25 (O.2.2))) ⟨E,al,rfl,rfl,(Le.refl _),aD,hW⟩ ?_;rintro _ _ O ⟨ah,f25,rfl,rfl,ay,ai,W⟩ aP ⟨a5,an⟩ aQ;have ao:=an;unfold EN at ao;refine JL.go 7 rfl ?_;refine JL.ifs (p:=O.1<O.2.1) rfl (fun ap=>?_) (fun ap=>?_)
  ·have az:=ao;rw [if_pos ap] at az;refine JL.go 3 rfl ?_;refine JB.draw [13,15] [U] mixed rfl ?_;refine JB.mv 0 rfl rfl ?_;refine JB.mv 1 rfl rfl ?_;refine JB.mv 2 rfl rfl ?_;refine JB.mv 3 rfl rfl ?_;refine JB.mv 4 rfl rfl ?_;refine JB.mv 5 rfl rfl ?_;obtain⟨A,aj,aR⟩:=bs az;obtain⟨_,⟨_,_,rfl,rfl,⟨_,_,rfl,rfl,⟨ab,ac,rfl,aS⟩⟩⟩,aq⟩:=WL.at W aj;replace aq:∀(j:Nat) w,[iV A.1,iV A.2.1,.slice ab (A.2.2).length ac][j]? =some w→f25[Int.toNat (O.2.1)*3+j]? =some w:=aq;refine JB.V 6 true rfl rfl (fun ρ h s' hs=>Yl.A7 W.2 aj underlying130 (Ah type133) (h _ _ rfl) (h _ _ rfl)) ?_;refine JB.val (v:= .agg #[iV A.1,iV A.2.1,.slice ab (A.2.2).length ac]) 7 false rfl (by decide+kernel) rfl rfl rfl (fun ρ h s' hs=>have hs:=hs rfl;Yl.Bh (vs:= [iV A.1,iV A.2.1,.slice ab (A.2.2).length ac]) (Ao underlying133) (Ah type133) (h _ _ rfl) (fun q w ar=>by rw [Ba rfl];exact Bb 0 ai rfl (by simp [AD]) hs (aq q w ar))) ?_;refine JB.mv 8 rfl rfl ?_;refine JB.mv 9 rfl rfl ?_;obtain⟨K,ak,aT⟩:=bs aR;obtain⟨_,⟨_,_,rfl,rfl,⟨_,_,rfl,rfl,⟨ae,ag,rfl,aU⟩⟩⟩,au⟩:=WL.at W ak;replace au:∀(j:Nat) w,[iV K.1,iV K.2.1,.slice ae (K.2.2).length ag][j]? =some w→f25[Int.toNat (O.1)*3+j]? =some w:=au;refine JB.V 10 true rfl rfl (fun ρ h s' hs=>Yl.A7 W.2 ak underlying130 (Ah type133) (h _ _ rfl) (h _ _ rfl)) ?_;refine JB.val (v:= .agg #[iV K.1,iV K.2.1,.slice ae (K.2.2).length ag]) 11 false rfl (by decide+kernel) rfl rfl rfl (fun ρ h s' hs=>have hs:=hs rfl;Yl.Bh (vs:= [iV K.1,iV K.2.1,.slice ae (K.2.2).length ag]) (Ao underlying133) (Ah type133) (h _ _ rfl) (fun q w ar=>by rw [Ba rfl];exact Bb 0 ai rfl (by simp [AD]) hs (au q w ar))) ?_;refine JB.V 12 true rfl rfl (fun ρ h s' hs=>Yl.A7 W.2 ak underlying130 (Ah type133) (h _ _ rfl) (h _ _ rfl)) ?_;have aA:=WL.put (x':=A) (ws':= [iV A.1,iV A.2.1,.slice ab (A.2.2).length ac]) W W.2 ak ⟨_,_,rfl,rfl,⟨_,_,rfl,rfl,⟨_,_,rfl,aS⟩⟩⟩;refine JB.store (v:= .agg #[iV A.1,iV A.2.1,.slice ab (A.2.2).length ac]) (off:=Int.toNat (O.1)*3) 13 0 (by decide+kernel) (by decide+kernel) rfl rfl rfl ai rfl rfl (Ah type133) (by simp [Value.cells,Bs]) rfl aA.2 fun aV=>?_;refine JB.V 14 true rfl rfl (fun ρ h s' hs=>Yl.A7 W.2 aj underlying130 (Ah type133) (h _ _ rfl) (h _ _ rfl)) ?_;have aB:=WL.put (x':=K) (ws':= [iV K.1,iV K.2.1,.slice ae (K.2.2).length ag]) aA.1 W.2 aj ⟨_,_,rfl,rfl,⟨_,_,rfl,rfl,⟨_,_,rfl,aU⟩⟩⟩;refine JB.store (v:= .agg #[iV K.1,iV K.2.1,.slice ae (K.2.2).length ag]) (off:=Int.toNat (O.2.1)*3) 15 0 (by decide+kernel) (by decide+kernel) rfl rfl rfl aV rfl rfl (Ah type133) (by simp [Value.cells,Bs]) rfl aB.2 fun aW=>?_;refine JB.fin (by decide+kernel) ?_;refine JS.norm (S':= [[(U,.cells (AL (AL f25 (Int.toNat (O.1)*3) [iV A.1,iV A.2.1,.slice ab (A.2.2).length ac]) (Int.toNat (O.2.1)*3) [iV K.1,iV K.2.1,.slice ae (K.2.2).length ag]) 133 (0,0))]]) rfl aW fun aX=>?_;obtain⟨aY,aZ,a0⟩:=bs aT;refine JL.go 3 rfl ?_;refine JL.Y rfl (fun ρ h=>Yl.A1 (h _ _ rfl) (h _ _ rfl) aZ) ?_;obtain⟨a1,a2,a3⟩:=bs a0;refine JL.go 4 rfl ?_;refine JL.Y rfl (fun ρ h=>Yl.A4 (h _ _ rfl) (h _ _ rfl) a2) ?_;refine JL.go 3 rfl ?_;obtain rfl:=oi a3;exact JL.kw (aQ _ _ (aY,a1,((O.2.2.set (Int.toNat O.1) A).set (Int.toNat O.2.1) K)) ⟨ah,(AL (AL f25 (Int.toNat (O.1)*3) [iV A.1,iV A.2.1,.slice ab (A.2.2).length ac]) (Int.toNat (O.2.1)*3) [iV K.1,iV K.2.1,.slice ae (K.2.2).length ag]),rfl,rfl,ay,aX,aB.1⟩ an) rfl
  ·have aC:=ao;rw [if_neg ap] at aC;refine JL.exit rfl ?_;obtain rfl:=oi aC;obtain rfl:=aP _ an;exact JL.kw (aO _ _ ⟨ah,f25,rfl,rfl,ay,ai,W⟩) rfl
def FN(fuel:Nat)(p2:Int)(K:Int×Int×(List (Int×Int×(List (Int×(List Int)×Nat)))))(A:Int):Option (AU (Int) (Int)):=
 Option.bind (
  if A<p2 then(
   (ix K.2.2 (A)).bind fun O=>
   (Aw (A - 1)).bind fun U=>
   (ix K.2.2 (U)).bind fun W=>
   (f134 fuel O W).bind fun Z=>
   some (decide (¬(Z<0)))
  ) else(
   some false
  )
 ) fun aa=>
 if aa=true then(
  (Aw (A+1)).bind fun ab=>
  some (.more ab)
 ) else(
  some (.done A)
 )
def LQ(fuel:Nat)(A:Int×(List (Int×Int×(List (Int×(List Int)×Nat))))):Option (AU (Int×(List (Int×Int×(List (Int×(List Int)×Nat))))) ((List (Int×Int×(List (Int×(List Int)×Nat)))))):=
 if 1≤A.1 then(
  (ix A.2 (A.1)).bind fun K=>
  (Aw (A.1 - 1)).bind fun W=>
  (ix A.2 (W)).bind fun Z=>
  (f134 fuel K Z).bind fun aa=>
  if ¬(aa<0) then(
   some (.done A.2)
  ) else(
   (Aw (A.1 - 1)).bind fun O=>
   (Aw (A.1 - 1)).bind fun ab=>
   (ix A.2 (ab)).bind fun U=>
   (ix (A.2.set (Int.toNat A.1) U) (O)).bind fun ae=>
   (Aw (A.1 - 1)).bind fun ac=>
   some (.more (ac,((A.2.set (Int.toNat A.1) U).set (Int.toNat O) K)))
  )
 ) else(
  some (.done A.2)
 )
def LN(fuel:Nat)(p2:Int)(A:Int×(List (Int×Int×(List (Int×(List Int)×Nat))))):Option (AU (Int×(List (Int×Int×(List (Int×(List Int)×Nat))))) ((List (Int×Int×(List (Int×(List Int)×Nat)))))):=
 if A.1<p2 then(
  (ix A.2 (A.1)).bind fun K=>
  (Aw (A.1 - 1)).bind fun W=>
  (ix A.2 (W)).bind fun Z=>
  (f134 fuel K Z).bind fun aa=>
  if ¬(aa<0) then(
   some (.done A.2)
  ) else(
   (Aw (A.1 - 1)).bind fun O=>
   (Aw (A.1 - 1)).bind fun ab=>
   (ix A.2 (ab)).bind fun U=>
   (ix (A.2.set (Int.toNat A.1) U) (O)).bind fun ae=>
   (Aw (A.1+1)).bind fun ac=>
   some (.more (ac,((A.2.set (Int.toNat A.1) U).set (Int.toNat O) K)))
  )
 ) else(
  some (.done A.2)
 )
def HV(fuel:Nat)(p1:Int)(p2:Int)(A:Int×Int×(List (Int×Int×(List (Int×(List Int)×Nat))))):Option (AU (Int×Int×(List (Int×Int×(List (Int×(List Int)×Nat))))) ((Bool×(List (Int×Int×(List (Int×(List Int)×Nat)))))⊕((List (Int×Int×(List (Int×(List Int)×Nat))))))):=
 if A.2.1<5 then(
  Option.bind (iter (FN fuel p2 A) fuel A.1) fun K=>
  if K=p2 then(
   some (.done (Sum.inl (true,A.2.2)))
  ) else(
   (Aw (p2 - p1)).bind fun aa=>
   if aa<50 then(
    some (.done (Sum.inl (false,A.2.2)))
   ) else(
    (Aw (K - 1)).bind fun O=>
    (Aw (K - 1)).bind fun ab=>
    (ix A.2.2 (ab)).bind fun U=>
    (ix A.2.2 (K)).bind fun W=>
    (ix (A.2.2.set (Int.toNat K) U) (O)).bind fun am=>
    (Aw (K - p1)).bind fun ac=>
    Option.bind (
     if 2≤ac then(
      (Aw (K - 1)).bind fun ae=>
      Option.bind (iter (LQ fuel) fuel (ae,((A.2.2.set (Int.toNat K) U).set (Int.toNat O) W))) fun ag=>
      some ag
     ) else(
      some ((A.2.2.set (Int.toNat K) U).set (Int.toNat O) W)
     )
    ) fun Z=>
    (Aw (p2 - K)).bind fun ah=>
    Option.bind (
     if 2≤ah then(
      (Aw (K+1)).bind fun ai=>
      Option.bind (iter (LN fuel p2) fuel (ai,Z)) fun aj=>
      some aj
     ) else(
      some Z
     )
    ) fun ak=>
    (Aw (A.2.1+1)).bind fun al=>
    some (.more (K,al,ak))
   )
  )
 ) else(
  some (.done (Sum.inr A.2.2))
 )
def f183(fuel:Nat)(p0:List (Int×Int×(List (Int×(List Int)×Nat))))(p1:Int)(p2:Int):Option (Bool×(List (Int×Int×(List (Int×(List Int)×Nat))))):=
 (Aw (p1+1)).bind fun A=>
 Option.bind (iter (HV fuel p1 p2) fuel (A,0,p0)) fun K=>
 Sum.elim (fun r=>some r) (fun x14=>
 some (false,x14)
 ) K
theorem MF{A:Nat}{aa:Nat}{ab:Nat}{bh:Array Value}{p0:List (Int×Int×(List (Int×(List Int)×Nat)))}{p1:Int}{p2:Int}(hW:WL 133 (rP rI (rP rI (rL (rP rI (rP (rL rI) (rN .u16)))))) E A aa ab bh p0){fuel:Nat}{r:Bool×(List (Int×Int×(List (Int×(List Int)×Nat))))}(b3:f183 fuel p0 p1 p2=some r):Au J 183 [.slice (some ⟨A,0,none⟩) ab aa,iV p1,iV p2,(.func (.func 134) #[] #[])] E [(A,.cells bh 133 (0,0))] (fun w E' B'=>∃(b4:Array Value),w= .bool r.1∧B'= [(A,.cells b4 133 (0,0))]∧WL 133 (rP rI (rP rI (rL (rP rI (rP (rL rI) (rN .u16)))))) E' A aa ab b4 (r.2)):=by
 refine Au.en func183 rfl rfl fun Q fJ cs H dg bi=>?_;unfold f183 at b3;obtain⟨dh,di,dj⟩:=bs b3;refine JL.go 7 rfl ?_;refine JL.Y rfl (fun ρ h=>Yl.A1 (h _ _ rfl) (h _ _ rfl) di) ?_;obtain⟨b5,dk,bj⟩:=bs dj;refine JL.go 7 rfl ?_;refine JL.join (fun L s=>∃(x14:(List (Int×Int×(List (Int×(List Int)×Nat))))) (bk:LH) (f18:Array Value),b5=Sum.inr x14∧Jn E H bk [[(A,.cells f18 133 (0,0))]] [] L s (WL 133 (rP rI (rP rI (rL (rP rI (rP (rL rI) (rN .u16)))))) bk A aa ab f18 (x14))) ?_ ?_
 ·rintro _ _ ⟨x14,bk,f18,rfl,rfl,rfl,dl,dm,dn⟩;have dp:=elim_inr bj;refine JL.go 4 rfl ?_;obtain rfl:=oi dp;refine JL.rt func183 rfl rfl ?_;exact bi _ _ _ _ dl rfl ⟨f18,rfl,(by first | rfl | simp | (simp [Value.cells])),dn⟩ dm
 ·intro dq;refine JL.block ?_;refine JL.wk [(0,.slice (some ⟨A,0,none⟩) ab aa),(1,iV p1),(2,iV p2),(3,(.func (.func 134) #[] #[])),(9,iV dh),(10,iV 0)] rfl ?_;refine JL.Bg dk (fun L s ag=>∃(aI:LH) (f27:Array Value),Jn E H aI [[(A,.cells f27 133 (0,0))]] [(0,.slice (some ⟨A,0,none⟩) ab aa),(1,iV p1),(2,iV p2),(3,(.func (.func 134) #[] #[])),(9,iV ag.1),(10,iV ag.2.1)] L s (WL 133 (rP rI (rP rI (rL (rP rI (rP (rL rI) (rN .u16)))))) aI A aa ab f27 (ag.2.2))) ⟨E,bh,rfl,rfl,(Le.refl _),dg,hW⟩ ?_;rintro _ _ ag ⟨aI,f27,rfl,rfl,a1,b6,ai⟩ bl ⟨fK,aN⟩ dr;have bm:=aN;unfold HV at bm;refine JL.go 6 rfl ?_;refine JL.ifs (p:=ag.2.1<5) rfl (fun bn=>?_) (fun bn=>?_)
  ·have b7:=bm;rw [if_pos bn] at b7;obtain⟨ah,dt,b8⟩:=bs b7;refine JL.go 4 rfl ?_;refine JL.join (fun L s=>∃(aJ:LH),Jm aI H aJ [[(A,.cells f27 133 (0,0))]] [(0,.slice (some ⟨A,0,none⟩) ab aa),(1,iV p1),(2,iV p2),(3,(.func (.func 134) #[] #[])),(9,iV ah),(10,iV ag.2.1)] L s) ?_ ?_
   ·rintro _ _ ⟨aJ,rfl,rfl,aA,aO⟩;refine JL.go 7 rfl ?_;refine JL.ifs (p:=ah=p2) rfl (fun bo=>?_) (fun bo=>?_)
    ·have b9:=b8;rw [if_pos bo] at b9;refine JL.go 4 rfl ?_;obtain rfl:=oi b9;obtain rfl:=bl _ aN;have du:=elim_inl bj;obtain rfl:=oi du;refine JL.rt func183 rfl rfl ?_;exact bi _ _ _ _ (a1.trans aA) rfl ⟨f27,rfl,(by first | rfl | simp | (simp [Value.cells])),(ai.mono aA)⟩ aO
    ·have ca:=b8;rw [if_neg bo] at ca;obtain⟨dv,dw,cb⟩:=bs ca;refine JL.go 6 rfl ?_;refine JL.Y rfl (fun ρ h=>Yl.A4 (h _ _ rfl) (h _ _ rfl) dw) ?_;refine JL.go 2 rfl ?_;refine JL.ifs (p:=dv<50) rfl (fun bp=>?_) (fun bp=>?_)
     ·have cc:=cb;rw [if_pos bp] at cc;refine JL.go 4 rfl ?_;obtain rfl:=oi cc;obtain rfl:=bl _ aN;have dx:=elim_inl bj;obtain rfl:=oi dx;refine JL.rt func183 rfl rfl ?_;exact bi _ _ _ _ (a1.trans aA) rfl ⟨f27,rfl,(by first | rfl | simp | (simp [Value.cells])),(ai.mono aA)⟩ aO
     ·have cd:=cb;rw [if_neg bp] at cd;refine JL.go 2 rfl ?_;refine JB.draw [15,17] [A] mixed rfl ?_;refine JB.mv 0 rfl rfl ?_;refine JB.mv 1 rfl rfl ?_;refine JB.mv 2 rfl rfl ?_;refine JB.mv 3 rfl rfl ?_;obtain⟨aP,dy,dz⟩:=bs cd;refine JB.V 4 true rfl rfl (fun ρ h s' hs=>Yl.A4 (h _ _ rfl) (h _ _ rfl) dy) ?_;refine JB.mv 5 rfl rfl ?_;refine JB.mv 6 rfl rfl ?_;obtain⟨dA,dB,dC⟩:=bs dz;refine JB.V 7 true rfl rfl (fun ρ h s' hs=>Yl.A4 (h _ _ rfl) (h _ _ rfl) dB) ?_;obtain⟨U,ce,dD⟩:=bs dC;obtain⟨_,⟨_,_,rfl,rfl,⟨_,_,rfl,rfl,⟨an,ao,rfl,dE⟩⟩⟩,bq⟩:=WL.at (ai.mono aA) ce;replace bq:∀(j:Nat) w,[iV U.1,iV U.2.1,.slice an (U.2.2).length ao][j]? =some w→f27[Int.toNat (dA)*3+j]? =some w:=bq;refine JB.V 8 true rfl rfl (fun ρ h s' hs=>Yl.A7 ai.2 ce underlying130 (Ah type133) (h _ _ rfl) (h _ _ rfl)) ?_;refine JB.val (v:= .agg #[iV U.1,iV U.2.1,.slice an (U.2.2).length ao]) 9 false rfl (by decide+kernel) rfl rfl rfl (fun ρ h s' hs=>have hs:=hs rfl;Yl.Bh (vs:= [iV U.1,iV U.2.1,.slice an (U.2.2).length ao]) (Ao underlying133) (Ah type133) (h _ _ rfl) (fun q w ae=>by rw [Ba rfl];exact Bb 0 aO rfl (by simp [AD]) hs (bq q w ae))) ?_;refine JB.mv 10 rfl rfl ?_;refine JB.mv 11 rfl rfl ?_;obtain⟨ac,a2,dF⟩:=bs dD;obtain⟨_,⟨_,_,rfl,rfl,⟨_,_,rfl,rfl,⟨aB,aC,rfl,dG⟩⟩⟩,br⟩:=WL.at (ai.mono aA) a2;replace br:∀(j:Nat) w,[iV ac.1,iV ac.2.1,.slice aB (ac.2.2).length aC][j]? =some w→f27[Int.toNat (ah)*3+j]? =some w:=br;refine JB.V 12 true rfl rfl (fun ρ h s' hs=>Yl.A7 ai.2 a2 underlying130 (Ah type133) (h _ _ rfl) (h _ _ rfl)) ?_;refine JB.val (v:= .agg #[iV ac.1,iV ac.2.1,.slice aB (ac.2.2).length aC]) 13 false rfl (by decide+kernel) rfl rfl rfl (fun ρ h s' hs=>have hs:=hs rfl;Yl.Bh (vs:= [iV ac.1,iV ac.2.1,.slice aB (ac.2.2).length aC]) (Ao underlying133) (Ah type133) (h _ _ rfl) (fun q w ae=>by rw [Ba rfl];exact Bb 0 aO rfl (by simp [AD]) hs (br q w ae))) ?_;refine JB.V 14 true rfl rfl (fun ρ h s' hs=>Yl.A7 ai.2 a2 underlying130 (Ah type133) (h _ _ rfl) (h _ _ rfl)) ?_;have aQ:=WL.put (x':=U) (ws':= [iV U.1,iV U.2.1,.slice an (U.2.2).length ao]) (ai.mono aA) ai.2 a2 ⟨_,_,rfl,rfl,⟨_,_,rfl,rfl,⟨_,_,rfl,dE⟩⟩⟩;refine JB.store (v:= .agg #[iV U.1,iV U.2.1,.slice an (U.2.2).length ao]) (off:=Int.toNat (ah)*3) 15 0 (by decide+kernel) (by decide+kernel) rfl rfl rfl aO rfl rfl (Ah type133) (by simp [Value.cells,Bs]) rfl aQ.2 fun dH=>?_;obtain⟨bu,bv,dI⟩:=bs dF;obtain⟨_,⟨_,_,rfl,rfl,⟨_,_,rfl,rfl,⟨dJ,dK,rfl,fL⟩⟩⟩,cf⟩:=WL.at aQ.1 bv;replace cf:∀(j:Nat) w,[iV bu.1,iV bu.2.1,.slice dJ (bu.2.2).length dK][j]? =some w→(AL f27 (Int.toNat (ah)*3) [iV U.1,iV U.2.1,.slice an (U.2.2).length ao])[Int.toNat (aP)*3+j]? =some w:=cf;refine JB.V 16 true rfl rfl (fun ρ h s' hs=>Yl.A7 (aQ.1).2 bv underlying130 (Ah type133) (h _ _ rfl) (h _ _ rfl)) ?_;have bw:=WL.put (x':=ac) (ws':= [iV ac.1,iV ac.2.1,.slice aB (ac.2.2).length aC]) aQ.1 (aQ.1).2 bv ⟨_,_,rfl,rfl,⟨_,_,rfl,rfl,⟨_,_,rfl,dG⟩⟩⟩;refine JB.store (v:= .agg #[iV ac.1,iV ac.2.1,.slice aB (ac.2.2).length aC]) (off:=Int.toNat (aP)*3) 17 0 (by decide+kernel) (by decide+kernel) rfl rfl rfl dH rfl rfl (Ah type133) (by simp [Value.cells,Bs]) rfl bw.2 fun dL=>?_;refine JB.fin (by decide+kernel) ?_;refine JS.norm (S':= [[(A,.cells (AL (AL f27 (Int.toNat (ah)*3) [iV U.1,iV U.2.1,.slice an (U.2.2).length ao]) (Int.toNat (aP)*3) [iV ac.1,iV ac.2.1,.slice aB (ac.2.2).length aC]) 133 (0,0))]]) rfl dL fun cg=>?_;obtain⟨dM,dN,dO⟩:=bs dI;refine JL.go 5 rfl ?_;refine JL.Y rfl (fun ρ h=>Yl.A4 (h _ _ rfl) (h _ _ rfl) dN) ?_;obtain⟨dP,ci,dQ⟩:=bs dO;refine JL.go 2 rfl ?_;refine JL.join (fun L s=>∃(aD:LH) (f99:Array Value),Jn aJ H aD [[(A,.cells f99 133 (0,0))]] [(0,.slice (some ⟨A,0,none⟩) ab aa),(1,iV p1),(2,iV p2),(3,(.func (.func 134) #[] #[])),(9,iV ah),(10,iV ag.2.1)] L s (WL 133 (rP rI (rP rI (rL (rP rI (rP (rL rI) (rN .u16)))))) aD A aa ab f99 (dP))) ?_ ?_
      ·rintro _ _ ⟨aD,f99,rfl,rfl,dR,ck,cm⟩;obtain⟨dS,dT,dU⟩:=bs dQ;refine JL.go 4 rfl ?_;refine JL.Y rfl (fun ρ h=>Yl.A4 (h _ _ rfl) (h _ _ rfl) dT) ?_;obtain⟨cn,co,dV⟩:=bs dU;refine JL.go 2 rfl ?_;refine JL.join (fun L s=>∃(a3:LH) (f109:Array Value),Jn aD H a3 [[(A,.cells f109 133 (0,0))]] [(0,.slice (some ⟨A,0,none⟩) ab aa),(1,iV p1),(2,iV p2),(3,(.func (.func 134) #[] #[])),(9,iV ah),(10,iV ag.2.1)] L s (WL 133 (rP rI (rP rI (rL (rP rI (rP (rL rI) (rN .u16)))))) a3 A aa ab f109 (cn))) ?_ ?_
       ·rintro _ _ ⟨a3,f109,rfl,rfl,dW,dX,dY⟩;obtain⟨dZ,ea,eb⟩:=bs dV;refine JL.go 3 rfl ?_;refine JL.Y rfl (fun ρ h=>Yl.A1 (h _ _ rfl) (h _ _ rfl) ea) ?_;refine JL.go 2 rfl ?_;obtain rfl:=oi eb;exact JL.kw (dr _ _ (ah,dZ,cn) ⟨a3,f109,rfl,rfl,(((a1.trans aA).trans dR).trans dW),dX,dY⟩ aN) rfl
       ·intro cp;refine JL.ifs (p:=2≤dS) rfl (fun bx=>?_) (fun bx=>?_)
        ·have cq:=co;rw [if_pos bx] at cq;obtain⟨ec,ed,ee⟩:=bs cq;refine JL.go 3 rfl ?_;refine JL.Y rfl (fun ρ h=>Yl.A1 (h _ _ rfl) (h _ _ rfl) ed) ?_;obtain⟨ef,eg,eh⟩:=bs ee;refine JL.go 2 rfl ?_;refine JL.join (fun L s=>∃(a4:LH) (f134:Array Value),Jn aD H a4 [[(A,.cells f134 133 (0,0))]] [(0,.slice (some ⟨A,0,none⟩) ab aa),(1,iV p1),(2,iV p2),(3,(.func (.func 134) #[] #[])),(9,iV ah),(10,iV ag.2.1)] L s (WL 133 (rP rI (rP rI (rL (rP rI (rP (rL rI) (rN .u16)))))) a4 A aa ab f134 (ef))) ?_ ?_
         ·rintro _ _ ⟨a4,f134,rfl,rfl,ei,ej,ek⟩;obtain rfl:=oi eh;exact JL.kw (cp _ _ ⟨a4,f134,rfl,rfl,ei,ej,ek⟩) rfl
         ·intro cr;refine JL.block ?_;refine JL.wk [(0,.slice (some ⟨A,0,none⟩) ab aa),(1,iV p1),(2,iV p2),(3,(.func (.func 134) #[] #[])),(9,iV ah),(10,iV ag.2.1),(12,iV ec)] rfl ?_;refine JL.Bg eg (fun L s al=>∃(a5:LH) (f142:Array Value),Jn aD H a5 [[(A,.cells f142 133 (0,0))]] [(0,.slice (some ⟨A,0,none⟩) ab aa),(1,iV p1),(2,iV p2),(3,(.func (.func 134) #[] #[])),(9,iV ah),(10,iV ag.2.1),(12,iV al.1)] L s (WL 133 (rP rI (rP rI (rL (rP rI (rP (rL rI) (rN .u16)))))) a5 A aa ab f142 (al.2))) ⟨aD,f99,rfl,rfl,(Le.refl _),ck,cm⟩ ?_;rintro _ _ al ⟨a5,f142,rfl,rfl,bz,aR,aj⟩ ct ⟨fM,a6⟩ el;have bA:=a6;unfold LN at bA;refine JL.go 7 rfl ?_;refine JL.ifs (p:=al.1<p2) rfl (fun bB=>?_) (fun bB=>?_)
          ·have cu:=bA;rw [if_pos bB] at cu;refine JL.go 5 rfl ?_;refine JG.BX 10 [A] ⟨⟨0,_,rfl⟩,trivial⟩ aR mixed rfl (by decide+kernel) fun ht=>?_;refine JG.mv 0 ht rfl rfl ?_;refine JG.mv 1 ht rfl rfl ?_;refine JG.mv 2 ht rfl rfl ?_;obtain⟨K,aS,em⟩:=bs cu;obtain⟨_,⟨_,_,rfl,rfl,⟨_,_,rfl,rfl,⟨ap,aq,rfl,cv⟩⟩⟩,a7⟩:=WL.at aj aS;replace a7:∀(j:Nat) w,[iV K.1,iV K.2.1,.slice ap (K.2.2).length aq][j]? =some w→f142[Int.toNat (al.1)*3+j]? =some w:=a7;refine JG.V 3 ht rfl rfl (fun ρ h s' hs=>Yl.A7 (aj).2 aS underlying130 (Ah type133) (h _ _ rfl) (h _ _ rfl)) ?_;refine JG.V 4 ht rfl rfl (fun ρ h s' hs=>Yl.Bh (vs:= [iV K.1,iV K.2.1,.slice ap (K.2.2).length aq]) (Ao underlying133) (Ah type133) (h _ _ rfl) (fun q w ae=>by rw [Ba rfl];exact Bb 0 aR rfl (by simp [AD]) hs (a7 q w ae))) ?_;refine JG.mv 5 ht rfl rfl ?_;refine JG.mv 6 ht rfl rfl ?_;obtain⟨eo,ep,eq⟩:=bs em;refine JG.V 7 ht rfl rfl (fun ρ h s' hs=>Yl.A4 (h _ _ rfl) (h _ _ rfl) ep) ?_;obtain⟨ar,cw,er⟩:=bs eq;obtain⟨_,⟨_,_,rfl,rfl,⟨_,_,rfl,rfl,⟨bC,bD,rfl,et⟩⟩⟩,bE⟩:=WL.at aj cw;replace bE:∀(j:Nat) w,[iV ar.1,iV ar.2.1,.slice bC (ar.2.2).length bD][j]? =some w→f142[Int.toNat (eo)*3+j]? =some w:=bE;refine JG.V 8 ht rfl rfl (fun ρ h s' hs=>Yl.A7 (aj).2 cw underlying130 (Ah type133) (h _ _ rfl) (h _ _ rfl)) ?_;refine JG.V 9 ht rfl rfl (fun ρ h s' hs=>Yl.Bh (vs:= [iV ar.1,iV ar.2.1,.slice bC (ar.2.2).length bD]) (Ao underlying133) (Ah type133) (h _ _ rfl) (fun q w ae=>by rw [Ba rfl];exact Bb 0 aR rfl (by simp [AD]) hs (bE q w ae))) ?_;refine Av.leaf (tail:= [10,11,12]) (by decide+kernel) (fun t=>A3 (by decide+kernel) (A3 (by decide+kernel) (A3 (by decide+kernel) BE)) t) ?_;obtain⟨cy,eu,cz⟩:=bs er;refine JS.FZ (vs:= [.agg #[iV K.1,iV K.2.1,.slice ap (K.2.2).length aq],.agg #[iV ar.1,iV ar.2.1,.slice bC (ar.2.2).length bD]]) (Ec cv et eu) rfl rfl rfl rfl (Ay func134 rfl) rfl aR ?_;rintro _ cA _ aK ⟨rfl,rfl⟩ a8;refine JL.go 1 rfl ?_;refine JL.Y (v:= .bool (decide (¬(cy<0)))) rfl (fun ρ h=>Yl.F1 (h _ _ rfl)) ?_;refine JL.done ?_;refine JL.ifs (p:=¬(cy<0)) rfl (fun bF=>?_) (fun bF=>?_)
           ·have cB:=cz;rw [if_pos bF] at cB;refine JL.exit rfl ?_;obtain rfl:=oi cB;obtain rfl:=ct _ a6;exact JL.kw (cr _ _ ⟨cA,f142,rfl,rfl,(bz.trans aK),a8,(aj.mono aK)⟩) rfl
           ·have cC:=cz;rw [if_neg bF] at cC;refine JL.skip ?_;refine JB.draw [15,17] [A] mixed rfl ?_;refine JB.mv 0 rfl rfl ?_;refine JB.mv 1 rfl rfl ?_;refine JB.mv 2 rfl rfl ?_;refine JB.mv 3 rfl rfl ?_;obtain⟨aT,ew,ex⟩:=bs cC;refine JB.V 4 true rfl rfl (fun ρ h s' hs=>Yl.A4 (h _ _ rfl) (h _ _ rfl) ew) ?_;refine JB.mv 5 rfl rfl ?_;refine JB.mv 6 rfl rfl ?_;obtain⟨ey,ez,eA⟩:=bs ex;refine JB.V 7 true rfl rfl (fun ρ h s' hs=>Yl.A4 (h _ _ rfl) (h _ _ rfl) ez) ?_;obtain⟨W,cD,eB⟩:=bs eA;obtain⟨_,⟨_,_,rfl,rfl,⟨_,_,rfl,rfl,⟨aE,aF,rfl,eC⟩⟩⟩,bG⟩:=WL.at (aj.mono aK) cD;replace bG:∀(j:Nat) w,[iV W.1,iV W.2.1,.slice aE (W.2.2).length aF][j]? =some w→f142[Int.toNat (ey)*3+j]? =some w:=bG;refine JB.V 8 true rfl rfl (fun ρ h s' hs=>Yl.A7 aj.2 cD underlying130 (Ah type133) (h _ _ rfl) (h _ _ rfl)) ?_;refine JB.val (v:= .agg #[iV W.1,iV W.2.1,.slice aE (W.2.2).length aF]) 9 false rfl (by decide+kernel) rfl rfl rfl (fun ρ h s' hs=>have hs:=hs rfl;Yl.Bh (vs:= [iV W.1,iV W.2.1,.slice aE (W.2.2).length aF]) (Ao underlying133) (Ah type133) (h _ _ rfl) (fun q w ae=>by rw [Ba rfl];exact Bb 0 a8 rfl (by simp [AD]) hs (bG q w ae))) ?_;refine JB.mv 10 rfl rfl ?_;refine JB.mv 11 rfl rfl ?_;refine JB.V 12 true rfl rfl (fun ρ h s' hs=>Yl.A7 aj.2 aS underlying130 (Ah type133) (h _ _ rfl) (h _ _ rfl)) ?_;refine JB.val (v:= .agg #[iV K.1,iV K.2.1,.slice ap (K.2.2).length aq]) 13 false rfl (by decide+kernel) rfl rfl rfl (fun ρ h s' hs=>have hs:=hs rfl;Yl.Bh (vs:= [iV K.1,iV K.2.1,.slice ap (K.2.2).length aq]) (Ao underlying133) (Ah type133) (h _ _ rfl) (fun q w ae=>by rw [Ba rfl];exact Bb 0 a8 rfl (by simp [AD]) hs (a7 q w ae))) ?_;refine JB.V 14 true rfl rfl (fun ρ h s' hs=>Yl.A7 aj.2 aS underlying130 (Ah type133) (h _ _ rfl) (h _ _ rfl)) ?_;have aU:=WL.put (x':=W) (ws':= [iV W.1,iV W.2.1,.slice aE (W.2.2).length aF]) (aj.mono aK) aj.2 aS ⟨_,_,rfl,rfl,⟨_,_,rfl,rfl,⟨_,_,rfl,eC⟩⟩⟩;refine JB.store (v:= .agg #[iV W.1,iV W.2.1,.slice aE (W.2.2).length aF]) (off:=Int.toNat (al.1)*3) 15 0 (by decide+kernel) (by decide+kernel) rfl rfl rfl a8 rfl rfl (Ah type133) (by simp [Value.cells,Bs]) rfl aU.2 fun eD=>?_;obtain⟨bH,bI,eE⟩:=bs eB;obtain⟨_,⟨_,_,rfl,rfl,⟨_,_,rfl,rfl,⟨eF,eG,rfl,fN⟩⟩⟩,cE⟩:=WL.at aU.1 bI;replace cE:∀(j:Nat) w,[iV bH.1,iV bH.2.1,.slice eF (bH.2.2).length eG][j]? =some w→(AL f142 (Int.toNat (al.1)*3) [iV W.1,iV W.2.1,.slice aE (W.2.2).length aF])[Int.toNat (aT)*3+j]? =some w:=cE;refine JB.V 16 true rfl rfl (fun ρ h s' hs=>Yl.A7 (aU.1).2 bI underlying130 (Ah type133) (h _ _ rfl) (h _ _ rfl)) ?_;have cF:=WL.put (x':=K) (ws':= [iV K.1,iV K.2.1,.slice ap (K.2.2).length aq]) aU.1 (aU.1).2 bI ⟨_,_,rfl,rfl,⟨_,_,rfl,rfl,⟨_,_,rfl,(cv.mono aK)⟩⟩⟩;refine JB.store (v:= .agg #[iV K.1,iV K.2.1,.slice ap (K.2.2).length aq]) (off:=Int.toNat (aT)*3) 17 0 (by decide+kernel) (by decide+kernel) rfl rfl rfl eD rfl rfl (Ah type133) (by simp [Value.cells,Bs]) rfl cF.2 fun eH=>?_;refine JB.fin (by decide+kernel) ?_;refine JS.norm (S':= [[(A,.cells (AL (AL f142 (Int.toNat (al.1)*3) [iV W.1,iV W.2.1,.slice aE (W.2.2).length aF]) (Int.toNat (aT)*3) [iV K.1,iV K.2.1,.slice ap (K.2.2).length aq]) 133 (0,0))],[]]) rfl eH fun eI=>?_;obtain⟨eJ,eK,eL⟩:=bs eE;refine JL.go 3 rfl ?_;refine JL.Y rfl (fun ρ h=>Yl.A1 (h _ _ rfl) (h _ _ rfl) eK) ?_;refine JL.go 2 rfl ?_;obtain rfl:=oi eL;exact JL.kw (el _ _ (eJ,((al.2.set (Int.toNat al.1) W).set (Int.toNat aT) K)) ⟨cA,(AL (AL f142 (Int.toNat (al.1)*3) [iV W.1,iV W.2.1,.slice aE (W.2.2).length aF]) (Int.toNat (aT)*3) [iV K.1,iV K.2.1,.slice ap (K.2.2).length aq]),rfl,rfl,(bz.trans aK),eI,cF.1⟩ a6) rfl
          ·have cG:=bA;rw [if_neg bB] at cG;refine JL.exit rfl ?_;obtain rfl:=oi cG;obtain rfl:=ct _ a6;exact JL.kw (cr _ _ ⟨a5,f142,rfl,rfl,bz,aR,aj⟩) rfl
        ·have cH:=co;rw [if_neg bx] at cH;refine JL.skip ?_;obtain rfl:=oi cH;exact JL.kw (cp _ _ ⟨aD,f99,rfl,rfl,(Le.refl _),ck,cm⟩) rfl
      ·intro cI;refine JL.ifs (p:=2≤dM) rfl (fun bJ=>?_) (fun bJ=>?_)
       ·have cJ:=ci;rw [if_pos bJ] at cJ;obtain⟨eM,eN,eO⟩:=bs cJ;refine JL.go 3 rfl ?_;refine JL.Y rfl (fun ρ h=>Yl.A4 (h _ _ rfl) (h _ _ rfl) eN) ?_;obtain⟨eP,eQ,eR⟩:=bs eO;refine JL.go 2 rfl ?_;refine JL.join (fun L s=>∃(a9:LH) (f224:Array Value),Jn aJ H a9 [[(A,.cells f224 133 (0,0))]] [(0,.slice (some ⟨A,0,none⟩) ab aa),(1,iV p1),(2,iV p2),(3,(.func (.func 134) #[] #[])),(9,iV ah),(10,iV ag.2.1)] L s (WL 133 (rP rI (rP rI (rL (rP rI (rP (rL rI) (rN .u16)))))) a9 A aa ab f224 (eP))) ?_ ?_
        ·rintro _ _ ⟨a9,f224,rfl,rfl,eS,eT,eU⟩;obtain rfl:=oi eR;exact JL.kw (cI _ _ ⟨a9,f224,rfl,rfl,eS,eT,eU⟩) rfl
        ·intro cK;refine JL.block ?_;refine JL.wk [(0,.slice (some ⟨A,0,none⟩) ab aa),(1,iV p1),(2,iV p2),(3,(.func (.func 134) #[] #[])),(9,iV ah),(10,iV ag.2.1),(11,iV eM)] rfl ?_;refine JL.Bg eQ (fun L s am=>∃(ba:LH) (f232:Array Value),Jn aJ H ba [[(A,.cells f232 133 (0,0))]] [(0,.slice (some ⟨A,0,none⟩) ab aa),(1,iV p1),(2,iV p2),(3,(.func (.func 134) #[] #[])),(9,iV ah),(10,iV ag.2.1),(11,iV am.1)] L s (WL 133 (rP rI (rP rI (rL (rP rI (rP (rL rI) (rN .u16)))))) ba A aa ab f232 (am.2))) ⟨aJ,(AL (AL f27 (Int.toNat (ah)*3) [iV U.1,iV U.2.1,.slice an (U.2.2).length ao]) (Int.toNat (aP)*3) [iV ac.1,iV ac.2.1,.slice aB (ac.2.2).length aC]),rfl,rfl,(Le.refl _),cg,bw.1⟩ ?_;rintro _ _ am ⟨ba,f232,rfl,rfl,bK,aV,ak⟩ cM ⟨fO,bb⟩ eV;have bL:=bb;unfold LQ at bL;refine JL.go 6 rfl ?_;refine JL.ifs (p:=1≤am.1) rfl (fun bM=>?_) (fun bM=>?_)
         ·have cN:=bL;rw [if_pos bM] at cN;refine JL.go 5 rfl ?_;refine JG.BX 10 [A] ⟨⟨0,_,rfl⟩,trivial⟩ aV mixed rfl (by decide+kernel) fun ht=>?_;refine JG.mv 0 ht rfl rfl ?_;refine JG.mv 1 ht rfl rfl ?_;refine JG.mv 2 ht rfl rfl ?_;obtain⟨O,aW,eW⟩:=bs cN;obtain⟨_,⟨_,_,rfl,rfl,⟨_,_,rfl,rfl,⟨au,av,rfl,cO⟩⟩⟩,bc⟩:=WL.at ak aW;replace bc:∀(j:Nat) w,[iV O.1,iV O.2.1,.slice au (O.2.2).length av][j]? =some w→f232[Int.toNat (am.1)*3+j]? =some w:=bc;refine JG.V 3 ht rfl rfl (fun ρ h s' hs=>Yl.A7 (ak).2 aW underlying130 (Ah type133) (h _ _ rfl) (h _ _ rfl)) ?_;refine JG.V 4 ht rfl rfl (fun ρ h s' hs=>Yl.Bh (vs:= [iV O.1,iV O.2.1,.slice au (O.2.2).length av]) (Ao underlying133) (Ah type133) (h _ _ rfl) (fun q w ae=>by rw [Ba rfl];exact Bb 0 aV rfl (by simp [AD]) hs (bc q w ae))) ?_;refine JG.mv 5 ht rfl rfl ?_;refine JG.mv 6 ht rfl rfl ?_;obtain⟨eX,eY,eZ⟩:=bs eW;refine JG.V 7 ht rfl rfl (fun ρ h s' hs=>Yl.A4 (h _ _ rfl) (h _ _ rfl) eY) ?_;obtain⟨aw,cP,e0⟩:=bs eZ;obtain⟨_,⟨_,_,rfl,rfl,⟨_,_,rfl,rfl,⟨bN,bO,rfl,e1⟩⟩⟩,bP⟩:=WL.at ak cP;replace bP:∀(j:Nat) w,[iV aw.1,iV aw.2.1,.slice bN (aw.2.2).length bO][j]? =some w→f232[Int.toNat (eX)*3+j]? =some w:=bP;refine JG.V 8 ht rfl rfl (fun ρ h s' hs=>Yl.A7 (ak).2 cP underlying130 (Ah type133) (h _ _ rfl) (h _ _ rfl)) ?_;refine JG.V 9 ht rfl rfl (fun ρ h s' hs=>Yl.Bh (vs:= [iV aw.1,iV aw.2.1,.slice bN (aw.2.2).length bO]) (Ao underlying133) (Ah type133) (h _ _ rfl) (fun q w ae=>by rw [Ba rfl];exact Bb 0 aV rfl (by simp [AD]) hs (bP q w ae))) ?_;refine Av.leaf (tail:= [10,11,12]) (by decide+kernel) (fun t=>A3 (by decide+kernel) (A3 (by decide+kernel) (A3 (by decide+kernel) BE)) t) ?_;obtain⟨cQ,e2,cR⟩:=bs e0;refine JS.FZ (vs:= [.agg #[iV O.1,iV O.2.1,.slice au (O.2.2).length av],.agg #[iV aw.1,iV aw.2.1,.slice bN (aw.2.2).length bO]]) (Ec cO e1 e2) rfl rfl rfl rfl (Ay func134 rfl) rfl aV ?_;rintro _ cT _ aL ⟨rfl,rfl⟩ bd;refine JL.go 1 rfl ?_;refine JL.Y (v:= .bool (decide (¬(cQ<0)))) rfl (fun ρ h=>Yl.F1 (h _ _ rfl)) ?_;refine JL.done ?_;refine JL.ifs (p:=¬(cQ<0)) rfl (fun bQ=>?_) (fun bQ=>?_)
          ·have cV:=cR;rw [if_pos bQ] at cV;refine JL.exit rfl ?_;obtain rfl:=oi cV;obtain rfl:=cM _ bb;exact JL.kw (cK _ _ ⟨cT,f232,rfl,rfl,(bK.trans aL),bd,(ak.mono aL)⟩) rfl
          ·have cW:=cR;rw [if_neg bQ] at cW;refine JL.skip ?_;refine JB.draw [15,17] [A] mixed rfl ?_;refine JB.mv 0 rfl rfl ?_;refine JB.mv 1 rfl rfl ?_;refine JB.mv 2 rfl rfl ?_;refine JB.mv 3 rfl rfl ?_;obtain⟨aX,e3,e4⟩:=bs cW;refine JB.V 4 true rfl rfl (fun ρ h s' hs=>Yl.A4 (h _ _ rfl) (h _ _ rfl) e3) ?_;refine JB.mv 5 rfl rfl ?_;refine JB.mv 6 rfl rfl ?_;obtain⟨e5,e6,e7⟩:=bs e4;refine JB.V 7 true rfl rfl (fun ρ h s' hs=>Yl.A4 (h _ _ rfl) (h _ _ rfl) e6) ?_;obtain⟨Z,cX,e8⟩:=bs e7;obtain⟨_,⟨_,_,rfl,rfl,⟨_,_,rfl,rfl,⟨aG,aH,rfl,e9⟩⟩⟩,bR⟩:=WL.at (ak.mono aL) cX;replace bR:∀(j:Nat) w,[iV Z.1,iV Z.2.1,.slice aG (Z.2.2).length aH][j]? =some w→f232[Int.toNat (e5)*3+j]? =some w:=bR;refine JB.V 8 true rfl rfl (fun ρ h s' hs=>Yl.A7 ak.2 cX underlying130 (Ah type133) (h _ _ rfl) (h _ _ rfl)) ?_;refine JB.val (v:= .agg #[iV Z.1,iV Z.2.1,.slice aG (Z.2.2).length aH]) 9 false rfl (by decide+kernel) rfl rfl rfl (fun ρ h s' hs=>have hs:=hs rfl;Yl.Bh (vs:= [iV Z.1,iV Z.2.1,.slice aG (Z.2.2).length aH]) (Ao underlying133) (Ah type133) (h _ _ rfl) (fun q w ae=>by rw [Ba rfl];exact Bb 0 bd rfl (by simp [AD]) hs (bR q w ae))) ?_;refine JB.mv 10 rfl rfl ?_;refine JB.mv 11 rfl rfl ?_;refine JB.V 12 true rfl rfl (fun ρ h s' hs=>Yl.A7 ak.2 aW underlying130 (Ah type133) (h _ _ rfl) (h _ _ rfl)) ?_;refine JB.val (v:= .agg #[iV O.1,iV O.2.1,.slice au (O.2.2).length av]) 13 false rfl (by decide+kernel) rfl rfl rfl (fun ρ h s' hs=>have hs:=hs rfl;Yl.Bh (vs:= [iV O.1,iV O.2.1,.slice au (O.2.2).length av]) (Ao underlying133) (Ah type133) (h _ _ rfl) (fun q w ae=>by rw [Ba rfl];exact Bb 0 bd rfl (by simp [AD]) hs (bc q w ae))) ?_;refine JB.V 14 true rfl rfl (fun ρ h s' hs=>Yl.A7 ak.2 aW underlying130 (Ah type133) (h _ _ rfl) (h _ _ rfl)) ?_;have aY:=WL.put (x':=Z) (ws':= [iV Z.1,iV Z.2.1,.slice aG (Z.2.2).length aH]) (ak.mono aL) ak.2 aW ⟨_,_,rfl,rfl,⟨_,_,rfl,rfl,⟨_,_,rfl,e9⟩⟩⟩;refine JB.store (v:= .agg #[iV Z.1,iV Z.2.1,.slice aG (Z.2.2).length aH]) (off:=Int.toNat (am.1)*3) 15 0 (by decide+kernel) (by decide+kernel) rfl rfl rfl bd rfl rfl (Ah type133) (by simp [Value.cells,Bs]) rfl aY.2 fun fa=>?_;obtain⟨bS,bT,fb⟩:=bs e8;obtain⟨_,⟨_,_,rfl,rfl,⟨_,_,rfl,rfl,⟨fc,fe,rfl,fP⟩⟩⟩,cY⟩:=WL.at aY.1 bT;replace cY:∀(j:Nat) w,[iV bS.1,iV bS.2.1,.slice fc (bS.2.2).length fe][j]? =some w→(AL f232 (Int.toNat (am.1)*3) [iV Z.1,iV Z.2.1,.slice aG (Z.2.2).length aH])[Int.toNat (aX)*3+j]? =some w:=cY;refine JB.V 16 true rfl rfl (fun ρ h s' hs=>Yl.A7 (aY.1).2 bT underlying130 (Ah type133) (h _ _ rfl) (h _ _ rfl)) ?_;have cZ:=WL.put (x':=O) (ws':= [iV O.1,iV O.2.1,.slice au (O.2.2).length av]) aY.1 (aY.1).2 bT ⟨_,_,rfl,rfl,⟨_,_,rfl,rfl,⟨_,_,rfl,(cO.mono aL)⟩⟩⟩;refine JB.store (v:= .agg #[iV O.1,iV O.2.1,.slice au (O.2.2).length av]) (off:=Int.toNat (aX)*3) 17 0 (by decide+kernel) (by decide+kernel) rfl rfl rfl fa rfl rfl (Ah type133) (by simp [Value.cells,Bs]) rfl cZ.2 fun ff=>?_;refine JB.fin (by decide+kernel) ?_;refine JS.norm (S':= [[(A,.cells (AL (AL f232 (Int.toNat (am.1)*3) [iV Z.1,iV Z.2.1,.slice aG (Z.2.2).length aH]) (Int.toNat (aX)*3) [iV O.1,iV O.2.1,.slice au (O.2.2).length av]) 133 (0,0))],[]]) rfl ff fun fg=>?_;obtain⟨fh,fj,fk⟩:=bs fb;refine JL.go 3 rfl ?_;refine JL.Y rfl (fun ρ h=>Yl.A4 (h _ _ rfl) (h _ _ rfl) fj) ?_;refine JL.go 2 rfl ?_;obtain rfl:=oi fk;exact JL.kw (eV _ _ (fh,((am.2.set (Int.toNat am.1) Z).set (Int.toNat aX) O)) ⟨cT,(AL (AL f232 (Int.toNat (am.1)*3) [iV Z.1,iV Z.2.1,.slice aG (Z.2.2).length aH]) (Int.toNat (aX)*3) [iV O.1,iV O.2.1,.slice au (O.2.2).length av]),rfl,rfl,(bK.trans aL),fg,cZ.1⟩ bb) rfl
         ·have c0:=bL;rw [if_neg bM] at c0;refine JL.exit rfl ?_;obtain rfl:=oi c0;obtain rfl:=cM _ bb;exact JL.kw (cK _ _ ⟨ba,f232,rfl,rfl,bK,aV,ak⟩) rfl
       ·have c1:=ci;rw [if_neg bJ] at c1;refine JL.skip ?_;obtain rfl:=oi c1;exact JL.kw (cI _ _ ⟨aJ,(AL (AL f27 (Int.toNat (ah)*3) [iV U.1,iV U.2.1,.slice an (U.2.2).length ao]) (Int.toNat (aP)*3) [iV ac.1,iV ac.2.1,.slice aB (ac.2.2).length aC]),rfl,rfl,(Le.refl _),cg,bw.1⟩) rfl
   ·intro fm;refine JL.block ?_;refine JL.wk [(0,.slice (some ⟨A,0,none⟩) ab aa),(1,iV p1),(2,iV p2),(3,(.func (.func 134) #[] #[])),(9,iV ag.1),(10,iV ag.2.1)] rfl ?_;refine JL.Bg dt (fun L s aZ=>∃(bf:LH),Jm aI H bf [[(A,.cells f27 133 (0,0))]] [(0,.slice (some ⟨A,0,none⟩) ab aa),(1,iV p1),(2,iV p2),(3,(.func (.func 134) #[] #[])),(9,iV aZ),(10,iV ag.2.1)] L s) ⟨aI,rfl,rfl,(Le.refl _),b6⟩ ?_;rintro _ _ aZ ⟨bf,rfl,rfl,aM,a0⟩ fo ⟨fQ,bU⟩ fp;have c2:=bU;unfold FN at c2;refine JL.go 2 rfl ?_;refine JG.BX 18 [A] ⟨⟨0,_,rfl⟩,trivial⟩ a0 mixed rfl (by decide+kernel) fun ht=>?_;refine JG.mv 0 ht rfl rfl ?_;refine JG.mv 1 ht rfl rfl ?_;refine JG.mv 2 ht rfl rfl ?_;refine JG.mv 3 ht rfl rfl ?_;obtain⟨c3,c4,c5⟩:=bs c2;refine Av.join 0 #[true,true,true,true,true,true,true,true,true,true,true,true,true,true,true,true,true,true] (fun L s=>∃(bg:LH),Jm bf H bg [[(A,.cells f27 133 (0,0))]] [(0,.slice (some ⟨A,0,none⟩) ab aa),(1,iV p1),(2,iV p2),(3,(.func (.func 134) #[] #[])),(9,iV aZ),(10,iV ag.2.1),(36,.bool c3)] L s) ?_ ?_
    ·rintro _ _ ⟨bg,rfl,rfl,c6,c7⟩;refine Av.fin (by decide+kernel) ?_;refine JL.split (t:=c3) rfl (fun bV=>?_) (fun bV=>?_)
     ·have c8:=c5;rw [if_pos bV] at c8;obtain⟨fq,fs,fu⟩:=bs c8;refine JL.go 4 rfl ?_;refine JL.Y rfl (fun ρ h=>Yl.A1 (h _ _ rfl) (h _ _ rfl) fs) ?_;refine JL.go 3 rfl ?_;obtain rfl:=oi fu;exact JL.kw (fp _ _ fq ⟨bg,rfl,rfl,(aM.trans c6),c7⟩ bU) rfl
     ·have c9:=c5;rw [if_neg (by rw [bV];exact Bool.false_ne_true)] at c9;refine JL.exit rfl ?_;obtain rfl:=oi c9;obtain rfl:=fo _ bU;exact JL.kw (fm _ _ ⟨bg,rfl,rfl,(aM.trans c6),c7⟩) rfl
    ·intro da;refine Av.BP (q:=aZ<p2) (i:=22) rfl (fun bW=>?_) (fun bW=>?_)
     ·have db:=c4;rw [if_pos bW] at db;refine JG.mv 4 ht rfl rfl ?_;refine JG.mv 5 ht rfl rfl ?_;refine JG.mv 6 ht rfl rfl ?_;obtain⟨ay,dc,fv⟩:=bs db;obtain⟨_,⟨_,_,rfl,rfl,⟨_,_,rfl,rfl,⟨bX,bY,rfl,fw⟩⟩⟩,bZ⟩:=WL.at (ai.mono aM) dc;replace bZ:∀(j:Nat) w,[iV ay.1,iV ay.2.1,.slice bX (ay.2.2).length bY][j]? =some w→f27[Int.toNat (aZ)*3+j]? =some w:=bZ;refine JG.V 7 ht rfl rfl (fun ρ h s' hs=>Yl.A7 ((ai.mono aM)).2 dc underlying130 (Ah type133) (h _ _ rfl) (h _ _ rfl)) ?_;refine JG.V 8 ht rfl rfl (fun ρ h s' hs=>Yl.Bh (vs:= [iV ay.1,iV ay.2.1,.slice bX (ay.2.2).length bY]) (Ao underlying133) (Ah type133) (h _ _ rfl) (fun q w ae=>by rw [Ba rfl];exact Bb 0 a0 rfl (by simp [AD]) hs (bZ q w ae))) ?_;refine JG.mv 9 ht rfl rfl ?_;refine JG.mv 10 ht rfl rfl ?_;obtain⟨fx,fy,fz⟩:=bs fv;refine JG.V 11 ht rfl rfl (fun ρ h s' hs=>Yl.A4 (h _ _ rfl) (h _ _ rfl) fy) ?_;obtain⟨az,dd,fA⟩:=bs fz;obtain⟨_,⟨_,_,rfl,rfl,⟨_,_,rfl,rfl,⟨b0,b1,rfl,fB⟩⟩⟩,b2⟩:=WL.at (ai.mono aM) dd;replace b2:∀(j:Nat) w,[iV az.1,iV az.2.1,.slice b0 (az.2.2).length b1][j]? =some w→f27[Int.toNat (fx)*3+j]? =some w:=b2;refine JG.V 12 ht rfl rfl (fun ρ h s' hs=>Yl.A7 ((ai.mono aM)).2 dd underlying130 (Ah type133) (h _ _ rfl) (h _ _ rfl)) ?_;refine JG.V 13 ht rfl rfl (fun ρ h s' hs=>Yl.Bh (vs:= [iV az.1,iV az.2.1,.slice b0 (az.2.2).length b1]) (Ao underlying133) (Ah type133) (h _ _ rfl) (fun q w ae=>by rw [Ba rfl];exact Bb 0 a0 rfl (by simp [AD]) hs (b2 q w ae))) ?_;obtain⟨fC,fD,fE⟩:=bs fA;refine JG.ER (i:=14) ⟨⟨0,_,rfl⟩,trivial⟩ (vs:= [.agg #[iV ay.1,iV ay.2.1,.slice bX (ay.2.2).length bY],.agg #[iV az.1,iV az.2.1,.slice b0 (az.2.2).length b1]]) (Ec fw fB fD) (by decide+kernel) rfl rfl rfl rfl (Ay func134 rfl) rfl a0 ?_;rintro _ fF _ fG ⟨rfl,rfl⟩ fH;refine JG.mv 15 ht rfl rfl ?_;refine JG.V (v:= .bool (decide (¬(fC<0)))) 16 ht rfl rfl (fun ρ h s' hs=>Yl.F1 (h _ _ rfl)) ?_;refine JG.mv 17 ht rfl rfl ?_;obtain rfl:=oi fE;refine Av.BK ?_ (da _ _ ⟨fF,rfl,rfl,fG,fH⟩);exact⟨rfl,rfl,rfl,rfl,rfl,rfl,rfl,trivial⟩
     ·have de:=c4;rw [if_neg bW] at de;refine JG.mv 4 ht rfl rfl ?_;refine JG.mv 5 ht rfl rfl ?_;refine JG.mv 6 ht rfl rfl ?_;refine JG.mv 7 ht rfl rfl ?_;refine JG.mv 8 ht rfl rfl ?_;refine JG.mv 9 ht rfl rfl ?_;refine JG.mv 10 ht rfl rfl ?_;refine JG.mv 11 ht rfl rfl ?_;refine JG.mv 12 ht rfl rfl ?_;refine JG.mv 13 ht rfl rfl ?_;refine JG.mv 14 ht rfl rfl ?_;refine JG.mv 15 ht rfl rfl ?_;refine JG.mv 16 ht rfl rfl ?_;refine JG.mv 17 ht rfl rfl ?_;obtain rfl:=oi de;refine Av.BK ?_ (da _ _ ⟨bf,rfl,rfl,(Le.refl _),a0⟩);exact⟨rfl,rfl,rfl,rfl,rfl,rfl,rfl,trivial⟩
  ·have df:=bm;rw [if_neg bn] at df;refine JL.exit rfl ?_;obtain rfl:=oi df;have fI:b5=(Sum.inr ag.2.2):=(bl _ aN).symm;exact JL.kw (dq _ _ ⟨ag.2.2,aI,f27,fI,rfl,rfl,a1,b6,ai⟩) rfl
def GQ(fuel:Nat)(p0:List (Int×Int×(List (Int×(List Int)×Nat))))(p1:Int)(p3:Int)(K:Int×Int×(List (Int×(List Int)×Nat)))(O:Int×Int×(List (Int×(List Int)×Nat)))(U:Int)(A:Int):Option (AU (Int) (Int)):=
 Option.bind (
  if A≤U then(
   (ix ((p0.set (Int.toNat p1) K).set (Int.toNat p3) O) (A)).bind fun W=>
   (ix ((p0.set (Int.toNat p1) K).set (Int.toNat p3) O) (p1)).bind fun Z=>
   (f134 fuel W Z).bind fun aa=>
   some (decide (aa<0))
  ) else(
   some false
  )
 ) fun ab=>
 if ab=true then(
  (Aw (A+1)).bind fun ac=>
  some (.more ac)
 ) else(
  some (.done A)
 )
def GU(fuel:Nat)(p0:List (Int×Int×(List (Int×(List Int)×Nat))))(p1:Int)(p3:Int)(K:Int×Int×(List (Int×(List Int)×Nat)))(O:Int×Int×(List (Int×(List Int)×Nat)))(U:Int)(A:Int):Option (AU (Int) (Int)):=
 Option.bind (
  if U≤A then(
   (ix ((p0.set (Int.toNat p1) K).set (Int.toNat p3) O) (A)).bind fun W=>
   (ix ((p0.set (Int.toNat p1) K).set (Int.toNat p3) O) (p1)).bind fun Z=>
   (f134 fuel W Z).bind fun aa=>
   some (decide (¬(aa<0)))
  ) else(
   some false
  )
 ) fun ab=>
 if ab=true then(
  (Aw (A - 1)).bind fun ac=>
  some (.more ac)
 ) else(
  some (.done A)
 )
def Gj(fuel:Nat)(p1:Int)(K:Int×Int×(List (Int×Int×(List (Int×(List Int)×Nat)))))(A:Int):Option (AU (Int) (Int)):=
 Option.bind (
  if A≤K.2.1 then(
   (ix K.2.2 (A)).bind fun O=>
   (ix K.2.2 (p1)).bind fun U=>
   (f134 fuel O U).bind fun W=>
   some (decide (W<0))
  ) else(
   some false
  )
 ) fun Z=>
 if Z=true then(
  (Aw (A+1)).bind fun aa=>
  some (.more aa)
 ) else(
  some (.done A)
 )
def Gk(fuel:Nat)(p1:Int)(K:Int×Int×(List (Int×Int×(List (Int×(List Int)×Nat)))))(O:Int)(A:Int):Option (AU (Int) (Int)):=
 Option.bind (
  if O≤A then(
   (ix K.2.2 (A)).bind fun U=>
   (ix K.2.2 (p1)).bind fun W=>
   (f134 fuel U W).bind fun Z=>
   some (decide (¬(Z<0)))
  ) else(
   some false
  )
 ) fun aa=>
 if aa=true then(
  (Aw (A - 1)).bind fun ab=>
  some (.more ab)
 ) else(
  some (.done A)
 )
def FL(fuel:Nat)(p1:Int)(A:Int×Int×(List (Int×Int×(List (Int×(List Int)×Nat))))):Option (AU (Int×Int×(List (Int×Int×(List (Int×(List Int)×Nat))))) (Int×(List (Int×Int×(List (Int×(List Int)×Nat)))))):=
 Option.bind (iter (Gj fuel p1 A) fuel A.1) fun K=>
 Option.bind (iter (Gk fuel p1 A K) fuel A.2.1) fun O=>
 if O<K then(
  some (.done (O,A.2.2))
 ) else(
  (ix A.2.2 (O)).bind fun U=>
  (ix A.2.2 (K)).bind fun W=>
  (Aw (K+1)).bind fun Z=>
  (Aw (O - 1)).bind fun aa=>
  some (.more (Z,aa,((A.2.2.set (Int.toNat K) U).set (Int.toNat O) W)))
 )
def f185(fuel:Nat)(p0:List (Int×Int×(List (Int×(List Int)×Nat))))(p1:Int)(p2:Int)(p3:Int):Option (Int×Bool×(List (Int×Int×(List (Int×(List Int)×Nat))))):=
 (ix p0 (p3)).bind fun A=>
 (ix p0 (p1)).bind fun K=>
 (Aw (p1+1)).bind fun aa=>
 (Aw (p2 - 1)).bind fun Z=>
 Option.bind (iter (GQ fuel p0 p1 p3 A K Z) fuel aa) fun W=>
 Option.bind (iter (GU fuel p0 p1 p3 A K W) fuel Z) fun O=>
 if O<W then(
  (ix ((p0.set (Int.toNat p1) A).set (Int.toNat p3) K) (p1)).bind fun ab=>
  (ix ((p0.set (Int.toNat p1) A).set (Int.toNat p3) K) (O)).bind fun ac=>
  some (O,true,((((p0.set (Int.toNat p1) A).set (Int.toNat p3) K).set (Int.toNat O) ab).set (Int.toNat p1) ac))
 ) else(
  (ix ((p0.set (Int.toNat p1) A).set (Int.toNat p3) K) (O)).bind fun ae=>
  (ix ((p0.set (Int.toNat p1) A).set (Int.toNat p3) K) (W)).bind fun ag=>
  (Aw (W+1)).bind fun ah=>
  (Aw (O - 1)).bind fun ai=>
  Option.bind (iter (FL fuel p1) fuel (ah,ai,((((p0.set (Int.toNat p1) A).set (Int.toNat p3) K).set (Int.toNat W) ae).set (Int.toNat O) ag))) fun U=>
  (ix U.2 (p1)).bind fun aj=>
  (ix U.2 (U.1)).bind fun ak=>
  some (U.1,false,((U.2.set (Int.toNat U.1) aj).set (Int.toNat p1) ak))
 )
theorem MB{O:Nat}{Z:Nat}{aa:Nat}{ag:Array Value}{p0:List (Int×Int×(List (Int×(List Int)×Nat)))}{p1:Int}{p2:Int}{p3:Int}(hW:WL 133 (rP rI (rP rI (rL (rP rI (rP (rL rI) (rN .u16)))))) E O Z aa ag p0){fuel:Nat}{r:Int×Bool×(List (Int×Int×(List (Int×(List Int)×Nat))))}(cD:f185 fuel p0 p1 p2 p3=some r):Au J 185 [.slice (some ⟨O,0,none⟩) aa Z,iV p1,iV p2,iV p3,(.func (.func 134) #[] #[])] E [(O,.cells ag 133 (0,0))] (fun w E' B'=>∃(cE:Array Value),w= .tuple #[iV r.1,.bool r.2.1]∧B'= [(O,.cells cE 133 (0,0))]∧WL 133 (rP rI (rP rI (rL (rP rI (rP (rL rI) (rN .u16)))))) E' O Z aa cE (r.2.2)):=by
 refine Au.en func185 rfl rfl fun Q gt cs H bH cF=>?_;unfold f185 at cD;refine JL.go 6 rfl ?_;refine JB.draw [13,15] [O] mixed rfl ?_;refine JB.mv 0 rfl rfl ?_;refine JB.mv 1 rfl rfl ?_;refine JB.mv 2 rfl rfl ?_;refine JB.mv 3 rfl rfl ?_;refine JB.mv 4 rfl rfl ?_;refine JB.mv 5 rfl rfl ?_;obtain⟨A,bm,dT⟩:=bs cD;obtain⟨_,⟨_,_,rfl,rfl,⟨_,_,rfl,rfl,⟨ab,c4,rfl,dU⟩⟩⟩,bI⟩:=WL.at hW bm;replace bI:∀(j:Nat) w,[iV A.1,iV A.2.1,.slice ab (A.2.2).length c4][j]? =some w→ag[Int.toNat (p3)*3+j]? =some w:=bI;refine JB.V 6 true rfl rfl (fun ρ h s' hs=>Yl.A7 hW.2 bm underlying130 (Ah type133) (h _ _ rfl) (h _ _ rfl)) ?_;refine JB.val (v:= .agg #[iV A.1,iV A.2.1,.slice ab (A.2.2).length c4]) 7 false rfl (by decide+kernel) rfl rfl rfl (fun ρ h s' hs=>have hs:=hs rfl;Yl.Bh (vs:= [iV A.1,iV A.2.1,.slice ab (A.2.2).length c4]) (Ao underlying133) (Ah type133) (h _ _ rfl) (fun q w U=>by rw [Ba rfl];exact Bb 0 bH rfl (by simp [AD]) hs (bI q w U))) ?_;refine JB.mv 8 rfl rfl ?_;refine JB.mv 9 rfl rfl ?_;obtain⟨K,a9,dV⟩:=bs dT;obtain⟨_,⟨_,_,rfl,rfl,⟨_,_,rfl,rfl,⟨ac,ae,rfl,dW⟩⟩⟩,bJ⟩:=WL.at hW a9;replace bJ:∀(j:Nat) w,[iV K.1,iV K.2.1,.slice ac (K.2.2).length ae][j]? =some w→ag[Int.toNat (p1)*3+j]? =some w:=bJ;refine JB.V 10 true rfl rfl (fun ρ h s' hs=>Yl.A7 hW.2 a9 underlying130 (Ah type133) (h _ _ rfl) (h _ _ rfl)) ?_;refine JB.val (v:= .agg #[iV K.1,iV K.2.1,.slice ac (K.2.2).length ae]) 11 false rfl (by decide+kernel) rfl rfl rfl (fun ρ h s' hs=>have hs:=hs rfl;Yl.Bh (vs:= [iV K.1,iV K.2.1,.slice ac (K.2.2).length ae]) (Ao underlying133) (Ah type133) (h _ _ rfl) (fun q w U=>by rw [Ba rfl];exact Bb 0 bH rfl (by simp [AD]) hs (bJ q w U))) ?_;refine JB.V 12 true rfl rfl (fun ρ h s' hs=>Yl.A7 hW.2 a9 underlying130 (Ah type133) (h _ _ rfl) (h _ _ rfl)) ?_;have cG:=WL.put (x':=A) (ws':= [iV A.1,iV A.2.1,.slice ab (A.2.2).length c4]) hW hW.2 a9 ⟨_,_,rfl,rfl,⟨_,_,rfl,rfl,⟨_,_,rfl,dU⟩⟩⟩;refine JB.store (v:= .agg #[iV A.1,iV A.2.1,.slice ab (A.2.2).length c4]) (off:=Int.toNat (p1)*3) 13 0 (by decide+kernel) (by decide+kernel) rfl rfl rfl bH rfl rfl (Ah type133) (by simp [Value.cells,Bs]) rfl cG.2 fun dX=>?_;refine JB.V 14 true rfl rfl (fun ρ h s' hs=>Yl.A7 hW.2 bm underlying130 (Ah type133) (h _ _ rfl) (h _ _ rfl)) ?_;have W:=WL.put (x':=K) (ws':= [iV K.1,iV K.2.1,.slice ac (K.2.2).length ae]) cG.1 hW.2 bm ⟨_,_,rfl,rfl,⟨_,_,rfl,rfl,⟨_,_,rfl,dW⟩⟩⟩;refine JB.store (v:= .agg #[iV K.1,iV K.2.1,.slice ac (K.2.2).length ae]) (off:=Int.toNat (p3)*3) 15 0 (by decide+kernel) (by decide+kernel) rfl rfl rfl dX rfl rfl (Ah type133) (by simp [Value.cells,Bs]) rfl W.2 fun dY=>?_;refine JB.fin (by decide+kernel) ?_;refine JS.norm (S':= [[(O,.cells (AL (AL ag (Int.toNat (p1)*3) [iV A.1,iV A.2.1,.slice ab (A.2.2).length c4]) (Int.toNat (p3)*3) [iV K.1,iV K.2.1,.slice ac (K.2.2).length ae]) 133 (0,0))]]) rfl dY fun dZ=>?_;obtain⟨ea,eb,ec⟩:=bs dV;refine JL.go 3 rfl ?_;refine JL.Y rfl (fun ρ h=>Yl.A1 (h _ _ rfl) (h _ _ rfl) eb) ?_;obtain⟨a0,ed,ee⟩:=bs ec;refine JL.go 1 rfl ?_;refine JL.Y rfl (fun ρ h=>Yl.A4 (h _ _ rfl) (h _ _ rfl) ed) ?_;obtain⟨av,ef,eg⟩:=bs ee;refine JL.go 4 rfl ?_;refine JL.join (fun L s=>∃(ba:LH),Jm E H ba [[(O,.cells (AL (AL ag (Int.toNat (p1)*3) [iV A.1,iV A.2.1,.slice ab (A.2.2).length c4]) (Int.toNat (p3)*3) [iV K.1,iV K.2.1,.slice ac (K.2.2).length ae]) 133 (0,0))]] [(0,.slice (some ⟨O,0,none⟩) aa Z),(1,iV p1),(4,(.func (.func 134) #[] #[])),(12,iV av),(13,iV a0)] L s) ?_ ?_
 ·rintro _ _ ⟨ba,rfl,rfl,aq,eh⟩;obtain⟨aw,ei,cH⟩:=bs eg;refine JL.seq ?_;refine JL.join (fun L s=>∃(bb:LH),Jm ba H bb [[(O,.cells (AL (AL ag (Int.toNat (p1)*3) [iV A.1,iV A.2.1,.slice ab (A.2.2).length c4]) (Int.toNat (p3)*3) [iV K.1,iV K.2.1,.slice ac (K.2.2).length ae]) 133 (0,0))]] [(0,.slice (some ⟨O,0,none⟩) aa Z),(1,iV p1),(4,(.func (.func 134) #[] #[])),(12,iV av),(13,iV aw)] L s) ?_ ?_
  ·rintro _ _ ⟨bb,rfl,rfl,aI,a1⟩;refine JL.go 7 rfl ?_;refine JL.ifs (p:=aw<av) rfl (fun bK=>?_) (fun bK=>?_)
   ·have cI:=cH;rw [if_pos bK] at cI;refine JL.seq ?_;refine JB.draw [13,15] [O] mixed rfl ?_;refine JB.mv 0 rfl rfl ?_;refine JB.mv 1 rfl rfl ?_;refine JB.mv 2 rfl rfl ?_;refine JB.mv 3 rfl rfl ?_;refine JB.mv 4 rfl rfl ?_;refine JB.mv 5 rfl rfl ?_;refine JB.V 6 true rfl rfl (fun ρ h s' hs=>Yl.A7 hW.2 a9 underlying130 (Ah type133) (h _ _ rfl) (h _ _ rfl)) ?_;obtain⟨aj,bL,ej⟩:=bs cI;obtain⟨_,⟨_,_,rfl,rfl,⟨_,_,rfl,rfl,⟨aJ,aK,rfl,ek⟩⟩⟩,bM⟩:=WL.at (W.1.mono (aq.trans aI)) bL;replace bM:∀(j:Nat) w,[iV aj.1,iV aj.2.1,.slice aJ (aj.2.2).length aK][j]? =some w→(AL (AL ag (Int.toNat (p1)*3) [iV A.1,iV A.2.1,.slice ab (A.2.2).length c4]) (Int.toNat (p3)*3) [iV K.1,iV K.2.1,.slice ac (K.2.2).length ae])[Int.toNat (p1)*3+j]? =some w:=bM;refine JB.val (v:= .agg #[iV aj.1,iV aj.2.1,.slice aJ (aj.2.2).length aK]) 7 false rfl (by decide+kernel) rfl rfl rfl (fun ρ h s' hs=>have hs:=hs rfl;Yl.Bh (vs:= [iV aj.1,iV aj.2.1,.slice aJ (aj.2.2).length aK]) (Ao underlying133) (Ah type133) (h _ _ rfl) (fun q w U=>by rw [Ba rfl];exact Bb 0 a1 rfl (by simp [AD]) hs (bM q w U))) ?_;refine JB.mv 8 rfl rfl ?_;refine JB.mv 9 rfl rfl ?_;obtain⟨ak,bn,el⟩:=bs ej;obtain⟨_,⟨_,_,rfl,rfl,⟨_,_,rfl,rfl,⟨aL,aM,rfl,em⟩⟩⟩,bN⟩:=WL.at (W.1.mono (aq.trans aI)) bn;replace bN:∀(j:Nat) w,[iV ak.1,iV ak.2.1,.slice aL (ak.2.2).length aM][j]? =some w→(AL (AL ag (Int.toNat (p1)*3) [iV A.1,iV A.2.1,.slice ab (A.2.2).length c4]) (Int.toNat (p3)*3) [iV K.1,iV K.2.1,.slice ac (K.2.2).length ae])[Int.toNat (aw)*3+j]? =some w:=bN;refine JB.V 10 true rfl rfl (fun ρ h s' hs=>Yl.A7 (W.1).2 bn underlying130 (Ah type133) (h _ _ rfl) (h _ _ rfl)) ?_;refine JB.val (v:= .agg #[iV ak.1,iV ak.2.1,.slice aL (ak.2.2).length aM]) 11 false rfl (by decide+kernel) rfl rfl rfl (fun ρ h s' hs=>have hs:=hs rfl;Yl.Bh (vs:= [iV ak.1,iV ak.2.1,.slice aL (ak.2.2).length aM]) (Ao underlying133) (Ah type133) (h _ _ rfl) (fun q w U=>by rw [Ba rfl];exact Bb 0 a1 rfl (by simp [AD]) hs (bN q w U))) ?_;refine JB.V 12 true rfl rfl (fun ρ h s' hs=>Yl.A7 (W.1).2 bn underlying130 (Ah type133) (h _ _ rfl) (h _ _ rfl)) ?_;have cJ:=WL.put (x':=aj) (ws':= [iV aj.1,iV aj.2.1,.slice aJ (aj.2.2).length aK]) (W.1.mono (aq.trans aI)) (W.1).2 bn ⟨_,_,rfl,rfl,⟨_,_,rfl,rfl,⟨_,_,rfl,ek⟩⟩⟩;refine JB.store (v:= .agg #[iV aj.1,iV aj.2.1,.slice aJ (aj.2.2).length aK]) (off:=Int.toNat (aw)*3) 13 0 (by decide+kernel) (by decide+kernel) rfl rfl rfl a1 rfl rfl (Ah type133) (by simp [Value.cells,Bs]) rfl cJ.2 fun eo=>?_;refine JB.V 14 true rfl rfl (fun ρ h s' hs=>Yl.A7 (W.1).2 bL underlying130 (Ah type133) (h _ _ rfl) (h _ _ rfl)) ?_;have cK:=WL.put (x':=ak) (ws':= [iV ak.1,iV ak.2.1,.slice aL (ak.2.2).length aM]) cJ.1 (W.1).2 bL ⟨_,_,rfl,rfl,⟨_,_,rfl,rfl,⟨_,_,rfl,em⟩⟩⟩;refine JB.store (v:= .agg #[iV ak.1,iV ak.2.1,.slice aL (ak.2.2).length aM]) (off:=Int.toNat (p1)*3) 15 0 (by decide+kernel) (by decide+kernel) rfl rfl rfl eo rfl rfl (Ah type133) (by simp [Value.cells,Bs]) rfl cK.2 fun ep=>?_;refine JB.fin (by decide+kernel) ?_;refine JS.norm (S':= [[(O,.cells (AL (AL (AL (AL ag (Int.toNat (p1)*3) [iV A.1,iV A.2.1,.slice ab (A.2.2).length c4]) (Int.toNat (p3)*3) [iV K.1,iV K.2.1,.slice ac (K.2.2).length ae]) (Int.toNat (aw)*3) [iV aj.1,iV aj.2.1,.slice aJ (aj.2.2).length aK]) (Int.toNat (p1)*3) [iV ak.1,iV ak.2.1,.slice aL (ak.2.2).length aM]) 133 (0,0))]]) rfl ep fun eq=>?_;refine JL.go 6 rfl ?_;obtain rfl:=oi el;refine JL.rt func185 rfl rfl ?_;exact cF _ _ _ _ (aq.trans aI) rfl ⟨(AL (AL (AL (AL ag (Int.toNat (p1)*3) [iV A.1,iV A.2.1,.slice ab (A.2.2).length c4]) (Int.toNat (p3)*3) [iV K.1,iV K.2.1,.slice ac (K.2.2).length ae]) (Int.toNat (aw)*3) [iV aj.1,iV aj.2.1,.slice aJ (aj.2.2).length aK]) (Int.toNat (p1)*3) [iV ak.1,iV ak.2.1,.slice aL (ak.2.2).length aM]),rfl,(by first | rfl | simp | (simp [Value.cells])),cK.1⟩ eq
   ·have cM:=cH;rw [if_neg bK] at cM;refine JL.go 2 rfl ?_;refine JB.draw [13,15] [O] mixed rfl ?_;refine JB.mv 0 rfl rfl ?_;refine JB.mv 1 rfl rfl ?_;refine JB.mv 2 rfl rfl ?_;refine JB.mv 3 rfl rfl ?_;refine JB.mv 4 rfl rfl ?_;refine JB.mv 5 rfl rfl ?_;obtain⟨al,bo,er⟩:=bs cM;obtain⟨_,⟨_,_,rfl,rfl,⟨_,_,rfl,rfl,⟨aN,aO,rfl,et⟩⟩⟩,bO⟩:=WL.at (W.1.mono (aq.trans aI)) bo;replace bO:∀(j:Nat) w,[iV al.1,iV al.2.1,.slice aN (al.2.2).length aO][j]? =some w→(AL (AL ag (Int.toNat (p1)*3) [iV A.1,iV A.2.1,.slice ab (A.2.2).length c4]) (Int.toNat (p3)*3) [iV K.1,iV K.2.1,.slice ac (K.2.2).length ae])[Int.toNat (aw)*3+j]? =some w:=bO;refine JB.V 6 true rfl rfl (fun ρ h s' hs=>Yl.A7 (W.1).2 bo underlying130 (Ah type133) (h _ _ rfl) (h _ _ rfl)) ?_;refine JB.val (v:= .agg #[iV al.1,iV al.2.1,.slice aN (al.2.2).length aO]) 7 false rfl (by decide+kernel) rfl rfl rfl (fun ρ h s' hs=>have hs:=hs rfl;Yl.Bh (vs:= [iV al.1,iV al.2.1,.slice aN (al.2.2).length aO]) (Ao underlying133) (Ah type133) (h _ _ rfl) (fun q w U=>by rw [Ba rfl];exact Bb 0 a1 rfl (by simp [AD]) hs (bO q w U))) ?_;refine JB.mv 8 rfl rfl ?_;refine JB.mv 9 rfl rfl ?_;obtain⟨am,bp,eu⟩:=bs er;obtain⟨_,⟨_,_,rfl,rfl,⟨_,_,rfl,rfl,⟨aP,aQ,rfl,ew⟩⟩⟩,bP⟩:=WL.at (W.1.mono (aq.trans aI)) bp;replace bP:∀(j:Nat) w,[iV am.1,iV am.2.1,.slice aP (am.2.2).length aQ][j]? =some w→(AL (AL ag (Int.toNat (p1)*3) [iV A.1,iV A.2.1,.slice ab (A.2.2).length c4]) (Int.toNat (p3)*3) [iV K.1,iV K.2.1,.slice ac (K.2.2).length ae])[Int.toNat (av)*3+j]? =some w:=bP;refine JB.V 10 true rfl rfl (fun ρ h s' hs=>Yl.A7 (W.1).2 bp underlying130 (Ah type133) (h _ _ rfl) (h _ _ rfl)) ?_;refine JB.val (v:= .agg #[iV am.1,iV am.2.1,.slice aP (am.2.2).length aQ]) 11 false rfl (by decide+kernel) rfl rfl rfl (fun ρ h s' hs=>have hs:=hs rfl;Yl.Bh (vs:= [iV am.1,iV am.2.1,.slice aP (am.2.2).length aQ]) (Ao underlying133) (Ah type133) (h _ _ rfl) (fun q w U=>by rw [Ba rfl];exact Bb 0 a1 rfl (by simp [AD]) hs (bP q w U))) ?_;refine JB.V 12 true rfl rfl (fun ρ h s' hs=>Yl.A7 (W.1).2 bp underlying130 (Ah type133) (h _ _ rfl) (h _ _ rfl)) ?_;have cN:=WL.put (x':=al) (ws':= [iV al.1,iV al.2.1,.slice aN (al.2.2).length aO]) (W.1.mono (aq.trans aI)) (W.1).2 bp ⟨_,_,rfl,rfl,⟨_,_,rfl,rfl,⟨_,_,rfl,et⟩⟩⟩;refine JB.store (v:= .agg #[iV al.1,iV al.2.1,.slice aN (al.2.2).length aO]) (off:=Int.toNat (av)*3) 13 0 (by decide+kernel) (by decide+kernel) rfl rfl rfl a1 rfl rfl (Ah type133) (by simp [Value.cells,Bs]) rfl cN.2 fun ex=>?_;refine JB.V 14 true rfl rfl (fun ρ h s' hs=>Yl.A7 (W.1).2 bo underlying130 (Ah type133) (h _ _ rfl) (h _ _ rfl)) ?_;have cO:=WL.put (x':=am) (ws':= [iV am.1,iV am.2.1,.slice aP (am.2.2).length aQ]) cN.1 (W.1).2 bo ⟨_,_,rfl,rfl,⟨_,_,rfl,rfl,⟨_,_,rfl,ew⟩⟩⟩;refine JB.store (v:= .agg #[iV am.1,iV am.2.1,.slice aP (am.2.2).length aQ]) (off:=Int.toNat (aw)*3) 15 0 (by decide+kernel) (by decide+kernel) rfl rfl rfl ex rfl rfl (Ah type133) (by simp [Value.cells,Bs]) rfl cO.2 fun ey=>?_;refine JB.fin (by decide+kernel) ?_;refine JS.norm (S':= [[(O,.cells (AL (AL (AL (AL ag (Int.toNat (p1)*3) [iV A.1,iV A.2.1,.slice ab (A.2.2).length c4]) (Int.toNat (p3)*3) [iV K.1,iV K.2.1,.slice ac (K.2.2).length ae]) (Int.toNat (av)*3) [iV al.1,iV al.2.1,.slice aN (al.2.2).length aO]) (Int.toNat (aw)*3) [iV am.1,iV am.2.1,.slice aP (am.2.2).length aQ]) 133 (0,0))]]) rfl ey fun ez=>?_;obtain⟨eA,eB,eC⟩:=bs eu;refine JL.go 3 rfl ?_;refine JL.Y rfl (fun ρ h=>Yl.A1 (h _ _ rfl) (h _ _ rfl) eB) ?_;obtain⟨eD,eE,eF⟩:=bs eC;refine JL.go 5 rfl ?_;refine JL.Y rfl (fun ρ h=>Yl.A4 (h _ _ rfl) (h _ _ rfl) eE) ?_;obtain⟨a2,eG,eH⟩:=bs eF;refine JL.go 3 rfl ?_;refine JL.join (fun L s=>∃(bQ:LH) (f102:Array Value),Jn bb H bQ [[(O,.cells f102 133 (0,0))]] [(0,.slice (some ⟨O,0,none⟩) aa Z),(1,iV p1),(13,iV a2.1)] L s (WL 133 (rP rI (rP rI (rL (rP rI (rP (rL rI) (rN .u16)))))) bQ O Z aa f102 (a2.2))) ?_ ?_
    ·rintro _ _ ⟨bQ,f102,rfl,rfl,eI,bR,az⟩;refine JL.seq ?_;refine JB.draw [13,15] [O] mixed rfl ?_;refine JB.mv 0 rfl rfl ?_;refine JB.mv 1 rfl rfl ?_;refine JB.mv 2 rfl rfl ?_;refine JB.mv 3 rfl rfl ?_;refine JB.mv 4 rfl rfl ?_;refine JB.mv 5 rfl rfl ?_;obtain⟨an,bq,eJ⟩:=bs eH;obtain⟨_,⟨_,_,rfl,rfl,⟨_,_,rfl,rfl,⟨aR,aS,rfl,eK⟩⟩⟩,bS⟩:=WL.at az bq;replace bS:∀(j:Nat) w,[iV an.1,iV an.2.1,.slice aR (an.2.2).length aS][j]? =some w→f102[Int.toNat (p1)*3+j]? =some w:=bS;refine JB.V 6 true rfl rfl (fun ρ h s' hs=>Yl.A7 az.2 bq underlying130 (Ah type133) (h _ _ rfl) (h _ _ rfl)) ?_;refine JB.val (v:= .agg #[iV an.1,iV an.2.1,.slice aR (an.2.2).length aS]) 7 false rfl (by decide+kernel) rfl rfl rfl (fun ρ h s' hs=>have hs:=hs rfl;Yl.Bh (vs:= [iV an.1,iV an.2.1,.slice aR (an.2.2).length aS]) (Ao underlying133) (Ah type133) (h _ _ rfl) (fun q w U=>by rw [Ba rfl];exact Bb 0 bR rfl (by simp [AD]) hs (bS q w U))) ?_;refine JB.mv 8 rfl rfl ?_;refine JB.mv 9 rfl rfl ?_;obtain⟨ao,br,eL⟩:=bs eJ;obtain⟨_,⟨_,_,rfl,rfl,⟨_,_,rfl,rfl,⟨aT,aU,rfl,eM⟩⟩⟩,bT⟩:=WL.at az br;replace bT:∀(j:Nat) w,[iV ao.1,iV ao.2.1,.slice aT (ao.2.2).length aU][j]? =some w→f102[Int.toNat (a2.1)*3+j]? =some w:=bT;refine JB.V 10 true rfl rfl (fun ρ h s' hs=>Yl.A7 az.2 br underlying130 (Ah type133) (h _ _ rfl) (h _ _ rfl)) ?_;refine JB.val (v:= .agg #[iV ao.1,iV ao.2.1,.slice aT (ao.2.2).length aU]) 11 false rfl (by decide+kernel) rfl rfl rfl (fun ρ h s' hs=>have hs:=hs rfl;Yl.Bh (vs:= [iV ao.1,iV ao.2.1,.slice aT (ao.2.2).length aU]) (Ao underlying133) (Ah type133) (h _ _ rfl) (fun q w U=>by rw [Ba rfl];exact Bb 0 bR rfl (by simp [AD]) hs (bT q w U))) ?_;refine JB.V 12 true rfl rfl (fun ρ h s' hs=>Yl.A7 az.2 br underlying130 (Ah type133) (h _ _ rfl) (h _ _ rfl)) ?_;have cP:=WL.put (x':=an) (ws':= [iV an.1,iV an.2.1,.slice aR (an.2.2).length aS]) az az.2 br ⟨_,_,rfl,rfl,⟨_,_,rfl,rfl,⟨_,_,rfl,eK⟩⟩⟩;refine JB.store (v:= .agg #[iV an.1,iV an.2.1,.slice aR (an.2.2).length aS]) (off:=Int.toNat (a2.1)*3) 13 0 (by decide+kernel) (by decide+kernel) rfl rfl rfl bR rfl rfl (Ah type133) (by simp [Value.cells,Bs]) rfl cP.2 fun eN=>?_;refine JB.V 14 true rfl rfl (fun ρ h s' hs=>Yl.A7 az.2 bq underlying130 (Ah type133) (h _ _ rfl) (h _ _ rfl)) ?_;have cQ:=WL.put (x':=ao) (ws':= [iV ao.1,iV ao.2.1,.slice aT (ao.2.2).length aU]) cP.1 az.2 bq ⟨_,_,rfl,rfl,⟨_,_,rfl,rfl,⟨_,_,rfl,eM⟩⟩⟩;refine JB.store (v:= .agg #[iV ao.1,iV ao.2.1,.slice aT (ao.2.2).length aU]) (off:=Int.toNat (p1)*3) 15 0 (by decide+kernel) (by decide+kernel) rfl rfl rfl eN rfl rfl (Ah type133) (by simp [Value.cells,Bs]) rfl cQ.2 fun eO=>?_;refine JB.fin (by decide+kernel) ?_;refine JS.norm (S':= [[(O,.cells (AL (AL f102 (Int.toNat (a2.1)*3) [iV an.1,iV an.2.1,.slice aR (an.2.2).length aS]) (Int.toNat (p1)*3) [iV ao.1,iV ao.2.1,.slice aT (ao.2.2).length aU]) 133 (0,0))]]) rfl eO fun eP=>?_;refine JL.go 6 rfl ?_;obtain rfl:=oi eL;refine JL.rt func185 rfl rfl ?_;exact cF _ _ _ _ ((aq.trans aI).trans eI) rfl ⟨(AL (AL f102 (Int.toNat (a2.1)*3) [iV an.1,iV an.2.1,.slice aR (an.2.2).length aS]) (Int.toNat (p1)*3) [iV ao.1,iV ao.2.1,.slice aT (ao.2.2).length aU]),rfl,(by first | rfl | simp | (simp [Value.cells])),cQ.1⟩ eP
    ·intro eQ;refine JL.block ?_;refine JL.wk [(0,.slice (some ⟨O,0,none⟩) aa Z),(1,iV p1),(4,(.func (.func 134) #[] #[])),(12,iV eA),(13,iV eD)] rfl ?_;refine JL.Bg eG (fun L s ar=>∃(a3:LH) (f127:Array Value),Jn bb H a3 [[(O,.cells f127 133 (0,0))]] [(0,.slice (some ⟨O,0,none⟩) aa Z),(1,iV p1),(4,(.func (.func 134) #[] #[])),(12,iV ar.1),(13,iV ar.2.1)] L s (WL 133 (rP rI (rP rI (rL (rP rI (rP (rL rI) (rN .u16)))))) a3 O Z aa f127 (ar.2.2))) ⟨bb,(AL (AL (AL (AL ag (Int.toNat (p1)*3) [iV A.1,iV A.2.1,.slice ab (A.2.2).length c4]) (Int.toNat (p3)*3) [iV K.1,iV K.2.1,.slice ac (K.2.2).length ae]) (Int.toNat (av)*3) [iV al.1,iV al.2.1,.slice aN (al.2.2).length aO]) (Int.toNat (aw)*3) [iV am.1,iV am.2.1,.slice aP (am.2.2).length aQ]),rfl,rfl,(Le.refl _),ez,cO.1⟩ ?_;rintro _ _ ar ⟨a3,f127,rfl,rfl,cR,eR,ap⟩ eS ⟨gu,bU⟩ eT;have cT:=bU;unfold FL at cT;obtain⟨au,eU,eV⟩:=bs cT;refine JL.go 2 rfl ?_;refine JL.join (fun L s=>∃(bc:LH),Jm a3 H bc [[(O,.cells f127 133 (0,0))]] [(0,.slice (some ⟨O,0,none⟩) aa Z),(1,iV p1),(4,(.func (.func 134) #[] #[])),(12,iV au),(13,iV ar.2.1)] L s) ?_ ?_
     ·rintro _ _ ⟨bc,rfl,rfl,ay,eW⟩;obtain⟨aV,eX,cV⟩:=bs eV;refine JL.seq ?_;refine JL.join (fun L s=>∃(bu:LH),Jm bc H bu [[(O,.cells f127 133 (0,0))]] [(0,.slice (some ⟨O,0,none⟩) aa Z),(1,iV p1),(4,(.func (.func 134) #[] #[])),(12,iV au),(13,iV aV)] L s) ?_ ?_
      ·rintro _ _ ⟨bu,rfl,rfl,a4,bv⟩;refine JL.go 7 rfl ?_;refine JL.ifs (p:=aV<au) rfl (fun bV=>?_) (fun bV=>?_)
       ·have cW:=cV;rw [if_pos bV] at cW;refine JL.exit rfl ?_;obtain rfl:=oi cW;obtain rfl:=eS _ bU;exact JL.kw (eQ _ _ ⟨bu,f127,rfl,rfl,((cR.trans ay).trans a4),bv,(ap.mono (ay.trans a4))⟩) rfl
       ·have cX:=cV;rw [if_neg bV] at cX;refine JL.go 2 rfl ?_;refine JB.draw [13,15] [O] mixed rfl ?_;refine JB.mv 0 rfl rfl ?_;refine JB.mv 1 rfl rfl ?_;refine JB.mv 2 rfl rfl ?_;refine JB.mv 3 rfl rfl ?_;refine JB.mv 4 rfl rfl ?_;refine JB.mv 5 rfl rfl ?_;obtain⟨ah,bw,eY⟩:=bs cX;obtain⟨_,⟨_,_,rfl,rfl,⟨_,_,rfl,rfl,⟨aW,aX,rfl,eZ⟩⟩⟩,bW⟩:=WL.at (ap.mono (ay.trans a4)) bw;replace bW:∀(j:Nat) w,[iV ah.1,iV ah.2.1,.slice aW (ah.2.2).length aX][j]? =some w→f127[Int.toNat (aV)*3+j]? =some w:=bW;refine JB.V 6 true rfl rfl (fun ρ h s' hs=>Yl.A7 ap.2 bw underlying130 (Ah type133) (h _ _ rfl) (h _ _ rfl)) ?_;refine JB.val (v:= .agg #[iV ah.1,iV ah.2.1,.slice aW (ah.2.2).length aX]) 7 false rfl (by decide+kernel) rfl rfl rfl (fun ρ h s' hs=>have hs:=hs rfl;Yl.Bh (vs:= [iV ah.1,iV ah.2.1,.slice aW (ah.2.2).length aX]) (Ao underlying133) (Ah type133) (h _ _ rfl) (fun q w U=>by rw [Ba rfl];exact Bb 0 bv rfl (by simp [AD]) hs (bW q w U))) ?_;refine JB.mv 8 rfl rfl ?_;refine JB.mv 9 rfl rfl ?_;obtain⟨ai,bx,e0⟩:=bs eY;obtain⟨_,⟨_,_,rfl,rfl,⟨_,_,rfl,rfl,⟨aY,aZ,rfl,e1⟩⟩⟩,bX⟩:=WL.at (ap.mono (ay.trans a4)) bx;replace bX:∀(j:Nat) w,[iV ai.1,iV ai.2.1,.slice aY (ai.2.2).length aZ][j]? =some w→f127[Int.toNat (au)*3+j]? =some w:=bX;refine JB.V 10 true rfl rfl (fun ρ h s' hs=>Yl.A7 ap.2 bx underlying130 (Ah type133) (h _ _ rfl) (h _ _ rfl)) ?_;refine JB.val (v:= .agg #[iV ai.1,iV ai.2.1,.slice aY (ai.2.2).length aZ]) 11 false rfl (by decide+kernel) rfl rfl rfl (fun ρ h s' hs=>have hs:=hs rfl;Yl.Bh (vs:= [iV ai.1,iV ai.2.1,.slice aY (ai.2.2).length aZ]) (Ao underlying133) (Ah type133) (h _ _ rfl) (fun q w U=>by rw [Ba rfl];exact Bb 0 bv rfl (by simp [AD]) hs (bX q w U))) ?_;refine JB.V 12 true rfl rfl (fun ρ h s' hs=>Yl.A7 ap.2 bx underlying130 (Ah type133) (h _ _ rfl) (h _ _ rfl)) ?_;have cY:=WL.put (x':=ah) (ws':= [iV ah.1,iV ah.2.1,.slice aW (ah.2.2).length aX]) (ap.mono (ay.trans a4)) ap.2 bx ⟨_,_,rfl,rfl,⟨_,_,rfl,rfl,⟨_,_,rfl,eZ⟩⟩⟩;refine JB.store (v:= .agg #[iV ah.1,iV ah.2.1,.slice aW (ah.2.2).length aX]) (off:=Int.toNat (au)*3) 13 0 (by decide+kernel) (by decide+kernel) rfl rfl rfl bv rfl rfl (Ah type133) (by simp [Value.cells,Bs]) rfl cY.2 fun e2=>?_;refine JB.V 14 true rfl rfl (fun ρ h s' hs=>Yl.A7 ap.2 bw underlying130 (Ah type133) (h _ _ rfl) (h _ _ rfl)) ?_;have cZ:=WL.put (x':=ai) (ws':= [iV ai.1,iV ai.2.1,.slice aY (ai.2.2).length aZ]) cY.1 ap.2 bw ⟨_,_,rfl,rfl,⟨_,_,rfl,rfl,⟨_,_,rfl,e1⟩⟩⟩;refine JB.store (v:= .agg #[iV ai.1,iV ai.2.1,.slice aY (ai.2.2).length aZ]) (off:=Int.toNat (aV)*3) 15 0 (by decide+kernel) (by decide+kernel) rfl rfl rfl e2 rfl rfl (Ah type133) (by simp [Value.cells,Bs]) rfl cZ.2 fun e3=>?_;refine JB.fin (by decide+kernel) ?_;refine JS.norm (S':= [[(O,.cells (AL (AL f127 (Int.toNat (au)*3) [iV ah.1,iV ah.2.1,.slice aW (ah.2.2).length aX]) (Int.toNat (aV)*3) [iV ai.1,iV ai.2.1,.slice aY (ai.2.2).length aZ]) 133 (0,0))]]) rfl e3 fun e4=>?_;obtain⟨e5,e6,e7⟩:=bs e0;refine JL.go 3 rfl ?_;refine JL.Y rfl (fun ρ h=>Yl.A1 (h _ _ rfl) (h _ _ rfl) e6) ?_;obtain⟨e8,e9,fa⟩:=bs e7;refine JL.go 4 rfl ?_;refine JL.Y rfl (fun ρ h=>Yl.A4 (h _ _ rfl) (h _ _ rfl) e9) ?_;refine JL.go 3 rfl ?_;obtain rfl:=oi fa;exact JL.kw (eT _ _ (e5,e8,((ar.2.2.set (Int.toNat au) ah).set (Int.toNat aV) ai)) ⟨bu,(AL (AL f127 (Int.toNat (au)*3) [iV ah.1,iV ah.2.1,.slice aW (ah.2.2).length aX]) (Int.toNat (aV)*3) [iV ai.1,iV ai.2.1,.slice aY (ai.2.2).length aZ]),rfl,rfl,((cR.trans ay).trans a4),e4,cZ.1⟩ bU) rfl
      ·intro fb;refine JL.block ?_;refine JL.wk [(0,.slice (some ⟨O,0,none⟩) aa Z),(1,iV p1),(4,(.func (.func 134) #[] #[])),(12,iV au),(13,iV ar.2.1)] rfl ?_;refine JL.Bg eX (fun L s bd=>∃(bz:LH),Jm bc H bz [[(O,.cells f127 133 (0,0))]] [(0,.slice (some ⟨O,0,none⟩) aa Z),(1,iV p1),(4,(.func (.func 134) #[] #[])),(12,iV au),(13,iV bd)] L s) ⟨bc,rfl,rfl,(Le.refl _),eW⟩ ?_;rintro _ _ bd ⟨bz,rfl,rfl,a5,bf⟩ fc ⟨gv,bY⟩ fe;have c0:=bY;unfold Gk at c0;refine JL.go 2 rfl ?_;refine JG.BX 17 [O] ⟨⟨0,_,rfl⟩,trivial⟩ bf mixed rfl (by decide+kernel) fun ht=>?_;refine JG.mv 0 ht rfl rfl ?_;refine JG.mv 1 ht rfl rfl ?_;refine JG.mv 2 ht rfl rfl ?_;refine JG.mv 3 ht rfl rfl ?_;obtain⟨c1,c2,c3⟩:=bs c0;refine Av.join 0 #[true,true,true,true,true,true,true,true,true,true,true,true,true,true,true,true,true] (fun L s=>∃(bA:LH),Jm bz H bA [[(O,.cells f127 133 (0,0))]] [(0,.slice (some ⟨O,0,none⟩) aa Z),(1,iV p1),(4,(.func (.func 134) #[] #[])),(12,iV au),(13,iV bd),(139,.bool c1)] L s) ?_ ?_
       ·rintro _ _ ⟨bA,rfl,rfl,c5,c6⟩;refine Av.fin (by decide+kernel) ?_;refine JL.split (t:=c1) rfl (fun bZ=>?_) (fun bZ=>?_)
        ·have c7:=c3;rw [if_pos bZ] at c7;obtain⟨ff,fg,fh⟩:=bs c7;refine JL.go 4 rfl ?_;refine JL.Y rfl (fun ρ h=>Yl.A4 (h _ _ rfl) (h _ _ rfl) fg) ?_;refine JL.go 3 rfl ?_;obtain rfl:=oi fh;exact JL.kw (fe _ _ ff ⟨bA,rfl,rfl,(a5.trans c5),c6⟩ bY) rfl
        ·have c8:=c3;rw [if_neg (by rw [bZ];exact Bool.false_ne_true)] at c8;refine JL.exit rfl ?_;obtain rfl:=oi c8;obtain rfl:=fc _ bY;exact JL.kw (fb _ _ ⟨bA,rfl,rfl,(a5.trans c5),c6⟩) rfl
       ·intro c9;refine Av.BP (q:=au≤bd) (i:=126) rfl (fun b0=>?_) (fun b0=>?_)
        ·have da:=c2;rw [if_pos b0] at da;refine JG.mv 4 ht rfl rfl ?_;refine JG.mv 5 ht rfl rfl ?_;refine JG.mv 6 ht rfl rfl ?_;obtain⟨aA,db,fj⟩:=bs da;obtain⟨_,⟨_,_,rfl,rfl,⟨_,_,rfl,rfl,⟨b1,b2,rfl,fk⟩⟩⟩,b3⟩:=WL.at (ap.mono (ay.trans a5)) db;replace b3:∀(j:Nat) w,[iV aA.1,iV aA.2.1,.slice b1 (aA.2.2).length b2][j]? =some w→f127[Int.toNat (bd)*3+j]? =some w:=b3;refine JG.V 7 ht rfl rfl (fun ρ h s' hs=>Yl.A7 ((ap.mono (ay.trans a5))).2 db underlying130 (Ah type133) (h _ _ rfl) (h _ _ rfl)) ?_;refine JG.V 8 ht rfl rfl (fun ρ h s' hs=>Yl.Bh (vs:= [iV aA.1,iV aA.2.1,.slice b1 (aA.2.2).length b2]) (Ao underlying133) (Ah type133) (h _ _ rfl) (fun q w U=>by rw [Ba rfl];exact Bb 0 bf rfl (by simp [AD]) hs (b3 q w U))) ?_;refine JG.mv 9 ht rfl rfl ?_;refine JG.mv 10 ht rfl rfl ?_;obtain⟨aB,dc,fm⟩:=bs fj;obtain⟨_,⟨_,_,rfl,rfl,⟨_,_,rfl,rfl,⟨b4,b5,rfl,fo⟩⟩⟩,b6⟩:=WL.at (ap.mono (ay.trans a5)) dc;replace b6:∀(j:Nat) w,[iV aB.1,iV aB.2.1,.slice b4 (aB.2.2).length b5][j]? =some w→f127[Int.toNat (p1)*3+j]? =some w:=b6;refine JG.V 11 ht rfl rfl (fun ρ h s' hs=>Yl.A7 ((ap.mono (ay.trans a5))).2 dc underlying130 (Ah type133) (h _ _ rfl) (h _ _ rfl)) ?_;refine JG.V 12 ht rfl rfl (fun ρ h s' hs=>Yl.Bh (vs:= [iV aB.1,iV aB.2.1,.slice b4 (aB.2.2).length b5]) (Ao underlying133) (Ah type133) (h _ _ rfl) (fun q w U=>by rw [Ba rfl];exact Bb 0 bf rfl (by simp [AD]) hs (b6 q w U))) ?_;obtain⟨fp,fq,fs⟩:=bs fm;refine JG.ER (i:=13) ⟨⟨0,_,rfl⟩,trivial⟩ (vs:= [.agg #[iV aA.1,iV aA.2.1,.slice b1 (aA.2.2).length b2],.agg #[iV aB.1,iV aB.2.1,.slice b4 (aB.2.2).length b5]]) (Ec fk fo fq) (by decide+kernel) rfl rfl rfl rfl (Ay func134 rfl) rfl bf ?_;rintro _ fu _ fv ⟨rfl,rfl⟩ fw;refine JG.mv 14 ht rfl rfl ?_;refine JG.V (v:= .bool (decide (¬(fp<0)))) 15 ht rfl rfl (fun ρ h s' hs=>Yl.F1 (h _ _ rfl)) ?_;refine JG.mv 16 ht rfl rfl ?_;obtain rfl:=oi fs;refine Av.BK ?_ (c9 _ _ ⟨fu,rfl,rfl,fv,fw⟩);exact⟨rfl,rfl,rfl,rfl,rfl,rfl,trivial⟩
        ·have dd:=c2;rw [if_neg b0] at dd;refine JG.mv 4 ht rfl rfl ?_;refine JG.mv 5 ht rfl rfl ?_;refine JG.mv 6 ht rfl rfl ?_;refine JG.mv 7 ht rfl rfl ?_;refine JG.mv 8 ht rfl rfl ?_;refine JG.mv 9 ht rfl rfl ?_;refine JG.mv 10 ht rfl rfl ?_;refine JG.mv 11 ht rfl rfl ?_;refine JG.mv 12 ht rfl rfl ?_;refine JG.mv 13 ht rfl rfl ?_;refine JG.mv 14 ht rfl rfl ?_;refine JG.mv 15 ht rfl rfl ?_;refine JG.mv 16 ht rfl rfl ?_;obtain rfl:=oi dd;refine Av.BK ?_ (c9 _ _ ⟨bz,rfl,rfl,(Le.refl _),bf⟩);exact⟨rfl,rfl,rfl,rfl,rfl,rfl,trivial⟩
     ·intro fx;refine JL.block ?_;refine JL.wk [(0,.slice (some ⟨O,0,none⟩) aa Z),(1,iV p1),(4,(.func (.func 134) #[] #[])),(12,iV ar.1),(13,iV ar.2.1)] rfl ?_;refine JL.Bg eU (fun L s bg=>∃(bB:LH),Jm a3 H bB [[(O,.cells f127 133 (0,0))]] [(0,.slice (some ⟨O,0,none⟩) aa Z),(1,iV p1),(4,(.func (.func 134) #[] #[])),(12,iV bg),(13,iV ar.2.1)] L s) ⟨a3,rfl,rfl,(Le.refl _),eR⟩ ?_;rintro _ _ bg ⟨bB,rfl,rfl,a6,bh⟩ fy ⟨gw,b7⟩ fz;have de:=b7;unfold Gj at de;refine JL.go 2 rfl ?_;refine JG.BX 16 [O] ⟨⟨0,_,rfl⟩,trivial⟩ bh mixed rfl (by decide+kernel) fun ht=>?_;refine JG.mv 0 ht rfl rfl ?_;refine JG.mv 1 ht rfl rfl ?_;refine JG.mv 2 ht rfl rfl ?_;refine JG.mv 3 ht rfl rfl ?_;obtain⟨df,dg,dh⟩:=bs de;refine Av.join 0 #[true,true,true,true,true,true,true,true,true,true,true,true,true,true,true,true] (fun L s=>∃(bC:LH),Jm bB H bC [[(O,.cells f127 133 (0,0))]] [(0,.slice (some ⟨O,0,none⟩) aa Z),(1,iV p1),(4,(.func (.func 134) #[] #[])),(12,iV bg),(13,iV ar.2.1),(120,.bool df)] L s) ?_ ?_
      ·rintro _ _ ⟨bC,rfl,rfl,di,dj⟩;refine Av.fin (by decide+kernel) ?_;refine JL.split (t:=df) rfl (fun b8=>?_) (fun b8=>?_)
       ·have dk:=dh;rw [if_pos b8] at dk;obtain⟨fA,fB,fC⟩:=bs dk;refine JL.go 4 rfl ?_;refine JL.Y rfl (fun ρ h=>Yl.A1 (h _ _ rfl) (h _ _ rfl) fB) ?_;refine JL.go 3 rfl ?_;obtain rfl:=oi fC;exact JL.kw (fz _ _ fA ⟨bC,rfl,rfl,(a6.trans di),dj⟩ b7) rfl
       ·have dl:=dh;rw [if_neg (by rw [b8];exact Bool.false_ne_true)] at dl;refine JL.exit rfl ?_;obtain rfl:=oi dl;obtain rfl:=fy _ b7;exact JL.kw (fx _ _ ⟨bC,rfl,rfl,(a6.trans di),dj⟩) rfl
      ·intro dm;refine Av.BP (q:=bg≤ar.2.1) (i:=108) rfl (fun b9=>?_) (fun b9=>?_)
       ·have dn:=dg;rw [if_pos b9] at dn;refine JG.mv 4 ht rfl rfl ?_;refine JG.mv 5 ht rfl rfl ?_;refine JG.mv 6 ht rfl rfl ?_;obtain⟨aC,dp,fD⟩:=bs dn;obtain⟨_,⟨_,_,rfl,rfl,⟨_,_,rfl,rfl,⟨ca,cb,rfl,fE⟩⟩⟩,cc⟩:=WL.at (ap.mono a6) dp;replace cc:∀(j:Nat) w,[iV aC.1,iV aC.2.1,.slice ca (aC.2.2).length cb][j]? =some w→f127[Int.toNat (bg)*3+j]? =some w:=cc;refine JG.V 7 ht rfl rfl (fun ρ h s' hs=>Yl.A7 ((ap.mono a6)).2 dp underlying130 (Ah type133) (h _ _ rfl) (h _ _ rfl)) ?_;refine JG.V 8 ht rfl rfl (fun ρ h s' hs=>Yl.Bh (vs:= [iV aC.1,iV aC.2.1,.slice ca (aC.2.2).length cb]) (Ao underlying133) (Ah type133) (h _ _ rfl) (fun q w U=>by rw [Ba rfl];exact Bb 0 bh rfl (by simp [AD]) hs (cc q w U))) ?_;refine JG.mv 9 ht rfl rfl ?_;refine JG.mv 10 ht rfl rfl ?_;obtain⟨aD,dq,fF⟩:=bs fD;obtain⟨_,⟨_,_,rfl,rfl,⟨_,_,rfl,rfl,⟨cd,ce,rfl,fG⟩⟩⟩,cf⟩:=WL.at (ap.mono a6) dq;replace cf:∀(j:Nat) w,[iV aD.1,iV aD.2.1,.slice cd (aD.2.2).length ce][j]? =some w→f127[Int.toNat (p1)*3+j]? =some w:=cf;refine JG.V 11 ht rfl rfl (fun ρ h s' hs=>Yl.A7 ((ap.mono a6)).2 dq underlying130 (Ah type133) (h _ _ rfl) (h _ _ rfl)) ?_;refine JG.V 12 ht rfl rfl (fun ρ h s' hs=>Yl.Bh (vs:= [iV aD.1,iV aD.2.1,.slice cd (aD.2.2).length ce]) (Ao underlying133) (Ah type133) (h _ _ rfl) (fun q w U=>by rw [Ba rfl];exact Bb 0 bh rfl (by simp [AD]) hs (cf q w U))) ?_;obtain⟨gx,fH,fI⟩:=bs fF;refine JG.ER (i:=13) ⟨⟨0,_,rfl⟩,trivial⟩ (vs:= [.agg #[iV aC.1,iV aC.2.1,.slice ca (aC.2.2).length cb],.agg #[iV aD.1,iV aD.2.1,.slice cd (aD.2.2).length ce]]) (Ec fE fG fH) (by decide+kernel) rfl rfl rfl rfl (Ay func134 rfl) rfl bh ?_;rintro _ fJ _ fK ⟨rfl,rfl⟩ fL;refine JG.mv 14 ht rfl rfl ?_;refine JG.mv 15 ht rfl rfl ?_;obtain rfl:=oi fI;refine Av.BK ?_ (dm _ _ ⟨fJ,rfl,rfl,fK,fL⟩);exact⟨rfl,rfl,rfl,rfl,rfl,rfl,trivial⟩
       ·have dr:=dg;rw [if_neg b9] at dr;refine JG.mv 4 ht rfl rfl ?_;refine JG.mv 5 ht rfl rfl ?_;refine JG.mv 6 ht rfl rfl ?_;refine JG.mv 7 ht rfl rfl ?_;refine JG.mv 8 ht rfl rfl ?_;refine JG.mv 9 ht rfl rfl ?_;refine JG.mv 10 ht rfl rfl ?_;refine JG.mv 11 ht rfl rfl ?_;refine JG.mv 12 ht rfl rfl ?_;refine JG.mv 13 ht rfl rfl ?_;refine JG.mv 14 ht rfl rfl ?_;refine JG.mv 15 ht rfl rfl ?_;obtain rfl:=oi dr;refine Av.BK ?_ (dm _ _ ⟨bB,rfl,rfl,(Le.refl _),bh⟩);exact⟨rfl,rfl,rfl,rfl,rfl,rfl,trivial⟩
  ·intro fM;refine JL.block ?_;refine JL.wk [(0,.slice (some ⟨O,0,none⟩) aa Z),(1,iV p1),(4,(.func (.func 134) #[] #[])),(12,iV av),(13,iV a0)] rfl ?_;refine JL.Bg ei (fun L s bi=>∃(bD:LH),Jm ba H bD [[(O,.cells (AL (AL ag (Int.toNat (p1)*3) [iV A.1,iV A.2.1,.slice ab (A.2.2).length c4]) (Int.toNat (p3)*3) [iV K.1,iV K.2.1,.slice ac (K.2.2).length ae]) 133 (0,0))]] [(0,.slice (some ⟨O,0,none⟩) aa Z),(1,iV p1),(4,(.func (.func 134) #[] #[])),(12,iV av),(13,iV bi)] L s) ⟨ba,rfl,rfl,(Le.refl _),eh⟩ ?_;rintro _ _ bi ⟨bD,rfl,rfl,a7,bj⟩ fN ⟨gy,cg⟩ fO;have dt:=cg;unfold GU at dt;refine JL.go 2 rfl ?_;refine JG.BX 17 [O] ⟨⟨0,_,rfl⟩,trivial⟩ bj mixed rfl (by decide+kernel) fun ht=>?_;refine JG.mv 0 ht rfl rfl ?_;refine JG.mv 1 ht rfl rfl ?_;refine JG.mv 2 ht rfl rfl ?_;refine JG.mv 3 ht rfl rfl ?_;obtain⟨du,dv,dw⟩:=bs dt;refine Av.join 0 #[true,true,true,true,true,true,true,true,true,true,true,true,true,true,true,true,true] (fun L s=>∃(bE:LH),Jm bD H bE [[(O,.cells (AL (AL ag (Int.toNat (p1)*3) [iV A.1,iV A.2.1,.slice ab (A.2.2).length c4]) (Int.toNat (p3)*3) [iV K.1,iV K.2.1,.slice ac (K.2.2).length ae]) 133 (0,0))]] [(0,.slice (some ⟨O,0,none⟩) aa Z),(1,iV p1),(4,(.func (.func 134) #[] #[])),(12,iV av),(13,iV bi),(66,.bool du)] L s) ?_ ?_
   ·rintro _ _ ⟨bE,rfl,rfl,dx,dy⟩;refine Av.fin (by decide+kernel) ?_;refine JL.split (t:=du) rfl (fun ci=>?_) (fun ci=>?_)
    ·have dz:=dw;rw [if_pos ci] at dz;obtain⟨fP,fQ,fR⟩:=bs dz;refine JL.go 4 rfl ?_;refine JL.Y rfl (fun ρ h=>Yl.A4 (h _ _ rfl) (h _ _ rfl) fQ) ?_;refine JL.go 3 rfl ?_;obtain rfl:=oi fR;exact JL.kw (fO _ _ fP ⟨bE,rfl,rfl,(a7.trans dx),dy⟩ cg) rfl
    ·have dA:=dw;rw [if_neg (by rw [ci];exact Bool.false_ne_true)] at dA;refine JL.exit rfl ?_;obtain rfl:=oi dA;obtain rfl:=fN _ cg;exact JL.kw (fM _ _ ⟨bE,rfl,rfl,(a7.trans dx),dy⟩) rfl
   ·intro dB;refine Av.BP (q:=av≤bi) (i:=53) rfl (fun ck=>?_) (fun ck=>?_)
    ·have dC:=dv;rw [if_pos ck] at dC;refine JG.mv 4 ht rfl rfl ?_;refine JG.mv 5 ht rfl rfl ?_;refine JG.mv 6 ht rfl rfl ?_;obtain⟨aE,dD,fS⟩:=bs dC;obtain⟨_,⟨_,_,rfl,rfl,⟨_,_,rfl,rfl,⟨cm,cn,rfl,fT⟩⟩⟩,co⟩:=WL.at (W.1.mono (aq.trans a7)) dD;replace co:∀(j:Nat) w,[iV aE.1,iV aE.2.1,.slice cm (aE.2.2).length cn][j]? =some w→(AL (AL ag (Int.toNat (p1)*3) [iV A.1,iV A.2.1,.slice ab (A.2.2).length c4]) (Int.toNat (p3)*3) [iV K.1,iV K.2.1,.slice ac (K.2.2).length ae])[Int.toNat (bi)*3+j]? =some w:=co;refine JG.V 7 ht rfl rfl (fun ρ h s' hs=>Yl.A7 ((W.1.mono (aq.trans a7))).2 dD underlying130 (Ah type133) (h _ _ rfl) (h _ _ rfl)) ?_;refine JG.V 8 ht rfl rfl (fun ρ h s' hs=>Yl.Bh (vs:= [iV aE.1,iV aE.2.1,.slice cm (aE.2.2).length cn]) (Ao underlying133) (Ah type133) (h _ _ rfl) (fun q w U=>by rw [Ba rfl];exact Bb 0 bj rfl (by simp [AD]) hs (co q w U))) ?_;refine JG.mv 9 ht rfl rfl ?_;refine JG.mv 10 ht rfl rfl ?_;obtain⟨aF,dE,fU⟩:=bs fS;obtain⟨_,⟨_,_,rfl,rfl,⟨_,_,rfl,rfl,⟨cp,cq,rfl,fV⟩⟩⟩,cr⟩:=WL.at (W.1.mono (aq.trans a7)) dE;replace cr:∀(j:Nat) w,[iV aF.1,iV aF.2.1,.slice cp (aF.2.2).length cq][j]? =some w→(AL (AL ag (Int.toNat (p1)*3) [iV A.1,iV A.2.1,.slice ab (A.2.2).length c4]) (Int.toNat (p3)*3) [iV K.1,iV K.2.1,.slice ac (K.2.2).length ae])[Int.toNat (p1)*3+j]? =some w:=cr;refine JG.V 11 ht rfl rfl (fun ρ h s' hs=>Yl.A7 ((W.1.mono (aq.trans a7))).2 dE underlying130 (Ah type133) (h _ _ rfl) (h _ _ rfl)) ?_;refine JG.V 12 ht rfl rfl (fun ρ h s' hs=>Yl.Bh (vs:= [iV aF.1,iV aF.2.1,.slice cp (aF.2.2).length cq]) (Ao underlying133) (Ah type133) (h _ _ rfl) (fun q w U=>by rw [Ba rfl];exact Bb 0 bj rfl (by simp [AD]) hs (cr q w U))) ?_;obtain⟨fW,fX,fY⟩:=bs fU;refine JG.ER (i:=13) ⟨⟨0,_,rfl⟩,trivial⟩ (vs:= [.agg #[iV aE.1,iV aE.2.1,.slice cm (aE.2.2).length cn],.agg #[iV aF.1,iV aF.2.1,.slice cp (aF.2.2).length cq]]) (Ec fT fV fX) (by decide+kernel) rfl rfl rfl rfl (Ay func134 rfl) rfl bj ?_;rintro _ fZ _ ga ⟨rfl,rfl⟩ gb;refine JG.mv 14 ht rfl rfl ?_;refine JG.V (v:= .bool (decide (¬(fW<0)))) 15 ht rfl rfl (fun ρ h s' hs=>Yl.F1 (h _ _ rfl)) ?_;refine JG.mv 16 ht rfl rfl ?_;obtain rfl:=oi fY;refine Av.BK ?_ (dB _ _ ⟨fZ,rfl,rfl,ga,gb⟩);exact⟨rfl,rfl,rfl,rfl,rfl,rfl,trivial⟩
    ·have dF:=dv;rw [if_neg ck] at dF;refine JG.mv 4 ht rfl rfl ?_;refine JG.mv 5 ht rfl rfl ?_;refine JG.mv 6 ht rfl rfl ?_;refine JG.mv 7 ht rfl rfl ?_;refine JG.mv 8 ht rfl rfl ?_;refine JG.mv 9 ht rfl rfl ?_;refine JG.mv 10 ht rfl rfl ?_;refine JG.mv 11 ht rfl rfl ?_;refine JG.mv 12 ht rfl rfl ?_;refine JG.mv 13 ht rfl rfl ?_;refine JG.mv 14 ht rfl rfl ?_;refine JG.mv 15 ht rfl rfl ?_;refine JG.mv 16 ht rfl rfl ?_;obtain rfl:=oi dF;refine Av.BK ?_ (dB _ _ ⟨bD,rfl,rfl,(Le.refl _),bj⟩);exact⟨rfl,rfl,rfl,rfl,rfl,rfl,trivial⟩
 ·intro gc;refine JL.block ?_;refine JL.wk [(0,.slice (some ⟨O,0,none⟩) aa Z),(1,iV p1),(4,(.func (.func 134) #[] #[])),(12,iV ea),(13,iV a0)] rfl ?_;refine JL.Bg ef (fun L s bk=>∃(bF:LH),Jm E H bF [[(O,.cells (AL (AL ag (Int.toNat (p1)*3) [iV A.1,iV A.2.1,.slice ab (A.2.2).length c4]) (Int.toNat (p3)*3) [iV K.1,iV K.2.1,.slice ac (K.2.2).length ae]) 133 (0,0))]] [(0,.slice (some ⟨O,0,none⟩) aa Z),(1,iV p1),(4,(.func (.func 134) #[] #[])),(12,iV bk),(13,iV a0)] L s) ⟨E,rfl,rfl,(Le.refl _),dZ⟩ ?_;rintro _ _ bk ⟨bF,rfl,rfl,a8,bl⟩ gd ⟨gz,ct⟩ ge;have dG:=ct;unfold GQ at dG;refine JL.go 2 rfl ?_;refine JG.BX 16 [O] ⟨⟨0,_,rfl⟩,trivial⟩ bl mixed rfl (by decide+kernel) fun ht=>?_;refine JG.mv 0 ht rfl rfl ?_;refine JG.mv 1 ht rfl rfl ?_;refine JG.mv 2 ht rfl rfl ?_;refine JG.mv 3 ht rfl rfl ?_;obtain⟨dH,dI,dJ⟩:=bs dG;refine Av.join 0 #[true,true,true,true,true,true,true,true,true,true,true,true,true,true,true,true] (fun L s=>∃(bG:LH),Jm bF H bG [[(O,.cells (AL (AL ag (Int.toNat (p1)*3) [iV A.1,iV A.2.1,.slice ab (A.2.2).length c4]) (Int.toNat (p3)*3) [iV K.1,iV K.2.1,.slice ac (K.2.2).length ae]) 133 (0,0))]] [(0,.slice (some ⟨O,0,none⟩) aa Z),(1,iV p1),(4,(.func (.func 134) #[] #[])),(12,iV bk),(13,iV a0),(47,.bool dH)] L s) ?_ ?_
  ·rintro _ _ ⟨bG,rfl,rfl,dK,dL⟩;refine Av.fin (by decide+kernel) ?_;refine JL.split (t:=dH) rfl (fun cu=>?_) (fun cu=>?_)
   ·have dM:=dJ;rw [if_pos cu] at dM;obtain⟨gf,gg,gh⟩:=bs dM;refine JL.go 4 rfl ?_;refine JL.Y rfl (fun ρ h=>Yl.A1 (h _ _ rfl) (h _ _ rfl) gg) ?_;refine JL.go 3 rfl ?_;obtain rfl:=oi gh;exact JL.kw (ge _ _ gf ⟨bG,rfl,rfl,(a8.trans dK),dL⟩ ct) rfl
   ·have dN:=dJ;rw [if_neg (by rw [cu];exact Bool.false_ne_true)] at dN;refine JL.exit rfl ?_;obtain rfl:=oi dN;obtain rfl:=gd _ ct;exact JL.kw (gc _ _ ⟨bG,rfl,rfl,(a8.trans dK),dL⟩) rfl
  ·intro dO;refine Av.BP (q:=bk≤a0) (i:=35) rfl (fun cv=>?_) (fun cv=>?_)
   ·have dP:=dI;rw [if_pos cv] at dP;refine JG.mv 4 ht rfl rfl ?_;refine JG.mv 5 ht rfl rfl ?_;refine JG.mv 6 ht rfl rfl ?_;obtain⟨aG,dQ,gi⟩:=bs dP;obtain⟨_,⟨_,_,rfl,rfl,⟨_,_,rfl,rfl,⟨cw,cy,rfl,gj⟩⟩⟩,cz⟩:=WL.at (W.1.mono a8) dQ;replace cz:∀(j:Nat) w,[iV aG.1,iV aG.2.1,.slice cw (aG.2.2).length cy][j]? =some w→(AL (AL ag (Int.toNat (p1)*3) [iV A.1,iV A.2.1,.slice ab (A.2.2).length c4]) (Int.toNat (p3)*3) [iV K.1,iV K.2.1,.slice ac (K.2.2).length ae])[Int.toNat (bk)*3+j]? =some w:=cz;refine JG.V 7 ht rfl rfl (fun ρ h s' hs=>Yl.A7 ((W.1.mono a8)).2 dQ underlying130 (Ah type133) (h _ _ rfl) (h _ _ rfl)) ?_;refine JG.V 8 ht rfl rfl (fun ρ h s' hs=>Yl.Bh (vs:= [iV aG.1,iV aG.2.1,.slice cw (aG.2.2).length cy]) (Ao underlying133) (Ah type133) (h _ _ rfl) (fun q w U=>by rw [Ba rfl];exact Bb 0 bl rfl (by simp [AD]) hs (cz q w U))) ?_;refine JG.mv 9 ht rfl rfl ?_;refine JG.mv 10 ht rfl rfl ?_;obtain⟨aH,dR,gk⟩:=bs gi;obtain⟨_,⟨_,_,rfl,rfl,⟨_,_,rfl,rfl,⟨cA,cB,rfl,gl⟩⟩⟩,cC⟩:=WL.at (W.1.mono a8) dR;replace cC:∀(j:Nat) w,[iV aH.1,iV aH.2.1,.slice cA (aH.2.2).length cB][j]? =some w→(AL (AL ag (Int.toNat (p1)*3) [iV A.1,iV A.2.1,.slice ab (A.2.2).length c4]) (Int.toNat (p3)*3) [iV K.1,iV K.2.1,.slice ac (K.2.2).length ae])[Int.toNat (p1)*3+j]? =some w:=cC;refine JG.V 11 ht rfl rfl (fun ρ h s' hs=>Yl.A7 ((W.1.mono a8)).2 dR underlying130 (Ah type133) (h _ _ rfl) (h _ _ rfl)) ?_;refine JG.V 12 ht rfl rfl (fun ρ h s' hs=>Yl.Bh (vs:= [iV aH.1,iV aH.2.1,.slice cA (aH.2.2).length cB]) (Ao underlying133) (Ah type133) (h _ _ rfl) (fun q w U=>by rw [Ba rfl];exact Bb 0 bl rfl (by simp [AD]) hs (cC q w U))) ?_;obtain⟨gA,gm,gn⟩:=bs gk;refine JG.ER (i:=13) ⟨⟨0,_,rfl⟩,trivial⟩ (vs:= [.agg #[iV aG.1,iV aG.2.1,.slice cw (aG.2.2).length cy],.agg #[iV aH.1,iV aH.2.1,.slice cA (aH.2.2).length cB]]) (Ec gj gl gm) (by decide+kernel) rfl rfl rfl rfl (Ay func134 rfl) rfl bl ?_;rintro _ gp _ gq ⟨rfl,rfl⟩ gr;refine JG.mv 14 ht rfl rfl ?_;refine JG.mv 15 ht rfl rfl ?_;obtain rfl:=oi gn;refine Av.BK ?_ (dO _ _ ⟨gp,rfl,rfl,gq,gr⟩);exact⟨rfl,rfl,rfl,rfl,rfl,rfl,trivial⟩
   ·have dS:=dI;rw [if_neg cv] at dS;refine JG.mv 4 ht rfl rfl ?_;refine JG.mv 5 ht rfl rfl ?_;refine JG.mv 6 ht rfl rfl ?_;refine JG.mv 7 ht rfl rfl ?_;refine JG.mv 8 ht rfl rfl ?_;refine JG.mv 9 ht rfl rfl ?_;refine JG.mv 10 ht rfl rfl ?_;refine JG.mv 11 ht rfl rfl ?_;refine JG.mv 12 ht rfl rfl ?_;refine JG.mv 13 ht rfl rfl ?_;refine JG.mv 14 ht rfl rfl ?_;refine JG.mv 15 ht rfl rfl ?_;obtain rfl:=oi dS;refine Av.BK ?_ (dO _ _ ⟨bF,rfl,rfl,(Le.refl _),bl⟩);exact⟨rfl,rfl,rfl,rfl,rfl,rfl,trivial⟩
end Pal
namespace Pal
open Go Go.Conc Go.Proofs
open Go.Proofs.Tryz
variable {J:Judge Tryz.prog}{E:LH}
def HA(fuel:Nat)(p0:List (Int×Int×(List (Int×(List Int)×Nat))))(p1:Int)(p2:Int)(p3:Int)(ap:Unit):Option (AU (Unit) (((List (Int×Int×(List (Int×(List Int)×Nat)))))⊕(Unit))):=
 (Aw (p2 - p1)).bind fun Z=>
 if Z≤12 then(
  (f178 fuel p0 p1 p2).bind fun aa=>
  some (.done (Sum.inl aa))
 ) else(
  if p3=0 then(
   none
  ) else(
   (f181 fuel p0 p1 p2).bind fun K=>
   Option.bind (
    if K.2=2 then(
     (f182 fuel p0 p1 p2).bind fun ab=>
     (Aw (p2 - 1)).bind fun ac=>
     (Aw (K.1 - p1)).bind fun ae=>
     (Aw (ac - ae)).bind fun ag=>
     some (ag,1,ab)
    ) else(
     some (K.1,K.2,p0)
    )
   ) fun A=>
   Option.bind (
    if A.2.1=1 then(
     (f183 fuel A.2.2 p1 p2).bind fun O=>
     if O.1=true then(
      some (Sum.inl O.2)
     ) else(
      some (Sum.inr O.2)
     )
    ) else(
     some (Sum.inr A.2.2)
    )
   ) fun ah=>Sum.elim (fun r=>some (.done (Sum.inl r))) (fun U=>
   Option.bind (
    if 0<p1 then(
     (Aw (p1 - 1)).bind fun ai=>
     (ix U (ai)).bind fun aj=>
     (ix U (A.1)).bind fun ak=>
     (f134 fuel aj ak).bind fun al=>
     some (decide (¬(al<0)))
    ) else(
     some false
    )
   ) fun am=>
   if am=true then(
    none
   ) else(
    (f185 fuel U p1 p2 A.1).bind fun W=>
    (Aw (W.1 - p1)).bind fun an=>
    (Aw (p2 - W.1)).bind fun ao=>
    (EG (Z) (8)).bind fun aq=>
    if an<ao then(
     none
    ) else(
     (Aw (W.1+1)).bind fun ar=>
     none
    )
   )
   ) ah
  )
 )
def Fz(fuel:Nat)(p0:List (Int×Int×(List (Int×(List Int)×Nat))))(p1:Int)(p2:Int)(p3:Int):Option ((List (Int×Int×(List (Int×(List Int)×Nat))))):=
 Option.bind (iter (HA fuel p0 p1 p2 p3) fuel ()) fun A=>
 Sum.elim (fun r=>some r) (fun K=>
 none
 ) A
theorem Lw{A:Nat}{K:Nat}{O:Nat}{ab:Array Value}{p0:List (Int×Int×(List (Int×(List Int)×Nat)))}{p1:Int}{p2:Int}{p3:Int}(hW:WL 133 (rP rI (rP rI (rL (rP rI (rP (rL rI) (rN .u16)))))) E A K O ab p0){fuel:Nat}{r:(List (Int×Int×(List (Int×(List Int)×Nat))))}(aF:Fz fuel p0 p1 p2 p3=some r):Au J 162 [.slice (some ⟨A,0,none⟩) O K,iV p1,iV p2,iV p3,(.func (.func 134) #[] #[])] E [(A,.cells ab 133 (0,0))] (fun w E' B'=>∃(aG:Array Value),w= .tuple #[]∧B'= [(A,.cells aG 133 (0,0))]∧WL 133 (rP rI (rP rI (rL (rP rI (rP (rL rI) (rN .u16)))))) E' A K O aG (r)):=by
 refine Au.en func162 rfl rfl fun Q cC cs H bq aH=>?_;unfold Fz at aF;obtain⟨cD,br,aI⟩:=bs aF;refine JL.go 8 rfl ?_;refine JL.join (fun L s=>False) ?_ ?_
 ·intro _ _ bu;exact bu.elim
 ·intro cE;refine JL.block ?_;refine JL.wk [(0,.slice (some ⟨A,0,none⟩) O K),(1,iV p1),(2,iV p2),(3,iV p3),(4,(.func (.func 134) #[] #[])),(10,.bool true),(11,.bool true)] rfl ?_;refine JL.Bg br (fun L s bv=>∃(aJ:LH),Jm E H aJ [[(A,.cells ab 133 (0,0))]] [(0,.slice (some ⟨A,0,none⟩) O K),(1,iV p1),(2,iV p2),(3,iV p3),(4,(.func (.func 134) #[] #[])),(10,.bool true),(11,.bool true)] L s) ⟨E,rfl,rfl,(Le.refl _),bq⟩ ?_;rintro _ _ bv ⟨aJ,rfl,rfl,aa,aK⟩ aL ⟨cF,aj⟩ cG;have aM:=aj;unfold HA at aM;obtain⟨ai,bw,aN⟩:=bs aM;refine JL.go 5 rfl ?_;refine JL.Y rfl (fun ρ h=>Yl.A4 (h _ _ rfl) (h _ _ rfl) bw) ?_;refine JL.go 8 rfl ?_;refine JL.ifs (p:=ai≤12) rfl (fun ak=>?_) (fun ak=>?_)
  ·have aO:=aN;rw [if_pos ak] at aO;obtain⟨cH,bx,bz⟩:=bs aO;refine JL.go 6 rfl ?_;refine JS.Bw 0 (Mm (hW.mono aa) bx) rfl rfl (Ay func178 rfl) aK rfl ?_;rintro _ cI _ bA ⟨f32,rfl,rfl,bB⟩ bC;refine JS.norm (S':= [[(A,.cells f32 133 (0,0))]]) rfl bC fun bD=>?_;refine JL.done ?_;obtain rfl:=oi bz;obtain rfl:=aL _ aj;have bE:=elim_inl aI;obtain rfl:=oi bE;refine JL.rt func162 rfl rfl ?_;exact aH _ _ _ _ (aa.trans bA) rfl ⟨f32,rfl,(by first | rfl | simp | (simp [Value.cells])),bB⟩ bD
  ·have al:=aN;rw [if_neg ak] at al;refine JL.go 7 rfl ?_;refine JL.ifs (p:=p3=0) rfl (fun am=>?_) (fun am=>?_)
   ·have aP:=al;rw [if_pos am] at aP;refine JL.go 6 rfl ?_;cases aP
   ·have aQ:=al;rw [if_neg am] at aQ;refine JL.go 5 rfl ?_;refine JL.Y (v:= .bool false) rfl (fun ρ h=>Yl.not (c:=true) (h _ _ rfl)) ?_;obtain⟨bF,bG,bH⟩:=bs aQ;refine JL.go 9 rfl ?_;refine JS.Bw 0 (Mv (hW.mono aa) bG) rfl rfl (Ay func181 rfl) aK rfl ?_;rintro _ aR _ an ⟨rfl,rfl⟩ bI;refine JS.norm (S':= [[(A,.cells ab 133 (0,0))]]) rfl bI fun aS=>?_;obtain⟨Z,aT,bJ⟩:=bs bH;refine JL.go 12 rfl ?_;refine JL.join (fun L s=>∃(ac:LH) (f56:Array Value),Jn aR H ac [[(A,.cells f56 133 (0,0))]] [(0,.slice (some ⟨A,0,none⟩) O K),(1,iV p1),(2,iV p2),(3,iV p3),(4,(.func (.func 134) #[] #[])),(10,.bool true),(11,.bool true),(12,iV ai),(13,iV Z.1),(14,iV Z.2.1)] L s (WL 133 (rP rI (rP rI (rL (rP rI (rP (rL rI) (rN .u16)))))) ac A K O f56 (Z.2.2))) ?_ ?_
    ·rintro _ _ ⟨ac,f56,rfl,rfl,bK,aU,aV⟩;obtain⟨bL,aW,aX⟩:=bs bJ;refine JL.go 12 rfl ?_;refine JL.join (fun L s=>∃(ao:(List (Int×Int×(List (Int×(List Int)×Nat))))) (ae:LH) (f65:Array Value),bL=Sum.inr ao∧Jn ac H ae [[(A,.cells f65 133 (0,0))]] [(0,.slice (some ⟨A,0,none⟩) O K),(1,iV p1),(2,iV p2),(3,iV p3),(4,(.func (.func 134) #[] #[])),(10,.bool true),(11,.bool true),(12,iV ai),(13,iV Z.1)] L s (WL 133 (rP rI (rP rI (rL (rP rI (rP (rL rI) (rN .u16)))))) ae A K O f65 (ao))) ?_ ?_
     ·rintro _ _ ⟨ao,ae,f65,rfl,rfl,rfl,cJ,ag,ah⟩;have bM:=elim_inr aX;refine JL.go 2 rfl ?_;refine JG.BX 17 [A] ⟨⟨0,_,rfl⟩,trivial⟩ ag mixed rfl (by decide+kernel) fun ht=>?_;refine JG.mv 0 ht rfl rfl ?_;refine JG.mv 1 ht rfl rfl ?_;refine JG.mv 2 ht rfl rfl ?_;obtain⟨aY,aZ,a0⟩:=bs bM;refine Av.join 0 #[true,true,true,true,true,true,true,true,true,true,true,true,true,true,true,true,true] (fun L s=>∃(a1:LH),Jm ae H a1 [[(A,.cells f65 133 (0,0))]] [(0,.slice (some ⟨A,0,none⟩) O K),(1,iV p1),(2,iV p2),(3,iV p3),(4,(.func (.func 134) #[] #[])),(10,.bool true),(11,.bool true),(12,iV ai),(13,iV Z.1),(97,.bool aY)] L s) ?_ ?_
      ·rintro _ _ ⟨a1,rfl,rfl,bN,bO⟩;refine Av.fin (by decide+kernel) ?_;refine JL.split (t:=aY) rfl (fun ap=>?_) (fun ap=>?_)
       ·have a2:=a0;rw [if_pos ap] at a2;refine JL.go 7 rfl ?_;cases a2
       ·have a3:=a0;rw [if_neg (by rw [ap];exact Bool.false_ne_true)] at a3;obtain⟨cK,bP,bQ⟩:=bs a3;refine JL.go 8 rfl ?_;refine JS.Bw 0 (MB (ah.mono bN) bP) rfl rfl (Ay func185 rfl) bO rfl ?_;rintro _ cM _ cN ⟨f83,rfl,rfl,cO⟩ bR;refine JS.norm (S':= [[(A,.cells f83 133 (0,0))]]) rfl bR fun cP=>?_;obtain⟨bS,bT,bU⟩:=bs bQ;refine JL.go 15 rfl ?_;refine JL.Y rfl (fun ρ h=>Yl.A4 (h _ _ rfl) (h _ _ rfl) bT) ?_;obtain⟨bV,bW,bX⟩:=bs bU;refine JL.go 2 rfl ?_;refine JL.Y rfl (fun ρ h=>Yl.A4 (h _ _ rfl) (h _ _ rfl) bW) ?_;obtain⟨bY,bZ,a4⟩:=bs bX;refine JL.go 6 rfl ?_;refine JL.Y (v:=iV bY) rfl (fun ρ h=>Yl.Hd (h _ _ rfl) (h _ _ rfl) bZ) ?_;refine JL.go 8 rfl ?_;refine JL.ifs (p:=bS<bV) rfl (fun aq=>?_) (fun aq=>?_)
        ·have a5:=a4;rw [if_pos aq] at a5;refine JL.go 14 rfl ?_;cases a5
        ·have a6:=a4;rw [if_neg aq] at a6;obtain⟨cQ,b0,b1⟩:=bs a6;refine JL.go 11 rfl ?_;refine JL.Y rfl (fun ρ h=>Yl.A1 (h _ _ rfl) (h _ _ rfl) b0) ?_;refine JL.go 3 rfl ?_;cases b1
      ·intro a7;refine Av.BP (q:=0<p1) (i:=83) rfl (fun ar=>?_) (fun ar=>?_)
       ·have a8:=aZ;rw [if_pos ar] at a8;refine JG.mv 3 ht rfl rfl ?_;refine JG.mv 4 ht rfl rfl ?_;refine JG.mv 5 ht rfl rfl ?_;obtain⟨b2,b3,b4⟩:=bs a8;refine JG.V 6 ht rfl rfl (fun ρ h s' hs=>Yl.A4 (h _ _ rfl) (h _ _ rfl) b3) ?_;obtain⟨U,a9,b5⟩:=bs b4;obtain⟨_,⟨_,_,rfl,rfl,⟨_,_,rfl,rfl,⟨au,av,rfl,b6⟩⟩⟩,aw⟩:=WL.at ah a9;replace aw:∀(j:Nat) w,[iV U.1,iV U.2.1,.slice au (U.2.2).length av][j]? =some w→f65[Int.toNat (b2)*3+j]? =some w:=aw;refine JG.V 7 ht rfl rfl (fun ρ h s' hs=>Yl.A7 (ah).2 a9 underlying130 (Ah type133) (h _ _ rfl) (h _ _ rfl)) ?_;refine JG.V 8 ht rfl rfl (fun ρ h s' hs=>Yl.Bh (vs:= [iV U.1,iV U.2.1,.slice au (U.2.2).length av]) (Ao underlying133) (Ah type133) (h _ _ rfl) (fun q w ay=>by rw [Ba rfl];exact Bb 0 ag rfl (by simp [AD]) hs (aw q w ay))) ?_;refine JG.mv 9 ht rfl rfl ?_;refine JG.mv 10 ht rfl rfl ?_;obtain⟨W,ba,b7⟩:=bs b5;obtain⟨_,⟨_,_,rfl,rfl,⟨_,_,rfl,rfl,⟨az,aA,rfl,b8⟩⟩⟩,aB⟩:=WL.at ah ba;replace aB:∀(j:Nat) w,[iV W.1,iV W.2.1,.slice az (W.2.2).length aA][j]? =some w→f65[Int.toNat (Z.1)*3+j]? =some w:=aB;refine JG.V 11 ht rfl rfl (fun ρ h s' hs=>Yl.A7 (ah).2 ba underlying130 (Ah type133) (h _ _ rfl) (h _ _ rfl)) ?_;refine JG.V 12 ht rfl rfl (fun ρ h s' hs=>Yl.Bh (vs:= [iV W.1,iV W.2.1,.slice az (W.2.2).length aA]) (Ao underlying133) (Ah type133) (h _ _ rfl) (fun q w ay=>by rw [Ba rfl];exact Bb 0 ag rfl (by simp [AD]) hs (aB q w ay))) ?_;obtain⟨b9,ca,cb⟩:=bs b7;refine JG.ER (i:=13) ⟨⟨0,_,rfl⟩,trivial⟩ (vs:= [.agg #[iV U.1,iV U.2.1,.slice au (U.2.2).length av],.agg #[iV W.1,iV W.2.1,.slice az (W.2.2).length aA]]) (Ec b6 b8 ca) (by decide+kernel) rfl rfl rfl rfl (Ay func134 rfl) rfl ag ?_;rintro _ cc _ cd ⟨rfl,rfl⟩ ce;refine JG.mv 14 ht rfl rfl ?_;refine JG.V (v:= .bool (decide (¬(b9<0)))) 15 ht rfl rfl (fun ρ h s' hs=>Yl.F1 (h _ _ rfl)) ?_;refine JG.mv 16 ht rfl rfl ?_;obtain rfl:=oi cb;refine Av.BK ?_ (a7 _ _ ⟨cc,rfl,rfl,cd,ce⟩);exact⟨rfl,rfl,rfl,rfl,rfl,rfl,rfl,rfl,rfl,rfl,trivial⟩
       ·have bb:=aZ;rw [if_neg ar] at bb;refine JG.mv 3 ht rfl rfl ?_;refine JG.mv 4 ht rfl rfl ?_;refine JG.mv 5 ht rfl rfl ?_;refine JG.mv 6 ht rfl rfl ?_;refine JG.mv 7 ht rfl rfl ?_;refine JG.mv 8 ht rfl rfl ?_;refine JG.mv 9 ht rfl rfl ?_;refine JG.mv 10 ht rfl rfl ?_;refine JG.mv 11 ht rfl rfl ?_;refine JG.mv 12 ht rfl rfl ?_;refine JG.mv 13 ht rfl rfl ?_;refine JG.mv 14 ht rfl rfl ?_;refine JG.mv 15 ht rfl rfl ?_;refine JG.mv 16 ht rfl rfl ?_;obtain rfl:=oi bb;refine Av.BK ?_ (a7 _ _ ⟨ae,rfl,rfl,(Le.refl _),ag⟩);exact⟨rfl,rfl,rfl,rfl,rfl,rfl,rfl,rfl,rfl,rfl,trivial⟩
     ·intro bc;refine JL.ifs (p:=Z.2.1=1) rfl (fun aC=>?_) (fun aC=>?_)
      ·have bd:=aW;rw [if_pos aC] at bd;obtain⟨bf,cf,bg⟩:=bs bd;refine JL.go 6 rfl ?_;refine JS.Bw 0 (MF aV cf) rfl rfl (Ay func183 rfl) aU rfl ?_;rintro _ cg _ bh ⟨f133,rfl,rfl,bi⟩ ci;refine JS.norm (S':= [[(A,.cells f133 133 (0,0))]]) rfl ci fun bj=>?_;refine JL.done ?_;refine JL.split (t:=bf.1) rfl (fun aD=>?_) (fun aD=>?_)
       ·have bk:=bg;rw [if_pos aD] at bk;obtain rfl:=oi bk;have ck:=elim_inl aX;obtain rfl:=oi ck;obtain rfl:=aL _ aj;have cm:=elim_inl aI;obtain rfl:=oi cm;refine JL.rt func162 rfl rfl ?_;exact aH _ _ _ _ (((aa.trans an).trans bK).trans bh) rfl ⟨f133,rfl,(by first | rfl | simp | (simp [Value.cells])),bi⟩ bj
       ·have bl:=bg;rw [if_neg (by rw [aD];exact Bool.false_ne_true)] at bl;refine JL.skip ?_;exact JL.kw (bc _ _ ⟨bf.2,cg,f133,(Option.some.inj bl).symm,rfl,rfl,bh,bj,bi⟩) rfl
      ·have bm:=aW;rw [if_neg aC] at bm;refine JL.skip ?_;exact JL.kw (bc _ _ ⟨Z.2.2,ac,f56,(Option.some.inj bm).symm,rfl,rfl,(Le.refl _),aU,aV⟩) rfl
    ·intro bn;refine JL.ifs (p:=bF.2=2) rfl (fun aE=>?_) (fun aE=>?_)
     ·have bo:=aT;rw [if_pos aE] at bo;obtain⟨cR,cn,co⟩:=bs bo;refine JL.go 6 rfl ?_;refine JS.Bw 0 (Mj (hW.mono (aa.trans an)) cn) rfl rfl (Ay func182 rfl) aS rfl ?_;rintro _ cp _ cq ⟨f156,rfl,rfl,cr⟩ ct;refine JS.norm (S':= [[(A,.cells f156 133 (0,0))]]) rfl ct fun cu=>?_;obtain⟨cT,cv,cw⟩:=bs co;refine JL.go 4 rfl ?_;refine JL.Y rfl (fun ρ h=>Yl.A4 (h _ _ rfl) (h _ _ rfl) cv) ?_;obtain⟨cV,cy,cz⟩:=bs cw;refine JL.go 2 rfl ?_;refine JL.Y rfl (fun ρ h=>Yl.A4 (h _ _ rfl) (h _ _ rfl) cy) ?_;obtain⟨cW,cA,cB⟩:=bs cz;refine JL.Y rfl (fun ρ h=>Yl.A4 (h _ _ rfl) (h _ _ rfl) cA) ?_;refine JL.go 5 rfl ?_;obtain rfl:=oi cB;exact JL.kw (bn _ _ ⟨cp,f156,rfl,rfl,cq,cu,cr⟩) rfl
     ·have bp:=aT;rw [if_neg aE] at bp;refine JL.skip ?_;obtain rfl:=oi bp;exact JL.kw (bn _ _ ⟨aR,ab,rfl,rfl,(Le.refl _),aS,(hW.mono (aa.trans an))⟩) rfl
def Ew(fuel:Nat)(p3:Int)(A:Int×Int×Bool×Bool×(List (Int×Int×(List (Int×(List Int)×Nat))))):Option (AU (Int×Int×Bool×Bool×(List (Int×Int×(List (Int×(List Int)×Nat))))) (((List (Int×Int×(List (Int×(List Int)×Nat)))))⊕(Unit))):=
 Option.bind (
  (Aw (A.2.1 - A.1)).bind fun ab=>
  if ab≤12 then(
   (f178 fuel A.2.2.2.2 A.1 A.2.1).bind fun ah=>
   some (Sum.inl ah)
  ) else(
   if p3=0 then(
    none
   ) else(
    Option.bind (
     if(!A.2.2.1)=true then(
      none
     ) else(
      some ()
     )
    ) fun aD=>
    (f181 fuel A.2.2.2.2 A.1 A.2.1).bind fun U=>
    Option.bind (
     if U.2=2 then(
      (f182 fuel A.2.2.2.2 A.1 A.2.1).bind fun ai=>
      (Aw (A.2.1 - 1)).bind fun aj=>
      (Aw (U.1 - A.1)).bind fun ak=>
      (Aw (aj - ak)).bind fun al=>
      some (al,1,ai)
     ) else(
      some (U.1,U.2,A.2.2.2.2)
     )
    ) fun O=>
    Option.bind (
     if A.2.2.1=true then(
      some A.2.2.2.1
     ) else(
      some false
     )
    ) fun am=>
    Option.bind (
     if am=true then(
      some (decide (O.2.1=1))
     ) else(
      some false
     )
    ) fun an=>
    Option.bind (
     if an=true then(
      (f183 fuel O.2.2 A.1 A.2.1).bind fun Z=>
      if Z.1=true then(
       some (Sum.inl Z.2)
      ) else(
       some (Sum.inr Z.2)
      )
     ) else(
      some (Sum.inr O.2.2)
     )
    ) fun ao=>Sum.elim (fun r=>some (Sum.inl r)) (fun aa=>
    Option.bind (
     if 0<A.1 then(
      (Aw (A.1 - 1)).bind fun ap=>
      (ix aa (ap)).bind fun aq=>
      (ix aa (O.1)).bind fun ar=>
      (f134 fuel aq ar).bind fun au=>
      some (decide (¬(au<0)))
     ) else(
      some false
     )
    ) fun av=>
    if av=true then(
     none
    ) else(
     (f185 fuel aa A.1 A.2.1 O.1).bind fun K=>
     (Aw (K.1 - A.1)).bind fun ac=>
     (Aw (A.2.1 - K.1)).bind fun ae=>
     (EG (ab) (8)).bind fun ag=>
     Option.bind (
      if ac<ae then(
       (Fz fuel K.2.2 A.1 K.1 p3).bind fun aw=>
       (Aw (K.1+1)).bind fun ay=>
       some (ay,A.2.1,decide (ag≤ac),aw)
      ) else(
       (Aw (K.1+1)).bind fun az=>
       (Fz fuel K.2.2 az A.2.1 p3).bind fun aA=>
       some (A.1,K.1,decide (ag≤ae),aA)
      )
     ) fun W=>
     some (Sum.inr (W.1,W.2.1,W.2.2.1,K.2.1,W.2.2.2))
    )
    ) ao
   )
  )
 ) fun aB=>Sum.elim (fun r=>some (.done (Sum.inl r))) (fun aC=>
 some (.more aC)
 ) aB
def f162(fuel:Nat)(p0:List (Int×Int×(List (Int×(List Int)×Nat))))(p1:Int)(p2:Int)(p3:Int):Option ((List (Int×Int×(List (Int×(List Int)×Nat))))):=
 Option.bind (iter (Ew fuel p3) fuel (p1,p2,true,true,p0)) fun A=>
 Sum.elim (fun r=>some r) (fun K=>
 none
 ) A
theorem Qj{A:Nat}{O:Nat}{U:Nat}{ay:Array Value}{p0:List (Int×Int×(List (Int×(List Int)×Nat)))}{p1:Int}{p2:Int}{p3:Int}(hW:WL 133 (rP rI (rP rI (rL (rP rI (rP (rL rI) (rN .u16)))))) E A O U ay p0){fuel:Nat}{r:(List (Int×Int×(List (Int×(List Int)×Nat))))}(aV:f162 fuel p0 p1 p2 p3=some r):Au J 162 [.slice (some ⟨A,0,none⟩) U O,iV p1,iV p2,iV p3,(.func (.func 134) #[] #[])] E [(A,.cells ay 133 (0,0))] (fun w E' B'=>∃(aW:Array Value),w= .tuple #[]∧B'= [(A,.cells aW 133 (0,0))]∧WL 133 (rP rI (rP rI (rL (rP rI (rP (rL rI) (rN .u16)))))) E' A O U aW (r)):=by
 refine Au.en func162 rfl rfl fun Q dT cs H b5 aX=>?_;unfold f162 at aV;obtain⟨dU,b6,aY⟩:=bs aV;refine JL.go 8 rfl ?_;refine JL.join (fun L s=>False) ?_ ?_
 ·intro _ _ b7;exact b7.elim
 ·intro dV;refine JL.block ?_;refine JL.wk [(0,.slice (some ⟨A,0,none⟩) U O),(1,iV p1),(2,iV p2),(3,iV p3),(4,(.func (.func 134) #[] #[])),(10,.bool true),(11,.bool true)] rfl ?_;refine JL.Bg b6 (fun L s K=>∃(ag:LH) (f22:Array Value),Jn E H ag [[(A,.cells f22 133 (0,0))]] [(0,.slice (some ⟨A,0,none⟩) U O),(1,iV K.1),(2,iV K.2.1),(3,iV p3),(4,(.func (.func 134) #[] #[])),(10,.bool K.2.2.1),(11,.bool K.2.2.2.1)] L s (WL 133 (rP rI (rP rI (rL (rP rI (rP (rL rI) (rN .u16)))))) ag A O U f22 (K.2.2.2.2))) ⟨E,ay,rfl,rfl,(Le.refl _),b5,hW⟩ ?_;rintro _ _ K ⟨ag,f22,rfl,rfl,az,aZ,an⟩ a0 ⟨dW,ao⟩ b8;have a1:=ao;unfold Ew at a1;obtain⟨b9,ca,aA⟩:=bs a1;refine JL.join (fun L s=>∃(ab:Int×Int×Bool×Bool×(List (Int×Int×(List (Int×(List Int)×Nat))))) (ap:LH) (f36:Array Value),b9=Sum.inr ab∧Jn ag H ap [[(A,.cells f36 133 (0,0))]] [(0,.slice (some ⟨A,0,none⟩) U O),(1,iV ab.1),(2,iV ab.2.1),(3,iV p3),(4,(.func (.func 134) #[] #[])),(10,.bool ab.2.2.1),(11,.bool ab.2.2.2.1)] L s (WL 133 (rP rI (rP rI (rL (rP rI (rP (rL rI) (rN .u16)))))) ap A O U f36 (ab.2.2.2.2))) ?_ ?_
  ·rintro _ _ ⟨ab,ap,f36,rfl,rfl,rfl,cb,cc,cd⟩;have ce:=elim_inr aA;obtain rfl:=oi ce;exact JL.kw (b8 _ _ ab ⟨ap,f36,rfl,rfl,(az.trans cb),cc,cd⟩ ao) rfl
  ·intro cf;obtain⟨ae,cg,a2⟩:=bs ca;refine JL.go 5 rfl ?_;refine JL.Y rfl (fun ρ h=>Yl.A4 (h _ _ rfl) (h _ _ rfl) cg) ?_;refine JL.go 8 rfl ?_;refine JL.ifs (p:=ae≤12) rfl (fun aB=>?_) (fun aB=>?_)
   ·have a3:=a2;rw [if_pos aB] at a3;obtain⟨dX,ci,ck⟩:=bs a3;refine JL.go 6 rfl ?_;refine JS.Bw 0 (Mm an ci) rfl rfl (Ay func178 rfl) aZ rfl ?_;rintro _ dY _ cm ⟨f52,rfl,rfl,cn⟩ co;refine JS.norm (S':= [[(A,.cells f52 133 (0,0))]]) rfl co fun cp=>?_;refine JL.done ?_;obtain rfl:=oi ck;have cq:=elim_inl aA;obtain rfl:=oi cq;obtain rfl:=a0 _ ao;have cr:=elim_inl aY;obtain rfl:=oi cr;refine JL.rt func162 rfl rfl ?_;exact aX _ _ _ _ (az.trans cm) rfl ⟨f52,rfl,(by first | rfl | simp | (simp [Value.cells])),cn⟩ cp
   ·have aC:=a2;rw [if_neg aB] at aC;refine JL.go 7 rfl ?_;refine JL.ifs (p:=p3=0) rfl (fun aD=>?_) (fun aD=>?_)
    ·have a4:=aC;rw [if_pos aD] at a4;refine JL.go 6 rfl ?_;cases a4
    ·have a5:=aC;rw [if_neg aD] at a5;refine JL.go 5 rfl ?_;refine JL.Y (v:= .bool (!K.2.2.1)) rfl (fun ρ h=>Yl.not (h _ _ rfl)) ?_;obtain⟨dZ,a6,ct⟩:=bs a5;refine JL.done ?_;refine JL.join (fun L s=>∃(a7:LH),Jm ag H a7 [[(A,.cells f22 133 (0,0))]] [(0,.slice (some ⟨A,0,none⟩) U O),(1,iV K.1),(2,iV K.2.1),(3,iV p3),(4,(.func (.func 134) #[] #[])),(10,.bool K.2.2.1),(11,.bool K.2.2.2.1),(12,iV ae)] L s) ?_ ?_
     ·rintro _ _ ⟨a7,rfl,rfl,ai,cu⟩;obtain⟨cv,cw,cy⟩:=bs ct;refine JL.go 6 rfl ?_;refine JS.Bw 0 (Mv (an.mono ai) cw) rfl rfl (Ay func181 rfl) cu rfl ?_;rintro _ a8 _ aq ⟨rfl,rfl⟩ cz;refine JS.norm (S':= [[(A,.cells f22 133 (0,0))]]) rfl cz fun a9=>?_;obtain⟨W,ba,cA⟩:=bs cy;refine JL.go 12 rfl ?_;refine JL.join (fun L s=>∃(ah:LH) (f84:Array Value),Jn a8 H ah [[(A,.cells f84 133 (0,0))]] [(0,.slice (some ⟨A,0,none⟩) U O),(1,iV K.1),(2,iV K.2.1),(3,iV p3),(4,(.func (.func 134) #[] #[])),(10,.bool K.2.2.1),(11,.bool K.2.2.2.1),(12,iV ae),(13,iV W.1),(14,iV W.2.1)] L s (WL 133 (rP rI (rP rI (rL (rP rI (rP (rL rI) (rN .u16)))))) ah A O U f84 (W.2.2))) ?_ ?_
      ·rintro _ _ ⟨ah,f84,rfl,rfl,bb,bc,bd⟩;obtain⟨bf,bg,cB⟩:=bs cA;refine JL.go 5 rfl ?_;refine JL.By [4,5,6,7] (fun L s=>∃(aj:LH),Jm ah H aj [[(A,.cells f84 133 (0,0))]] [(0,.slice (some ⟨A,0,none⟩) U O),(1,iV K.1),(2,iV K.2.1),(3,iV p3),(4,(.func (.func 134) #[] #[])),(10,.bool K.2.2.1),(11,.bool K.2.2.2.1),(12,iV ae),(13,iV W.1),(14,iV W.2.1),(71,.bool bf)] L s) ?_ ?_
       ·rintro _ _ ⟨aj,rfl,rfl,ar,bh⟩;obtain⟨bi,bj,cC⟩:=bs cB;refine JL.go 1 rfl ?_;refine JL.By [] (fun L s=>∃(au:LH),Jm aj H au [[(A,.cells f84 133 (0,0))]] [(0,.slice (some ⟨A,0,none⟩) U O),(1,iV K.1),(2,iV K.2.1),(3,iV p3),(4,(.func (.func 134) #[] #[])),(10,.bool K.2.2.1),(11,.bool K.2.2.2.1),(12,iV ae),(13,iV W.1),(75,.bool bi)] L s) ?_ ?_
        ·rintro _ _ ⟨au,rfl,rfl,av,bk⟩;obtain⟨cD,bl,bm⟩:=bs cC;refine JL.done ?_;refine JL.join (fun L s=>∃(aE:(List (Int×Int×(List (Int×(List Int)×Nat))))) (ak:LH) (f105:Array Value),cD=Sum.inr aE∧Jn au H ak [[(A,.cells f105 133 (0,0))]] [(0,.slice (some ⟨A,0,none⟩) U O),(1,iV K.1),(2,iV K.2.1),(3,iV p3),(4,(.func (.func 134) #[] #[])),(10,.bool K.2.2.1),(11,.bool K.2.2.2.1),(12,iV ae),(13,iV W.1)] L s (WL 133 (rP rI (rP rI (rL (rP rI (rP (rL rI) (rN .u16)))))) ak A O U f105 (aE))) ?_ ?_
         ·rintro _ _ ⟨aE,ak,f105,rfl,rfl,rfl,cE,al,am⟩;have cF:=elim_inr bm;refine JL.go 2 rfl ?_;refine JG.BX 17 [A] ⟨⟨0,_,rfl⟩,trivial⟩ al mixed rfl (by decide+kernel) fun ht=>?_;refine JG.mv 0 ht rfl rfl ?_;refine JG.mv 1 ht rfl rfl ?_;refine JG.mv 2 ht rfl rfl ?_;obtain⟨bn,bo,bp⟩:=bs cF;refine Av.join 0 #[true,true,true,true,true,true,true,true,true,true,true,true,true,true,true,true,true] (fun L s=>∃(bq:LH),Jm ak H bq [[(A,.cells f105 133 (0,0))]] [(0,.slice (some ⟨A,0,none⟩) U O),(1,iV K.1),(2,iV K.2.1),(3,iV p3),(4,(.func (.func 134) #[] #[])),(10,.bool K.2.2.1),(11,.bool K.2.2.2.1),(12,iV ae),(13,iV W.1),(97,.bool bn)] L s) ?_ ?_
          ·rintro _ _ ⟨bq,rfl,rfl,br,cG⟩;refine Av.fin (by decide+kernel) ?_;refine JL.split (t:=bn) rfl (fun aF=>?_) (fun aF=>?_)
           ·have bu:=bp;rw [if_pos aF] at bu;refine JL.go 7 rfl ?_;cases bu
           ·have bv:=bp;rw [if_neg (by rw [aF];exact Bool.false_ne_true)] at bv;obtain⟨bw,cH,cI⟩:=bs bv;refine JL.go 8 rfl ?_;refine JS.Bw 0 (MB (am.mono br) cH) rfl rfl (Ay func185 rfl) cG rfl ?_;rintro _ cJ _ cK ⟨f123,rfl,rfl,bx⟩ cM;refine JS.norm (S':= [[(A,.cells f123 133 (0,0))]]) rfl cM fun bz=>?_;obtain⟨cN,cO,cP⟩:=bs cI;refine JL.go 15 rfl ?_;refine JL.Y rfl (fun ρ h=>Yl.A4 (h _ _ rfl) (h _ _ rfl) cO) ?_;obtain⟨cQ,cR,cT⟩:=bs cP;refine JL.go 2 rfl ?_;refine JL.Y rfl (fun ρ h=>Yl.A4 (h _ _ rfl) (h _ _ rfl) cR) ?_;obtain⟨cV,cW,cX⟩:=bs cT;refine JL.go 6 rfl ?_;refine JL.Y (v:=iV cV) rfl (fun ρ h=>Yl.Hd (h _ _ rfl) (h _ _ rfl) cW) ?_;obtain⟨ac,bA,cY⟩:=bs cX;refine JL.go 8 rfl ?_;refine JL.join (fun L s=>∃(aw:LH) (f138:Array Value),Jn cJ H aw [[(A,.cells f138 133 (0,0))]] [(0,.slice (some ⟨A,0,none⟩) U O),(1,iV ac.1),(2,iV ac.2.1),(3,iV p3),(4,(.func (.func 134) #[] #[])),(10,.bool ac.2.2.1),(11,.bool bw.2.1)] L s (WL 133 (rP rI (rP rI (rL (rP rI (rP (rL rI) (rN .u16)))))) aw A O U f138 (ac.2.2.2))) ?_ ?_
            ·rintro _ _ ⟨aw,f138,rfl,rfl,cZ,c0,c1⟩;refine JL.outBlock ?_;exact JL.kw (cf _ _ ⟨(ac.1,ac.2.1,ac.2.2.1,bw.2.1,ac.2.2.2),aw,f138,(Option.some.inj cY).symm,rfl,rfl,((((((((ai.trans aq).trans bb).trans ar).trans av).trans cE).trans br).trans cK).trans cZ),c0,c1⟩) rfl
            ·intro bB;refine JL.ifs (p:=cN<cQ) rfl (fun aG=>?_) (fun aG=>?_)
             ·have bC:=bA;rw [if_pos aG] at bC;obtain⟨ea,c2,c3⟩:=bs bC;refine JL.go 14 rfl ?_;refine JS.Bw 0 (Lw bx c2) rfl rfl (Ay func162 rfl) bz rfl ?_;rintro _ c4 _ c5 ⟨f150,rfl,rfl,c6⟩ c7;refine JS.norm (S':= [[(A,.cells f150 133 (0,0))]]) rfl c7 fun c8=>?_;obtain⟨eb,c9,da⟩:=bs c3;refine JL.go 3 rfl ?_;refine JL.Y rfl (fun ρ h=>Yl.A1 (h _ _ rfl) (h _ _ rfl) c9) ?_;refine JL.go 2 rfl ?_;obtain rfl:=oi da;exact JL.kw (bB _ _ ⟨c4,f150,rfl,rfl,c5,c8,c6⟩) rfl
             ·have bD:=bA;rw [if_neg aG] at bD;obtain⟨ec,db,dc⟩:=bs bD;refine JL.go 11 rfl ?_;refine JL.Y rfl (fun ρ h=>Yl.A1 (h _ _ rfl) (h _ _ rfl) db) ?_;obtain⟨ed,dd,de⟩:=bs dc;refine JL.go 3 rfl ?_;refine JS.Bw 0 (Lw bx dd) rfl rfl (Ay func162 rfl) bz rfl ?_;rintro _ df _ dg ⟨f165,rfl,rfl,dh⟩ di;refine JS.norm (S':= [[(A,.cells f165 133 (0,0))]]) rfl di fun dj=>?_;refine JL.go 5 rfl ?_;obtain rfl:=oi de;exact JL.kw (bB _ _ ⟨df,f165,rfl,rfl,dg,dj,dh⟩) rfl
          ·intro bE;refine Av.BP (q:=0<K.1) (i:=83) rfl (fun aH=>?_) (fun aH=>?_)
           ·have bF:=bo;rw [if_pos aH] at bF;refine JG.mv 3 ht rfl rfl ?_;refine JG.mv 4 ht rfl rfl ?_;refine JG.mv 5 ht rfl rfl ?_;obtain⟨dk,dl,dm⟩:=bs bF;refine JG.V 6 ht rfl rfl (fun ρ h s' hs=>Yl.A4 (h _ _ rfl) (h _ _ rfl) dl) ?_;obtain⟨Z,bG,dn⟩:=bs dm;obtain⟨_,⟨_,_,rfl,rfl,⟨_,_,rfl,rfl,⟨aI,aJ,rfl,dp⟩⟩⟩,aK⟩:=WL.at am bG;replace aK:∀(j:Nat) w,[iV Z.1,iV Z.2.1,.slice aI (Z.2.2).length aJ][j]? =some w→f105[Int.toNat (dk)*3+j]? =some w:=aK;refine JG.V 7 ht rfl rfl (fun ρ h s' hs=>Yl.A7 (am).2 bG underlying130 (Ah type133) (h _ _ rfl) (h _ _ rfl)) ?_;refine JG.V 8 ht rfl rfl (fun ρ h s' hs=>Yl.Bh (vs:= [iV Z.1,iV Z.2.1,.slice aI (Z.2.2).length aJ]) (Ao underlying133) (Ah type133) (h _ _ rfl) (fun q w aL=>by rw [Ba rfl];exact Bb 0 al rfl (by simp [AD]) hs (aK q w aL))) ?_;refine JG.mv 9 ht rfl rfl ?_;refine JG.mv 10 ht rfl rfl ?_;obtain⟨aa,bH,dq⟩:=bs dn;obtain⟨_,⟨_,_,rfl,rfl,⟨_,_,rfl,rfl,⟨aM,aN,rfl,dr⟩⟩⟩,aO⟩:=WL.at am bH;replace aO:∀(j:Nat) w,[iV aa.1,iV aa.2.1,.slice aM (aa.2.2).length aN][j]? =some w→f105[Int.toNat (W.1)*3+j]? =some w:=aO;refine JG.V 11 ht rfl rfl (fun ρ h s' hs=>Yl.A7 (am).2 bH underlying130 (Ah type133) (h _ _ rfl) (h _ _ rfl)) ?_;refine JG.V 12 ht rfl rfl (fun ρ h s' hs=>Yl.Bh (vs:= [iV aa.1,iV aa.2.1,.slice aM (aa.2.2).length aN]) (Ao underlying133) (Ah type133) (h _ _ rfl) (fun q w aL=>by rw [Ba rfl];exact Bb 0 al rfl (by simp [AD]) hs (aO q w aL))) ?_;obtain⟨dt,du,dv⟩:=bs dq;refine JG.ER (i:=13) ⟨⟨0,_,rfl⟩,trivial⟩ (vs:= [.agg #[iV Z.1,iV Z.2.1,.slice aI (Z.2.2).length aJ],.agg #[iV aa.1,iV aa.2.1,.slice aM (aa.2.2).length aN]]) (Ec dp dr du) (by decide+kernel) rfl rfl rfl rfl (Ay func134 rfl) rfl al ?_;rintro _ dw _ dx ⟨rfl,rfl⟩ dy;refine JG.mv 14 ht rfl rfl ?_;refine JG.V (v:= .bool (decide (¬(dt<0)))) 15 ht rfl rfl (fun ρ h s' hs=>Yl.F1 (h _ _ rfl)) ?_;refine JG.mv 16 ht rfl rfl ?_;obtain rfl:=oi dv;refine Av.BK ?_ (bE _ _ ⟨dw,rfl,rfl,dx,dy⟩);exact⟨rfl,rfl,rfl,rfl,rfl,rfl,rfl,rfl,rfl,rfl,trivial⟩
           ·have bI:=bo;rw [if_neg aH] at bI;refine JG.mv 3 ht rfl rfl ?_;refine JG.mv 4 ht rfl rfl ?_;refine JG.mv 5 ht rfl rfl ?_;refine JG.mv 6 ht rfl rfl ?_;refine JG.mv 7 ht rfl rfl ?_;refine JG.mv 8 ht rfl rfl ?_;refine JG.mv 9 ht rfl rfl ?_;refine JG.mv 10 ht rfl rfl ?_;refine JG.mv 11 ht rfl rfl ?_;refine JG.mv 12 ht rfl rfl ?_;refine JG.mv 13 ht rfl rfl ?_;refine JG.mv 14 ht rfl rfl ?_;refine JG.mv 15 ht rfl rfl ?_;refine JG.mv 16 ht rfl rfl ?_;obtain rfl:=oi bI;refine Av.BK ?_ (bE _ _ ⟨ak,rfl,rfl,(Le.refl _),al⟩);exact⟨rfl,rfl,rfl,rfl,rfl,rfl,rfl,rfl,rfl,rfl,trivial⟩
         ·intro bJ;refine JL.split (t:=bi) rfl (fun aP=>?_) (fun aP=>?_)
          ·have bK:=bl;rw [if_pos aP] at bK;obtain⟨bL,dz,bM⟩:=bs bK;refine JL.go 6 rfl ?_;refine JS.Bw 0 (MF (bd.mono (ar.trans av)) dz) rfl rfl (Ay func183 rfl) bk rfl ?_;rintro _ dA _ bN ⟨f205,rfl,rfl,bO⟩ dB;refine JS.norm (S':= [[(A,.cells f205 133 (0,0))]]) rfl dB fun bP=>?_;refine JL.done ?_;refine JL.split (t:=bL.1) rfl (fun aQ=>?_) (fun aQ=>?_)
           ·have bQ:=bM;rw [if_pos aQ] at bQ;obtain rfl:=oi bQ;have dC:=elim_inl bm;obtain rfl:=oi dC;have dD:=elim_inl aA;obtain rfl:=oi dD;obtain rfl:=a0 _ ao;have dE:=elim_inl aY;obtain rfl:=oi dE;refine JL.rt func162 rfl rfl ?_;exact aX _ _ _ _ ((((((az.trans ai).trans aq).trans bb).trans ar).trans av).trans bN) rfl ⟨f205,rfl,(by first | rfl | simp | (simp [Value.cells])),bO⟩ bP
           ·have bR:=bM;rw [if_neg (by rw [aQ];exact Bool.false_ne_true)] at bR;refine JL.skip ?_;exact JL.kw (bJ _ _ ⟨bL.2,dA,f205,(Option.some.inj bR).symm,rfl,rfl,bN,bP,bO⟩) rfl
          ·have bS:=bl;rw [if_neg (by rw [aP];exact Bool.false_ne_true)] at bS;refine JL.skip ?_;exact JL.kw (bJ _ _ ⟨W.2.2,au,f84,(Option.some.inj bS).symm,rfl,rfl,(Le.refl _),bk,(bd.mono (ar.trans av))⟩) rfl
        ·intro bT;refine JL.BW (c:=bf) (i:=72) rfl (fun aR=>?_) (fun aR=>?_)
         ·have bU:=bj;rw [if_pos aR] at bU;refine JL.go 3 rfl ?_;obtain rfl:=oi bU;exact JL.kw (bT _ _ ⟨aj,rfl,rfl,(Le.refl _),bh⟩) rfl
         ·have bV:=bj;rw [if_neg (by rw [aR];exact Bool.false_ne_true)] at bV;refine JL.go 3 rfl ?_;obtain rfl:=oi bV;exact JL.kw (bT _ _ ⟨aj,rfl,rfl,(Le.refl _),bh⟩) rfl
       ·intro bW;refine JL.BW (c:=K.2.2.1) (i:=69) rfl (fun aS=>?_) (fun aS=>?_)
        ·have bX:=bg;rw [if_pos aS] at bX;refine JL.go 2 rfl ?_;obtain rfl:=oi bX;exact JL.kw (bW _ _ ⟨ah,rfl,rfl,(Le.refl _),bc⟩) rfl
        ·have bY:=bg;rw [if_neg (by rw [aS];exact Bool.false_ne_true)] at bY;refine JL.go 2 rfl ?_;obtain rfl:=oi bY;exact JL.kw (bW _ _ ⟨ah,rfl,rfl,(Le.refl _),bc⟩) rfl
      ·intro bZ;refine JL.ifs (p:=cv.2=2) rfl (fun aT=>?_) (fun aT=>?_)
       ·have b0:=ba;rw [if_pos aT] at b0;obtain⟨ee,dF,dG⟩:=bs b0;refine JL.go 6 rfl ?_;refine JS.Bw 0 (Mj (an.mono (ai.trans aq)) dF) rfl rfl (Ay func182 rfl) a9 rfl ?_;rintro _ dH _ dI ⟨b1,rfl,rfl,dJ⟩ dK;refine JS.norm (S':= [[(A,.cells b1 133 (0,0))]]) rfl dK fun dL=>?_;obtain⟨ef,dM,dN⟩:=bs dG;refine JL.go 4 rfl ?_;refine JL.Y rfl (fun ρ h=>Yl.A4 (h _ _ rfl) (h _ _ rfl) dM) ?_;obtain⟨eg,dO,dP⟩:=bs dN;refine JL.go 2 rfl ?_;refine JL.Y rfl (fun ρ h=>Yl.A4 (h _ _ rfl) (h _ _ rfl) dO) ?_;obtain⟨eh,dQ,dR⟩:=bs dP;refine JL.Y rfl (fun ρ h=>Yl.A4 (h _ _ rfl) (h _ _ rfl) dQ) ?_;refine JL.go 5 rfl ?_;obtain rfl:=oi dR;exact JL.kw (bZ _ _ ⟨dH,b1,rfl,rfl,dI,dL,dJ⟩) rfl
       ·have b2:=ba;rw [if_neg aT] at b2;refine JL.skip ?_;obtain rfl:=oi b2;exact JL.kw (bZ _ _ ⟨a8,f22,rfl,rfl,(Le.refl _),a9,(an.mono (ai.trans aq))⟩) rfl
     ·intro dS;refine JL.split (t:=(!K.2.2.1)) rfl (fun aU=>?_) (fun aU=>?_)
      ·have b3:=a6;rw [if_pos aU] at b3;refine JL.go 6 rfl ?_;cases b3
      ·have b4:=a6;rw [if_neg (by rw [aU];exact Bool.false_ne_true)] at b4;refine JL.skip ?_;obtain rfl:=oi b4;exact JL.kw (dS _ _ ⟨ag,rfl,rfl,(Le.refl _),aZ⟩) rfl
def f133(fuel:Nat)(p0:List (Int×Int×(List (Int×(List Int)×Nat)))):Option ((List (Int×Int×(List (Int×(List Int)×Nat))))):=
 (f163 fuel (BQ ((p0).length:Int))).bind fun A=>
 (f162 fuel p0 0 ((p0).length:Int) A).bind fun K=>
 some K
theorem Qo{A:Nat}{K:Nat}{O:Nat}{U:Array Value}{p0:List (Int×Int×(List (Int×(List Int)×Nat)))}(hW:WL 133 (rP rI (rP rI (rL (rP rI (rP (rL rI) (rN .u16)))))) E A K O U p0){fuel:Nat}{r:(List (Int×Int×(List (Int×(List Int)×Nat))))}(W:f133 fuel p0=some r):Au J 133 [.slice (some ⟨A,0,none⟩) O K,(.func (.func 134) #[] #[])] E [(A,.cells U 133 (0,0))] (fun w E' B'=>∃(Z:Array Value),w= .tuple #[]∧B'= [(A,.cells Z 133 (0,0))]∧WL 133 (rP rI (rP rI (rL (rP rI (rP (rL rI) (rN .u16)))))) E' A K O Z (r)):=by
 refine Au.en func133 rfl rfl fun Q ao cs H ab ac=>?_;unfold f133 at W;refine JL.go 3 rfl ?_;refine JL.Y (v:=iV ((p0).length:Int)) rfl (fun ρ h=>Yl.M3 (hW).2 rfl underlying130 (h _ _ rfl)) ?_;refine JL.go 6 rfl ?_;refine JL.Y (v:= .int .u64 ((BQ ((p0).length:Int):Nat):Int)) rfl (fun ρ h=>Yl.BQ underlying3 underlying156 (h _ _ rfl)) ?_;obtain⟨ap,ae,ag⟩:=bs W;refine JS.cl (Mg ae) rfl rfl (Ay func163 rfl) ab ?_;rintro _ aq _ aa ⟨rfl,rfl⟩ ah;obtain⟨ar,ai,aj⟩:=bs ag;refine JL.go 1 rfl ?_;refine JS.Bw 0 (Qj (hW.mono aa) ai) rfl rfl (Ay func162 rfl) ah rfl ?_;rintro _ au _ ak ⟨f12,rfl,rfl,al⟩ am;refine JS.norm (S':= [[(A,.cells f12 133 (0,0))],[]]) rfl am fun an=>?_;refine JL.done ?_;obtain rfl:=oi aj;refine JL.fin (v:= .tuple #[]) rfl rfl (Bl.list func133 rfl (vs:= []) trivial) ?_;exact ac _ _ _ _ (aa.trans ak) rfl ⟨f12,rfl,(by first | rfl | simp | (simp [Value.cells])),al⟩ an
end Pal
namespace Pal
def Af{α:Type}(o:Option α)(Q:α→Prop):Prop:=∃a,o=some a∧Q a
section
variable {α β:Type}{Q R:α→Prop}
theorem Af.intro{a:α}(h:Q a):Af (some a) Q:=⟨a,rfl,h⟩
theorem Af.mono{o:Option α}(h:Af o R)(k:∀a,R a→Q a):Af o Q:=let ⟨a,A,K⟩:=h;⟨a,A,k a K⟩
theorem Af.of_eq{o:Option α}{a:α}(h:o=some a)(k:Q a):Af o Q:=⟨a,h,k⟩
theorem Af.b{o:Option β}{f:β→Option α}{S:β→Prop}(h:Af o S)(k:∀b,S b→Af (f b) Q):Af (o.bind f) Q:=by
 obtain⟨b,rfl,hb⟩:=h;obtain⟨a,A,K⟩:=k b hb;exact⟨a,A,K⟩
theorem Af.be{o:Option β}{f:β→Option α}{b:β}(h:o=some b)(k:Af (f b) Q):Af (o.bind f) Q:=by subst h;exact k
theorem Af.Sn{f:Int→Option α}{x:Int}(A: -9223372036854775808≤x)(K:x≤9223372036854775807)(k:Af (f x) Q):Af ((Aw x).bind f) Q:=Af.be (if_pos ⟨A,K⟩) k
theorem De{xs:List β}{i:Int}{m:Nat}{b:β}(h:i=(m:Int))(hb:xs[m]? =some b):ix xs i=some b:=by subst h;simpa [ix] using hb
theorem Af.Bv{f:β→Option α}{xs:List β}{i:Int}{m:Nat}(h:i=(m:Int))(hm:m<xs.length)(k:Af (f xs[m]) Q):Af ((ix xs i).bind f) Q:=Af.be (De h (List.getElem?_eq_getElem hm)) k
theorem Af.Rw{f:List β→Option α}{xs:List β}{x:β}(h:xs.length+1≤2 ^ 40)(k:Af (f (xs++ [x])) Q):Af ((room xs x).bind f) Q:=Af.be (if_pos h) k
theorem Af.ite{c:Prop} [Decidable c] {x y:Option α}(A:c→Af x Q)(K:¬c→Af y Q):Af (if c then x else y) Q:=by
 by_cases h:c
 ·rw [if_pos h];exact A h
 ·rw [if_neg h];exact K h
theorem Af.pos{c:Prop} [Decidable c] {x y:Option α}(h:c)(k:Af x Q):Af (if c then x else y) Q:=by rw [if_pos h];exact k
theorem Af.neg{c:Prop} [Decidable c] {x y:Option α}(h:¬c)(k:Af y Q):Af (if c then x else y) Q:=by rw [if_neg h];exact k
def AU.sat{S A:Type}(I:S→Prop)(Q:A→Prop):AU S A→Prop
 | .more s=>I s
 | .done a=>Q a
theorem Af.iter{S:Type}{body:S→Option (AU S α)}(I:Nat→S→Prop)(round:∀m s,I m s→Af (body s) (AU.sat (fun s'=>∃m',m'<m∧I m' s') Q)):
  ∀{m fuel:Nat} {s:S},I m s→m<fuel→Af (iter body fuel s) Q:=by
 intro m
 induction m using Nat.strongRecOn with
 | _ m K=>
  intro fuel s O aa;obtain⟨fuel,rfl⟩:∃k,fuel=k+1:=⟨fuel - 1,by omega⟩;obtain⟨st,U,A⟩:=round m s O;unfold Pal.iter;rw [U];cases st with
  | more s'=>
   obtain⟨m',W,Z⟩:=A;exact K m' W Z (by omega)
  | done a=>exact⟨a,rfl,A⟩
end
end Pal
namespace Pal
open Go.Sort
abbrev PT:=Int×Int×(List (Int×(List Int)×Nat))
def AI(x y:PT):Bool:=decide (x.1<y.1)
theorem HS:SWO AI:=⟨fun x=>by simp [AI],fun x y z A K=>by simp [AI] at*;omega,fun x y z A K=>by simp [AI] at*;omega⟩
def KO(xs:List PT):Prop:=∀x∈xs,0≤x.1∧x.1≤1000
theorem GR{fuel:Nat}{x y:PT}(A:0≤x.1∧x.1≤1000)(K:0≤y.1∧y.1≤1000):f134 fuel x y=some (x.1 - y.1):=by
 unfold f134;rw [show Aw (x.1 - y.1)=some (x.1 - y.1) from if_pos (by omega)];rfl
theorem Gg(x y:PT):decide (x.1 - y.1<0)=AI x y:=by unfold AI;congr 1;apply propext;omega
theorem KO.get{xs:List PT}(h:KO xs){i:Nat}(hi:i<xs.length):0≤xs[i].1∧xs[i].1≤1000:=h _ (List.getElem_mem hi)
theorem KO.set{xs:List PT}(h:KO xs){i:Nat}{x:PT}(A:0≤x.1∧x.1≤1000):KO (xs.set i x):=fun y K=>by
 rcases List.mem_or_eq_of_mem_set K with q | q
 ·exact h y q
 ·subst q;exact A
theorem FJ{xs:List PT}{i j:Nat}(hi:i<xs.length)(A:j<xs.length):((xs.set i xs[j]).set j xs[i]).toArray=swp xs.toArray i j:=by
 unfold swp;rw [show xs.toArray[j]! =xs[j] by simp [getElem!_pos,A],show xs.toArray[i]! =xs[i] by simp [getElem!_pos,hi]];simp
theorem DO{xs:List PT}{i:Nat}(hi:i<xs.length):xs.toArray[i]! =xs[i]:=by simp [getElem!_pos,hi]
section
variable {α:Type}{Q:α→Prop}
theorem Af.A5{f:Int→Option α}{x:Int}(y:Int)(h:x=y)(A: -9223372036854775808≤y)(K:y≤9223372036854775807)(k:Af (f y) Q):Af ((Aw x).bind f) Q:=by subst h;exact Af.Sn A K k
end
theorem PW{F:Nat}(a:Nat):∀(j fuel:Nat) (xs:List PT),j<fuel→j<xs.length→xs.length<1000→KO xs→
  Af (iter (Gl F (a:Int)) fuel ((j:Int),xs)) (fun ys=>ys.toArray=insInner AI a j xs.toArray∧KO ys∧ys.length=xs.length):=by
 intro j
 induction j with
 | zero=>
  intro fuel xs ab O Z A;obtain⟨fuel,rfl⟩:∃k,fuel=k+1:=⟨fuel - 1,by omega⟩;refine⟨xs,?_,rfl,A,rfl⟩;have ac:¬((a:Int)<0):=by omega
  simp [iter,Gl,ac]
 | succ j ae=>
  intro fuel xs ab O Z A;obtain⟨fuel,rfl⟩:∃k,fuel=k+1:=⟨fuel - 1,by omega⟩;have K:j<xs.length:=by omega
  have ag:Af (Gl F (a:Int) (((j+1:Nat):Int),xs)) (fun st=>st=if(decide (j+1>a)&&AI xs[j+1] xs[j])=true then .more ((j:Int),(xs.set (j+1) xs[j]).set j xs[j+1]) else .done xs):=by
   unfold Gl;refine Af.b (S:=fun c=>c=(decide (j+1>a)&&AI xs[j+1] xs[j])) ?_ ?_
   ·refine Af.ite (fun h=>?_) (fun h=>?_)
    ·have W:a<j+1:=by simp at h;omega
     refine Af.Bv (m:=j+1) rfl O ?_;refine Af.A5 (j:Int) (by simp) (by omega) (by omega) ?_;refine Af.Bv (m:=j) rfl K ?_;refine Af.be (GR (A.get O) (A.get K)) ?_;refine Af.intro ?_;rw [Gg];simp [W]
    ·have W:¬a<j+1:=by simp at h;omega
     refine Af.intro ?_;simp [W]
   ·rintro c rfl;refine Af.ite (fun h=>?_) (fun h=>?_)
    ·refine Af.A5 (j:Int) (by simp) (by omega) (by omega) ?_;refine Af.A5 (j:Int) (by simp) (by omega) (by omega) ?_;refine Af.Bv (m:=j) rfl K ?_;refine Af.Bv (m:=j+1) rfl O ?_;refine Af.be (b:=(xs.set (j+1) xs[j])[j]'(by simpa using K)) (De rfl (List.getElem?_eq_getElem _)) ?_;refine Af.A5 (j:Int) (by simp) (by omega) (by omega) ?_;refine Af.intro ?_;rw [if_pos h];simp
    ·refine Af.intro ?_;rw [if_neg h]
  obtain⟨st,ah,rfl⟩:=ag;unfold iter;rw [ah];have U:insInner AI a (j+1) xs.toArray=if(decide (j+1>a)&&AI xs[j+1] xs[j])=true then insInner AI a j (swp xs.toArray (j+1) j) else xs.toArray:=by
   rw [insInner,DO O,DO K]
  by_cases aa:(decide (j+1>a)&&AI xs[j+1] xs[j])=true
  ·rw [if_pos aa] at U ⊢;have ai:KO ((xs.set (j+1) xs[j]).set j xs[j+1]):=(A.set (A.get K)).set (A.get O);refine(ae fuel ((xs.set (j+1) xs[j]).set j xs[j+1]) (by omega) (by simpa using K) (by simpa using Z) ai).mono ?_;rintro ys ⟨aj,ak,al⟩;refine⟨?_,ak,by simpa using al⟩;rw [aj,FJ O K,U]
  ·rw [if_neg aa] at U ⊢;exact⟨xs,rfl,U.symm,A,rfl⟩
theorem OG{F:Nat}(a b:Nat)(ag:2000<F):∀(m i fuel:Nat) (xs:List PT),b - i=m→m<fuel→b≤xs.length→xs.length<1000→KO xs→
  Af (iter (FO F (a:Int) (b:Int)) fuel ((i:Int),xs)) (fun ys=>ys.toArray=insOuter AI a b i xs.toArray∧KO ys∧ys.length=xs.length):=by
 intro m
 induction m with
 | zero=>
  intro i fuel xs hm W hb U K;obtain⟨fuel,rfl⟩:∃k,fuel=k+1:=⟨fuel - 1,by omega⟩;have O:¬i<b:=by omega
  have A:Af (FO F (a:Int) (b:Int) ((i:Int),xs)) (fun st=>st= .done xs):=by
   unfold FO;exact Af.neg (show ¬(i:Int)<(b:Int) by omega) (Af.intro rfl)
  obtain⟨st,A,rfl⟩:=A;unfold iter;rw [A];refine⟨xs,rfl,?_,K,rfl⟩;rw [insOuter,if_neg O]
 | succ m Z=>
  intro i fuel xs hm W hb U K;obtain⟨fuel,rfl⟩:∃k,fuel=k+1:=⟨fuel - 1,by omega⟩;have O:i<b:=by omega
  obtain⟨ys,aa,ab,ac,ah⟩:=PW (F:=F) a i F xs (by omega) (by omega) U K;have A:Af (FO F (a:Int) (b:Int) ((i:Int),xs)) (fun st=>st= .more (((i+1:Nat):Int),ys)):=by
   unfold FO;refine Af.pos (show(i:Int)<(b:Int) by omega) ?_;refine Af.be aa ?_;refine Af.A5 ((i+1:Nat):Int) (by simp) (by omega) (by omega) ?_;exact Af.intro rfl
  obtain⟨st,A,rfl⟩:=A;unfold iter;rw [A];refine(Z (i+1) fuel ys (by omega) (by omega) (by omega) (by omega) ac).mono ?_;rintro ai ⟨k1,ae,aj⟩;refine⟨?_,ae,by omega⟩;rw [k1,ab,insOuter.eq_def AI a b i,if_pos O]
theorem Lt{F a b:Nat}{xs:List PT}(A:2000<F)(hb:b≤xs.length)(K:xs.length<1000)(O:KO xs)(aa:a≤b):
  Af (f178 F xs (a:Int) (b:Int)) (fun ys=>ys.toArray=insertionSort AI xs.toArray a b∧KO ys∧ys.length=xs.length):=by
 unfold f178;refine Af.A5 ((a+1:Nat):Int) (by simp) (by omega) (by omega) ?_;refine Af.b (OG (F:=F) a b A (b - (a+1)) (a+1) F xs rfl (by omega) hb K O) ?_;rintro ys ⟨U,W,Z⟩;exact⟨ys,rfl,U,W,Z⟩
end Pal
namespace Pal
open Go.Sort
theorem IX{F a b sw:Nat}{xs:List PT}(K:a<xs.length)(hb:b<xs.length)(hs:sw<1000)(U:xs.length<1000)(O:KO xs):
  f200 F xs (a:Int) (b:Int) (sw:Int)=some ((((order2 AI xs.toArray a b sw).1:Nat):Int),(((order2 AI xs.toArray a b sw).2.1:Nat):Int),(((order2 AI xs.toArray a b sw).2.2:Nat):Int)):=by
 have h:Af (f200 F xs (a:Int) (b:Int) (sw:Int)) (fun r=>r=((((order2 AI xs.toArray a b sw).1:Nat):Int),(((order2 AI xs.toArray a b sw).2.1:Nat):Int),(((order2 AI xs.toArray a b sw).2.2:Nat):Int))):=by
  unfold f200;refine Af.Bv (m:=b) rfl hb ?_;refine Af.Bv (m:=a) rfl K ?_;refine Af.be (GR (O.get hb) (O.get K)) ?_;have e:order2 AI xs.toArray a b sw=if AI xs[b] xs[a] then(b,a,sw+1) else(a,b,sw):=by unfold order2;rw [DO K,DO hb]
  refine Af.ite (fun h=>?_) (fun h=>?_)
  ·have A:AI xs[b] xs[a]=true:=by rw [← Gg];exact decide_eq_true h
   refine Af.A5 ((sw+1:Nat):Int) (by simp) (by omega) (by omega) ?_;refine Af.intro ?_;rw [e,if_pos A]
  ·have A:¬AI xs[b] xs[a]=true:=by rw [← Gg];simpa using h
   refine Af.intro ?_;rw [e,if_neg A]
 obtain⟨r,A,rfl⟩:=h;exact A
theorem Kv{n a b sw:Nat}{d:Array PT}(A:a<n)(hb:b<n):(order2 AI d a b sw).1<n∧(order2 AI d a b sw).2.1<n∧(order2 AI d a b sw).2.2≤sw+1:=by
 unfold order2;split
 ·exact⟨hb,A,Nat.le_refl _⟩
 ·exact⟨A,hb,Nat.le_succ _⟩
theorem P2{F a b c sw:Nat}{xs:List PT}(O:a<xs.length)(hb:b<xs.length)(U:c<xs.length)(hs:sw<900)(A:xs.length<1000)(K:KO xs):
  f197 F xs (a:Int) (b:Int) (c:Int) (sw:Int)=some ((((median AI xs.toArray a b c sw).1:Nat):Int),(((median AI xs.toArray a b c sw).2:Nat):Int)):=by
 unfold f197 median;obtain⟨Z,W,ab⟩:=Kv (sw:=sw) (d:=xs.toArray) O hb;rw [IX O hb (by omega) A K];simp only [Option.bind_some];obtain⟨aa,ac,ae⟩:=Kv (sw:=(order2 AI xs.toArray a b sw).2.2) (d:=xs.toArray) W U;rw [IX W U (by omega) A K];simp only [Option.bind_some];rw [IX Z aa (by omega) A K];simp only [Option.bind_some]
def Fx:Hint→Int | .unknown=>0 | .increasing=>1 | .decreasing=>2
theorem Af.quo{α:Type}{Q:α→Prop}{f:Int→Option α}{x:Int}(m k:Nat)(A:x=(m:Int))(hm:m<1000)(K:0<k)(h:Af (f ((m / k:Nat):Int)) Q):Af ((EG x (k:Int)).bind f) Q:=by
 subst A;refine Af.be ?_ h;unfold EG;rw [if_neg (by omega)];have e:((m:Int).tdiv (k:Int))=((m / k:Nat):Int):=by rw [Int.tdiv_eq_ediv_of_nonneg (by omega)];rfl
 have hle:m / k≤m:=Nat.div_le_self _ _;rw [e];generalize m / k=z at hle ⊢;exact if_pos (by omega)
theorem P0{F a b:Nat}{xs:List PT}(ag:a+8≤b)(ah:b<a+50)(hb:b≤xs.length)(Z:xs.length<1000)(aa:KO xs):
  f181 F xs (a:Int) (b:Int)=some ((((choosePivot AI xs.toArray a b).1:Nat):Int),Fx (choosePivot AI xs.toArray a b).2):=by
 have h:Af (f181 F xs (a:Int) (b:Int)) (fun r=>r=((((choosePivot AI xs.toArray a b).1:Nat):Int),Fx (choosePivot AI xs.toArray a b).2)):=by
  unfold f181;have ai:(b - a) / 4≤b - a:=Nat.div_le_self _ _;have aj:(b - a) / 4*3<b - a:=by omega
  refine Af.A5 ((b - a:Nat):Int) (by omega) (by omega) (by omega) ?_;refine Af.quo (b - a) 4 rfl (by omega) (by omega) ?_;refine Af.A5 (((b - a) / 4*1:Nat):Int) (by push_cast;rfl) (by omega) (by omega) ?_;refine Af.A5 ((a+(b - a) / 4*1:Nat):Int) (by push_cast;rfl) (by omega) (by omega) ?_;refine Af.quo (b - a) 4 rfl (by omega) (by omega) ?_;refine Af.A5 (((b - a) / 4*2:Nat):Int) (by push_cast;rfl) (by omega) (by omega) ?_;refine Af.A5 ((a+(b - a) / 4*2:Nat):Int) (by push_cast;rfl) (by omega) (by omega) ?_;refine Af.quo (b - a) 4 rfl (by omega) (by omega) ?_;refine Af.A5 (((b - a) / 4*3:Nat):Int) (by push_cast;rfl) (by omega) (by omega) ?_;refine Af.A5 ((a+(b - a) / 4*3:Nat):Int) (by push_cast;rfl) (by omega) (by omega) ?_;have ab:choosePivot AI xs.toArray a b=((median AI xs.toArray (a+(b - a) / 4*1) (a+(b - a) / 4*2) (a+(b - a) / 4*3) 0).1,if(median AI xs.toArray (a+(b - a) / 4*1) (a+(b - a) / 4*2) (a+(b - a) / 4*3) 0).2=0 then .increasing else if(median AI xs.toArray (a+(b - a) / 4*1) (a+(b - a) / 4*2) (a+(b - a) / 4*3) 0).2=12 then .decreasing else .unknown):=by
   unfold choosePivot;simp only;rw [if_pos (by omega),if_neg (by omega)]
  rw [ab];generalize ac:median AI xs.toArray (a+(b - a) / 4*1) (a+(b - a) / 4*2) (a+(b - a) / 4*3) 0=A;refine Af.b (S:=fun r=>r=(((A.1:Nat):Int),((A.2:Nat):Int))) ?_ ?_
  ·refine Af.pos (by omega) ?_;refine Af.b (S:=fun _=>True) (Af.neg (by omega) (Af.intro trivial)) fun _ _=>?_;have W:=P2 (F:=F) (a:=a+(b - a) / 4*1) (b:=a+(b - a) / 4*2) (c:=a+(b - a) / 4*3) (sw:=0) (xs:=xs) (by omega) (by omega) (by omega) (by omega) Z aa;rw [ac] at W;exact Af.be W (Af.intro rfl)
  ·rintro r rfl;refine Af.ite (fun h=>?_) (fun h=>?_)
   ·have K:A.2=0:=by simp at h;omega
    rw [if_pos K];exact Af.intro rfl
   ·have K:¬A.2=0:=by simp at h;omega
    rw [if_neg K];refine Af.ite (fun O=>?_) (fun O=>?_)
    ·have U:A.2=12:=by simp at O;omega
     rw [if_pos U];exact Af.intro rfl
    ·have U:¬A.2=12:=by simp at O;omega
     rw [if_neg U];exact Af.intro rfl
 obtain⟨r,ae,rfl⟩:=h;exact ae
theorem Ps{F:Nat}:∀(m i j fuel:Nat) (xs:List PT),j - i≤m→m<fuel→(i<j→j<xs.length)→i≤xs.length→j≤xs.length→xs.length<1000→KO xs→
  Af (iter (EN F) fuel ((i:Int),(j:Int),xs)) (fun ys=>ys.toArray=reverseLoop i j xs.toArray∧KO ys∧ys.length=xs.length):=by
 intro m
 induction m with
 | zero=>
  intro i j fuel xs hm ab Z hi ac aa A;obtain⟨fuel,rfl⟩:∃k,fuel=k+1:=⟨fuel - 1,by omega⟩;have K:¬i<j:=by omega
  have O:Af (EN F ((i:Int),(j:Int),xs)) (fun st=>st= .done xs):=by
   unfold EN;exact Af.neg (show ¬(i:Int)<(j:Int) by omega) (Af.intro rfl)
  obtain⟨st,hb,rfl⟩:=O;unfold iter;rw [hb];refine⟨xs,rfl,?_,A,rfl⟩;rw [reverseLoop,if_neg K]
 | succ m ae=>
  intro i j fuel xs hm ab Z hi ac aa A;obtain⟨fuel,rfl⟩:∃k,fuel=k+1:=⟨fuel - 1,by omega⟩;by_cases K:i<j
  ·have U:=Z K;have W:i<xs.length:=by omega
   have O:Af (EN F ((i:Int),(j:Int),xs)) (fun st=>st= .more (((i+1:Nat):Int),((j - 1:Nat):Int),(xs.set i xs[j]).set j xs[i])):=by
    unfold EN;refine Af.pos (show(i:Int)<(j:Int) by omega) ?_;refine Af.Bv (m:=j) rfl U ?_;refine Af.Bv (m:=i) rfl W ?_;refine Af.A5 ((i+1:Nat):Int) (by simp) (by omega) (by omega) ?_;refine Af.A5 ((j - 1:Nat):Int) (by simp;omega) (by omega) (by omega) ?_;exact Af.intro rfl
   obtain⟨st,hb,rfl⟩:=O;unfold iter;rw [hb];refine(ae (i+1) (j - 1) fuel ((xs.set i xs[j]).set j xs[i]) (by omega) (by omega) (by simp;omega) (by simp;omega) (by simp;omega) (by simpa using aa) ((A.set (A.get U)).set (A.get W))).mono ?_;rintro ys ⟨ag,ah,ai⟩;refine⟨?_,ah,by simpa using ai⟩;rw [ag,FJ W U,reverseLoop.eq_def i j,if_pos K]
  ·have O:Af (EN F ((i:Int),(j:Int),xs)) (fun st=>st= .done xs):=by
    unfold EN;exact Af.neg (show ¬(i:Int)<(j:Int) by omega) (Af.intro rfl)
   obtain⟨st,hb,rfl⟩:=O;unfold iter;rw [hb];refine⟨xs,rfl,?_,A,rfl⟩;rw [reverseLoop,if_neg K]
theorem PL{F a b:Nat}{xs:List PT}(O:2000<F)(U:a<b)(hb:b≤xs.length)(A:xs.length<1000)(K:KO xs):
  Af (f182 F xs (a:Int) (b:Int)) (fun ys=>ys.toArray=reverseRange xs.toArray a b∧KO ys∧ys.length=xs.length):=by
 unfold f182 reverseRange;refine Af.A5 ((b - 1:Nat):Int) (by omega) (by omega) (by omega) ?_;refine Af.b (Ps (F:=F) (b - 1 - a) a (b - 1) F xs (by omega) (by omega) (by omega) (by omega) (by omega) A K) ?_;rintro ys h;exact⟨ys,rfl,h⟩
theorem P4{F b q1:Nat}{xs:List PT}(q2:Int)(hb:b≤xs.length)(ae:xs.length<1000)(Z:KO xs):∀(m i fuel:Nat),b - i≤m→m<fuel→1≤i→
  Af (iter (FN F (b:Int) (((q1:Nat):Int),q2,xs)) fuel (i:Int)) (fun r=>r=((scanSorted AI xs.toArray b i:Nat):Int)):=by
 intro m
 induction m with
 | zero=>
  intro i fuel hm ac hi;obtain⟨fuel,rfl⟩:∃k,fuel=k+1:=⟨fuel - 1,by omega⟩;have A:¬i<b:=by omega
  have K:Af (FN F (b:Int) (((q1:Nat):Int),q2,xs) (i:Int)) (fun st=>st= .done (i:Int)):=by
   unfold FN;refine Af.b (S:=fun c=>c=false) (Af.neg (by omega) (Af.intro rfl)) ?_;rintro c rfl;exact Af.neg (by simp) (Af.intro rfl)
  obtain⟨st,O,rfl⟩:=K;unfold iter;rw [O];refine⟨_,rfl,?_⟩;rw [scanSorted,if_neg (by simp [A])]
 | succ m aa=>
  intro i fuel hm ac hi;obtain⟨fuel,rfl⟩:∃k,fuel=k+1:=⟨fuel - 1,by omega⟩;by_cases A:i<b
  ·have U:i<xs.length:=by omega
   have W:i - 1<xs.length:=by omega
   have K:Af (FN F (b:Int) (((q1:Nat):Int),q2,xs) (i:Int)) (fun st=>st=if(!AI xs[i] xs[i-1])=true then .more ((i+1:Nat):Int) else .done (i:Int)):=by
    unfold FN;refine Af.b (S:=fun c=>c= !AI xs[i] xs[i-1]) ?_ ?_
    ·refine Af.pos (by omega) ?_;refine Af.Bv (m:=i) rfl U ?_;refine Af.A5 ((i - 1:Nat):Int) (by omega) (by omega) (by omega) ?_;refine Af.Bv (m:=i - 1) rfl W ?_;refine Af.be (GR (Z.get U) (Z.get W)) ?_;refine Af.intro ?_;rw [← Gg];exact decide_not
    ·rintro c rfl;refine Af.ite (fun h=>?_) (fun h=>?_)
     ·refine Af.A5 ((i+1:Nat):Int) (by simp) (by omega) (by omega) ?_;rw [if_pos h];exact Af.intro rfl
     ·rw [if_neg h];exact Af.intro rfl
   obtain⟨st,O,rfl⟩:=K;unfold iter;rw [O];have hs:scanSorted AI xs.toArray b i=if(!AI xs[i] xs[i-1])=true then scanSorted AI xs.toArray b (i+1) else i:=by
    rw [scanSorted.eq_def AI xs.toArray b i,DO U,DO W];simp [A]
   by_cases ab:(!AI xs[i] xs[i-1])=true
   ·rw [if_pos ab] at hs ⊢;rw [hs];exact aa (i+1) fuel (by omega) (by omega) (by omega)
   ·rw [if_neg ab] at hs ⊢;exact⟨_,rfl,by rw [hs]⟩
  ·exact aa i (fuel+1) (by omega) (by omega) hi
theorem PR{F a b:Nat}{xs:List PT}(aa:2000<F)(ab:a<b)(ac:b<a+50)(hb:b≤xs.length)(K:xs.length<1000)(O:KO xs):
  f183 F xs (a:Int) (b:Int)=some ((partialInsertionSort AI xs.toArray a b).2,xs)∧(partialInsertionSort AI xs.toArray a b).1=xs.toArray:=by
 have e:partialInsertionSort AI xs.toArray a b=if scanSorted AI xs.toArray b (a+1)=b then(xs.toArray,true) else(xs.toArray,false):=by
  unfold partialInsertionSort partialIns;simp only;split
  ·rfl
  ·rw [if_pos (by omega)]
 have h:Af (f183 F xs (a:Int) (b:Int)) (fun r=>r=((partialInsertionSort AI xs.toArray a b).2,xs)):=by
  unfold f183;refine Af.A5 ((a+1:Nat):Int) (by simp) (by omega) (by omega) ?_;refine Af.b (S:=fun r=>r=Sum.inl ((partialInsertionSort AI xs.toArray a b).2,xs)) ?_ ?_
  ·obtain⟨A,rfl⟩:∃k,F=k+1:=⟨F - 1,by omega⟩;have U:Af (HV (A+1) (a:Int) (b:Int) (((a+1:Nat):Int),0,xs)) (fun st=>st= .done (Sum.inl ((partialInsertionSort AI xs.toArray a b).2,xs))):=by
    unfold HV;refine Af.pos (show(0:Int)<5 by omega) ?_;refine Af.b (P4 (F:=A+1) (q1:=a+1) 0 hb K O (b - (a+1)) (a+1) (A+1) (by omega) (by omega) (by omega)) ?_;rintro r rfl;rw [e];refine Af.ite (fun h=>?_) (fun h=>?_)
    ·rw [if_pos (by omega)];exact Af.intro rfl
    ·rw [if_neg (by omega)];refine Af.A5 ((b - a:Nat):Int) (by omega) (by omega) (by omega) ?_;exact Af.pos (by omega) (Af.intro rfl)
   obtain⟨st,W,rfl⟩:=U;unfold iter;rw [W];exact⟨_,rfl,rfl⟩
  ·rintro r rfl;exact Af.intro rfl
 obtain⟨r,Z,rfl⟩:=h;refine⟨Z,?_⟩;rw [e];split <;> rfl
end Pal
namespace Pal
open Go.Sort
theorem Kj{body:Int→Option (AU Int Int)}{d:Array PT}{p:PT→Bool}{j:Nat}(U:j<900)
  (h:∀i:Nat,i≤j+2→body (i:Int)=some (if(decide (i≤j)&&p d[i]!)=true then .more ((i+1:Nat):Int) else .done (i:Int))):
  ∀(m i fuel:Nat),j+1 - i≤m→m<fuel→i≤j+2→iter body fuel (i:Int)=some ((scanUp p d j i:Nat):Int):=by
 intro m
 induction m with
 | zero=>
  intro i fuel hm K hi;obtain⟨fuel,rfl⟩:∃k,fuel=k+1:=⟨fuel - 1,by omega⟩;have A:¬(decide (i≤j)&&p d[i]!)=true:=by simp;omega
  unfold iter;rw [h i hi,if_neg A,scanUp,if_neg A]
 | succ m O=>
  intro i fuel hm K hi;obtain⟨fuel,rfl⟩:∃k,fuel=k+1:=⟨fuel - 1,by omega⟩;unfold iter;rw [h i hi,scanUp];by_cases A:(decide (i≤j)&&p d[i]!)=true
  ·rw [if_pos A,if_pos A];have:i≤j:=by simp at A;exact A.1
   exact O (i+1) fuel (by omega) (by omega) (by omega)
  ·rw [if_neg A,if_neg A]
theorem J4{body:Int→Option (AU Int Int)}{d:Array PT}{p:PT→Bool}{i:Nat}(hi:1≤i){n:Nat}
  (h:∀j:Nat,j<n→body (j:Int)=some (if(decide (i≤j)&&p d[j]!)=true then .more ((j - 1:Nat):Int) else .done (j:Int))):
  ∀(j fuel:Nat),j<n→j<fuel→iter body fuel (j:Int)=some ((scanDown p d i j:Nat):Int):=by
 intro j
 induction j with
 | zero=>
  intro fuel K O;obtain⟨fuel,rfl⟩:∃k,fuel=k+1:=⟨fuel - 1,by omega⟩;have A:¬(decide (i≤0)&&p d[0]!)=true:=by simp;omega
  unfold iter;rw [h 0 K,if_neg A];rfl
 | succ j U=>
  intro fuel K O;obtain⟨fuel,rfl⟩:∃k,fuel=k+1:=⟨fuel - 1,by omega⟩;unfold iter;rw [h (j+1) K,scanDown];by_cases A:(decide (i≤j+1)&&p d[j+1]!)=true
  ·rw [if_pos A,if_pos A];exact U fuel (by omega) (by omega)
  ·rw [if_neg A,if_neg A]
theorem Af.Hn{α:Type}{o:Option α}{a:α}(h:Af o (fun x=>x=a)):o=some a:=by obtain⟨x,A,rfl⟩:=h;exact A
theorem LC{F a:Nat}{q2:Int}{j:Nat}{q1:Int}{ys:List PT}(A:a<ys.length)(W:j<ys.length)(Z:ys.length<900)(U:KO ys)(i:Nat)(hi:i≤j+2):
  Gj F (a:Int) (q1,(j:Int),ys) (i:Int)=some (if(decide (i≤j)&&AI ys.toArray[i]! ys.toArray[a]!)=true then .more ((i+1:Nat):Int) else .done (i:Int)):=by
 refine Af.Hn ?_;unfold Gj;refine Af.b (S:=fun c=>c=(decide (i≤j)&&AI ys.toArray[i]! ys.toArray[a]!)) ?_ ?_
 ·refine Af.ite (fun h=>?_) (fun h=>?_)
  ·have K:i≤j:=by simp at h;omega
   have O:i<ys.length:=by omega
   refine Af.Bv (m:=i) rfl O ?_;refine Af.Bv (m:=a) rfl A ?_;refine Af.be (GR (U.get O) (U.get A)) ?_;refine Af.intro ?_;rw [Gg,DO O,DO A];simp [K]
  ·have K:¬i≤j:=by simp at h;omega
   refine Af.intro ?_;simp [K]
 ·rintro c rfl;refine Af.ite (fun h=>?_) (fun h=>?_)
  ·refine Af.A5 ((i+1:Nat):Int) (by simp) (by omega) (by omega) ?_;rw [if_pos h];exact Af.intro rfl
  ·rw [if_neg h];exact Af.intro rfl
theorem KH{F a i:Nat}{q1 q2:Int}{ys:List PT}(K:a<ys.length)(W:ys.length<900)(U:KO ys)(hi:1≤i)(j:Nat)(O:j<ys.length):
  Gk F (a:Int) (q1,q2,ys) (i:Int) (j:Int)=some (if(decide (i≤j)&& !AI ys.toArray[j]! ys.toArray[a]!)=true then .more ((j - 1:Nat):Int) else .done (j:Int)):=by
 refine Af.Hn ?_;unfold Gk;refine Af.b (S:=fun c=>c=(decide (i≤j)&& !AI ys.toArray[j]! ys.toArray[a]!)) ?_ ?_
 ·refine Af.ite (fun h=>?_) (fun h=>?_)
  ·have A:i≤j:=by omega
   refine Af.Bv (m:=j) rfl O ?_;refine Af.Bv (m:=a) rfl K ?_;refine Af.be (GR (U.get O) (U.get K)) ?_;refine Af.intro ?_;rw [DO O,DO K,← Gg,← decide_not];simp [A]
  ·have A:¬i≤j:=by omega
   refine Af.intro ?_;simp [A]
 ·rintro c rfl;refine Af.ite (fun h=>?_) (fun h=>?_)
  ·have A:i≤j:=by simp at h;exact h.1
   refine Af.A5 ((j - 1:Nat):Int) (by omega) (by omega) (by omega) ?_;rw [if_pos h];exact Af.intro rfl
  ·rw [if_neg h];exact Af.intro rfl
theorem PG{F a b:Nat}(av:2000<F)(aw:a<b):∀(m i j fuel:Nat) (ys:List PT),j+1 - i≤m→m<fuel→a<i→i≤j+2→j<b→b≤ys.length→ys.length<900→KO ys→
  Af (iter (FL F (a:Int)) fuel ((i:Int),(j:Int),ys)) (fun r=>r.1=(((partLoop AI a i j ys.toArray).1:Nat):Int)∧r.2.toArray=(partLoop AI a i j ys.toArray).2∧KO r.2∧r.2.length=ys.length):=by
 intro m
 induction m with
 | zero=>?_
 | succ m aj=>?_
 all_goals
  intro i j fuel ys hm ay az ak aA hb U O;obtain⟨fuel,rfl⟩:∃k,fuel=k+1:=⟨fuel - 1,by omega⟩;have ae:a<ys.length:=by omega
  have ag:j<ys.length:=by omega
  have W:iter (Gj F (a:Int) ((i:Int),(j:Int),ys)) F (i:Int)=some ((scanUp (fun x=>AI x ys.toArray[a]!) ys.toArray j i:Nat):Int):=
   Kj (by omega) (fun al am=>LC (q2:=0) ae ag U O al am) (j+1 - i) i F (by omega) (by omega) ak
  have an:=scanUp_ge (fun x=>AI x ys.toArray[a]!) ys.toArray j i;have ao:=scanUp_spec (fun x=>AI x ys.toArray[a]!) ys.toArray j _ i rfl;have K:=partLoop_eq AI a i j ys.toArray;generalize aB:scanUp (fun x=>AI x ys.toArray[a]!) ys.toArray j i=i2 at W an ao K;have Z:iter (Gk F (a:Int) ((i:Int),(j:Int),ys) (i2:Int)) F (j:Int)=some ((scanDown (fun x=> !AI x ys.toArray[a]!) ys.toArray i2 j:Nat):Int):=
   J4 (n:=ys.length) (by omega) (fun ap aq=>KH ae U O (by omega) ap aq) j F ag (by omega)
  have hle:=scanDown_le (fun x=> !AI x ys.toArray[a]!) ys.toArray i2 j;generalize aC:scanDown (fun x=> !AI x ys.toArray[a]!) ys.toArray i2 j=A at Z hle K;by_cases ah:i2>A
  ·have aa:FL F (a:Int) ((i:Int),(j:Int),ys)=some (.done ((A:Int),ys)):=by
    refine Af.Hn ?_;unfold FL;refine Af.be W ?_;refine Af.be Z ?_;exact Af.pos (by omega) (Af.intro rfl)
   unfold iter;rw [aa];rw [if_pos ah] at K;exact⟨_,rfl,by rw [K],by rw [K],O,rfl⟩
  ·first
    | (exfalso;omega)
    | (
     have ab:i2<ys.length:=by omega
     have ac:A<ys.length:=by omega
     have aa:FL F (a:Int) ((i:Int),(j:Int),ys)=some (.more (((i2+1:Nat):Int),((A - 1:Nat):Int),(ys.set i2 ys[A]).set A ys[i2])):=by
      refine Af.Hn ?_
      unfold FL
      refine Af.be W ?_
      refine Af.be Z ?_
      refine Af.neg (by omega) ?_
      refine Af.Bv (m:=A) rfl ac ?_
      refine Af.Bv (m:=i2) rfl ab ?_
      refine Af.A5 ((i2+1:Nat):Int) (by simp) (by omega) (by omega) ?_
      refine Af.A5 ((A - 1:Nat):Int) (by omega) (by omega) (by omega) ?_
      exact Af.intro rfl
     unfold iter;rw [aa]
     rw [if_neg ah] at K
     refine(aj (i2+1) (A - 1) fuel ((ys.set i2 ys[A]).set A ys[i2]) (by omega) (by omega) (by omega) (by omega) (by omega) (by simpa using hb) (by simpa using U) ((O.set (O.get ac)).set (O.get ab))).mono ?_
     rintro r ⟨k1,ai,ar,au⟩
     rw [FJ ab ac,← K] at k1 ai
     exact⟨k1,ai,ar,by simpa using au⟩)
theorem Ox{F a:Nat}{j p3:Nat}{xs ys:List PT}{A K:PT}(he:(xs.set a A).set p3 K=ys)(O:a<ys.length)(U:j<ys.length)(W:ys.length<900)(Z:KO ys)(i:Nat)(hi:i≤j+2):
  GQ F xs (a:Int) (p3:Int) A K (j:Int) (i:Int)=some (if(decide (i≤j)&&AI ys.toArray[i]! ys.toArray[a]!)=true then .more ((i+1:Nat):Int) else .done (i:Int)):=by
 rw [← LC (F:=F) (q1:=0) (q2:=0) O U W Z i hi];unfold GQ Gj;simp only [Int.toNat_natCast,he]
theorem NM{F a i p3:Nat}{xs ys:List PT}{A K:PT}(he:(xs.set a A).set p3 K=ys)(O:a<ys.length)(U:ys.length<900)(W:KO ys)(hi:1≤i)(j:Nat)(Z:j<ys.length):
  GU F xs (a:Int) (p3:Int) A K (i:Int) (j:Int)=some (if(decide (i≤j)&& !AI ys.toArray[j]! ys.toArray[a]!)=true then .more ((j - 1:Nat):Int) else .done (j:Int)):=by
 rw [← KH (F:=F) (q1:=0) (q2:=0) O U W hi j Z];unfold GU Gk;simp only [Int.toNat_natCast,he]
theorem NA(a:Nat):∀(n i j:Nat) (d:Array PT),j+1 - i≤n→(partLoop AI a i j d).1≤j:=by
  intro n
  induction n with
  | zero=>?_
  | succ n U=>?_
  all_goals
    intro i j d Z;have A:=partLoop_eq AI a i j d;have W:=scanUp_ge (fun x=>AI x d[a]!) d j i;generalize aa:scanUp (fun x=>AI x d[a]!) d j i=i2 at W A;have hle:=scanDown_le (fun x=> !AI x d[a]!) d i2 j;generalize ab:scanDown (fun x=> !AI x d[a]!) d i2 j=K at hle A;by_cases O:i2>K
    ·rw [A,if_pos O];exact hle
    ·first
        | (exfalso;omega)
        | (rw [A,if_neg O]
           have:=U (i2+1) (K - 1) (swp d i2 K) (by omega)
           omega)
theorem PK{F a b pv:Nat}(ap:2000<F){xs:List PT}(aC:a≤pv)(aD:pv<b)(hb:b≤xs.length)(aE:xs.length<900)(ab:KO xs):
  Af (f185 F xs (a:Int) (b:Int) (pv:Int)) (fun r=>r.1=(((partition AI xs.toArray a b pv).1:Nat):Int)∧r.2.1=(partition AI xs.toArray a b pv).2.1∧r.2.2.toArray=(partition AI xs.toArray a b pv).2.2∧KO r.2.2∧r.2.2.length=xs.length):=by
 have ac:a<xs.length:=by omega
 have ae:pv<xs.length:=by omega
 obtain⟨ys,U⟩:∃ys,(xs.set a xs[pv]).set pv xs[a]=ys:=⟨_,rfl⟩;have K:KO ys:=by rw [← U];exact(ab.set (ab.get ae)).set (ab.get ac)
 have am:ys.length=xs.length:=by rw [← U];simp
 have aq:ys.toArray=swp xs.toArray a pv:=by rw [← U,FJ ac ae]
 have Z:a<ys.length:=by omega
 have an:b - 1<ys.length:=by omega
 unfold f185;refine Af.Bv (m:=pv) rfl ae ?_;refine Af.Bv (m:=a) rfl ac ?_;refine Af.A5 ((a+1:Nat):Int) (by simp) (by omega) (by omega) ?_;refine Af.A5 ((b - 1:Nat):Int) (by omega) (by omega) (by omega) ?_;have ar:iter (GQ F xs (a:Int) (pv:Int) xs[pv] xs[a] ((b - 1:Nat):Int)) F ((a+1:Nat):Int)=some ((scanUp (fun x=>AI x ys.toArray[a]!) ys.toArray (b - 1) (a+1):Nat):Int):=
  Kj (by omega) (fun au av=>Ox U Z an (by omega) K au av) (b - 1+1 - (a+1)) (a+1) F (by omega) (by omega) (by omega)
 refine Af.be ar ?_;have aw:=scanUp_ge (fun x=>AI x ys.toArray[a]!) ys.toArray (b - 1) (a+1);have O:partition AI xs.toArray a b pv=if scanUp (fun x=>AI x ys.toArray[a]!) ys.toArray (b - 1) (a+1)>scanDown (fun x=> !AI x ys.toArray[a]!) ys.toArray (scanUp (fun x=>AI x ys.toArray[a]!) ys.toArray (b - 1) (a+1)) (b - 1) then
   (scanDown (fun x=> !AI x ys.toArray[a]!) ys.toArray (scanUp (fun x=>AI x ys.toArray[a]!) ys.toArray (b - 1) (a+1)) (b - 1),true,swp ys.toArray (scanDown (fun x=> !AI x ys.toArray[a]!) ys.toArray (scanUp (fun x=>AI x ys.toArray[a]!) ys.toArray (b - 1) (a+1)) (b - 1)) a) else
   ((partLoop AI a (scanUp (fun x=>AI x ys.toArray[a]!) ys.toArray (b - 1) (a+1)+1) (scanDown (fun x=> !AI x ys.toArray[a]!) ys.toArray (scanUp (fun x=>AI x ys.toArray[a]!) ys.toArray (b - 1) (a+1)) (b - 1) - 1) (swp ys.toArray (scanUp (fun x=>AI x ys.toArray[a]!) ys.toArray (b - 1) (a+1)) (scanDown (fun x=> !AI x ys.toArray[a]!) ys.toArray (scanUp (fun x=>AI x ys.toArray[a]!) ys.toArray (b - 1) (a+1)) (b - 1)))).1,false,
    swp (partLoop AI a (scanUp (fun x=>AI x ys.toArray[a]!) ys.toArray (b - 1) (a+1)+1) (scanDown (fun x=> !AI x ys.toArray[a]!) ys.toArray (scanUp (fun x=>AI x ys.toArray[a]!) ys.toArray (b - 1) (a+1)) (b - 1) - 1) (swp ys.toArray (scanUp (fun x=>AI x ys.toArray[a]!) ys.toArray (b - 1) (a+1)) (scanDown (fun x=> !AI x ys.toArray[a]!) ys.toArray (scanUp (fun x=>AI x ys.toArray[a]!) ys.toArray (b - 1) (a+1)) (b - 1)))).2
     (partLoop AI a (scanUp (fun x=>AI x ys.toArray[a]!) ys.toArray (b - 1) (a+1)+1) (scanDown (fun x=> !AI x ys.toArray[a]!) ys.toArray (scanUp (fun x=>AI x ys.toArray[a]!) ys.toArray (b - 1) (a+1)) (b - 1) - 1) (swp ys.toArray (scanUp (fun x=>AI x ys.toArray[a]!) ys.toArray (b - 1) (a+1)) (scanDown (fun x=> !AI x ys.toArray[a]!) ys.toArray (scanUp (fun x=>AI x ys.toArray[a]!) ys.toArray (b - 1) (a+1)) (b - 1)))).1 a):=by
  rw [aq];rfl
 generalize aF:scanUp (fun x=>AI x ys.toArray[a]!) ys.toArray (b - 1) (a+1)=i2 at aw O ⊢;have ay:iter (GU F xs (a:Int) (pv:Int) xs[pv] xs[a] (i2:Int)) F ((b - 1:Nat):Int)=some ((scanDown (fun x=> !AI x ys.toArray[a]!) ys.toArray i2 (b - 1):Nat):Int):=
  J4 (n:=ys.length) (by omega) (fun az aA=>NM U Z (by omega) K (by omega) az aA) (b - 1) F an (by omega)
 refine Af.be ay ?_;have hle:=scanDown_le (fun x=> !AI x ys.toArray[a]!) ys.toArray i2 (b - 1);generalize aG:scanDown (fun x=> !AI x ys.toArray[a]!) ys.toArray i2 (b - 1)=A at hle O ⊢;have W:A<ys.length:=by omega
 simp only [Int.toNat_natCast,U];refine Af.ite (fun h=>?_) (fun h=>?_)
 ·have ag:i2>A:=by omega
  rw [if_pos ag] at O;refine Af.Bv (m:=a) rfl Z ?_;refine Af.Bv (m:=A) rfl W ?_;refine Af.intro ?_;rw [O];exact⟨rfl,rfl,FJ W Z,(K.set (K.get Z)).set (K.get W),by simp [am]⟩
 ·have ag:¬i2>A:=by omega
  have ah:i2<ys.length:=by omega
  rw [if_neg ag] at O;refine Af.Bv (m:=A) rfl W ?_;refine Af.Bv (m:=i2) rfl ah ?_;refine Af.A5 ((i2+1:Nat):Int) (by simp) (by omega) (by omega) ?_;refine Af.A5 ((A - 1:Nat):Int) (by omega) (by omega) (by omega) ?_;refine Af.b (PG (F:=F) ap (show a<b by omega) (A - 1+1 - (i2+1)) (i2+1) (A - 1) F ((ys.set i2 ys[A]).set A ys[i2]) (by omega) (by omega) (by omega) (by omega) (by omega) (by simp;omega) (by simp;omega) ((K.set (K.get W)).set (K.get ah))) ?_;rintro r ⟨k1,ai,aa,ao⟩;rw [FJ ah W] at k1 ai;have aB:=NA a _ (i2+1) (A - 1) (swp ys.toArray i2 A) (Nat.le_refl _);obtain⟨aH,aj⟩:=r;simp only at k1 ai aa ao ⊢;subst k1;rw [← ai] at O;have hlen:aj.length=ys.length:=by simpa using ao
  generalize (partLoop AI a (i2+1) (A - 1) (swp ys.toArray i2 A)).1=pm at aB O ⊢;have ak:pm<aj.length:=by omega
  have al:a<aj.length:=by omega
  refine Af.Bv (m:=a) rfl al ?_;refine Af.Bv (m:=pm) rfl ak ?_;refine Af.intro ?_;rw [O];exact⟨rfl,rfl,FJ ak al,(aa.set (aa.get al)).set (aa.get ak),by simp [hlen,am]⟩
end Pal
namespace Pal
open Go.Sort
theorem O5(F:Nat):∀n:Nat,n<13→∃l,f163 F (BQ (n:Int))=some l:=by
 intro n A
 match n,A with
 | 0,_=>exact⟨_,rfl⟩
 | 1,_=>exact⟨_,rfl⟩
 | 2,_=>exact⟨_,rfl⟩
 | 3,_=>exact⟨_,rfl⟩
 | 4,_=>exact⟨_,rfl⟩
 | 5,_=>exact⟨_,rfl⟩
 | 6,_=>exact⟨_,rfl⟩
 | 7,_=>exact⟨_,rfl⟩
 | 8,_=>exact⟨_,rfl⟩
 | 9,_=>exact⟨_,rfl⟩
 | 10,_=>exact⟨_,rfl⟩
 | 11,_=>exact⟨_,rfl⟩
 | 12,_=>exact⟨_,rfl⟩
 | n+13,h=>omega
theorem OU(F:Nat):f163 F (BQ ((13:Nat):Int))=some 4:=rfl
def Is(xs:List PT)(d:Array PT)(ys:List PT):Prop:=ys.toArray=d∧KO ys∧ys.length=xs.length
theorem Kd{F a b:Nat}{l:Int}{xs:List PT}(A:2000<F)(K:a≤b)(ae:b≤a+12)(hb:b≤xs.length)(ag:xs.length<900)(O:KO xs):
  Af (Fz F xs (a:Int) (b:Int) l) (Is xs (insertionSort AI xs.toArray a b)):=by
 unfold Fz;refine Af.b (S:=fun r=>∃ys,r=Sum.inl ys∧Is xs (insertionSort AI xs.toArray a b) ys) ?_ ?_
 ·obtain⟨U,rfl⟩:∃k,F=k+1:=⟨F - 1,by omega⟩;obtain⟨ys,W,Z,aa,ab⟩:=Lt A hb (by omega) O K;have ac:HA (U+1) xs (a:Int) (b:Int) l ()=some (.done (Sum.inl ys)):=by
   refine Af.Hn ?_;unfold HA;refine Af.A5 ((b - a:Nat):Int) (by omega) (by omega) (by omega) ?_;refine Af.pos (by omega) ?_;exact Af.be W (Af.intro rfl)
  unfold iter;rw [ac];exact⟨_,rfl,ys,rfl,Z,aa,ab⟩
 ·rintro r ⟨ys,rfl,h⟩;exact Af.intro h
theorem IA{F a b:Nat}{l:Int}{wb wp:Bool}{xs:List PT}(A:2000<F)(K:a≤b)(ab:b≤a+12)(hb:b≤xs.length)(ac:xs.length<900)(O:KO xs):
  Af (Ew F l ((a:Int),(b:Int),wb,wp,xs)) (fun st=>∃ys,st= .done (Sum.inl ys)∧Is xs (insertionSort AI xs.toArray a b) ys):=by
 obtain⟨ys,U,W,Z,aa⟩:=Lt A hb (by omega) O K;unfold Ew;refine Af.b (S:=fun r=>r=Sum.inl ys) ?_ ?_
 ·refine Af.A5 ((b - a:Nat):Int) (by dsimp only;omega) (by omega) (by omega) ?_;refine Af.pos (by omega) ?_;exact Af.be U (Af.intro rfl)
 ·rintro r rfl;exact Af.intro ⟨ys,rfl,W,Z,aa⟩
theorem NS{F n:Nat}{l:Int}{xs:List PT}(K:2000<F)(aa:n=xs.length)(ab:n≤12)(O:KO xs):
  Af (f162 F xs 0 (n:Int) l) (Is xs (insertionSort AI xs.toArray 0 n)):=by
 unfold f162;refine Af.b (S:=fun r=>∃ys,r=Sum.inl ys∧Is xs (insertionSort AI xs.toArray 0 n) ys) ?_ ?_
 ·obtain⟨A,rfl⟩:∃k,F=k+1:=⟨F - 1,by omega⟩;obtain⟨st,U,ys,rfl,W⟩:=IA (F:=A+1) (a:=0) (b:=n) (l:=l) (wb:=true) (wp:=true) (xs:=xs) K (by omega) (by omega) (by omega) (by omega) O;have Z:Ew (A+1) l (0,(n:Int),true,true,xs)=some (.done (Sum.inl ys)):=U;unfold iter;rw [Z];exact⟨_,rfl,ys,rfl,W⟩
 ·rintro r ⟨ys,rfl,h⟩;exact Af.intro h
theorem Oz{S A:Type}{body:S→Option (AU S A)}{F:Nat}{s s':S}(h:body s=some (.more s')){Q:A→Prop}(k:Af (iter body F s') Q):Af (iter body (F+1) s) Q:=by
 unfold iter;rw [h];exact k
theorem OE{S A:Type}{body:S→Option (AU S A)}{F:Nat}{s:S}{Q:A→Prop}(h:Af (body s) (fun st=>∃a,st= .done a∧Q a)):Af (iter body (F+1) s) Q:=by
 obtain⟨st,K,a,rfl,O⟩:=h;unfold iter;rw [K];exact⟨a,rfl,O⟩
set_option maxHeartbeats 1000000 in
theorem PQ{F:Nat}{xs:List PT}(bd:3000<F)(aK:xs.length=13)(ap:KO xs):
  Af (f162 F xs 0 ((13:Nat):Int) 4) (Is xs (pdq AI xs.toArray 0 13 4 true true)):=by
 have aL:xs.toArray.size=13:=by simpa using aK
 obtain⟨s1,B1,bf,s2,bg,aq,bh,bi⟩:=rd_facts (lt:=AI) (d:=xs.toArray) (a:=0) (b:=13) (limit:=4) (wb:=true) (wp:=true) HS partialInsertionSort_holds reverseRange_holds (by omega) (by rw [aL];omega) (.inl rfl);have ar:¬(13 - 0≤12):=by omega
 have aD:=P0 (F:=F) (a:=0) (b:=13) (xs:=xs) (by omega) (by omega) (by omega) (by omega) ap;have aM:choosePivot AI xs.toArray 0 13=(rd AI xs.toArray 0 13 4 true true).c:=rfl;rw [aM] at aD;generalize A:rd AI xs.toArray 0 13 4 true true=R at*;have aN:R.lim=4:=by rw [← A];rfl
 have aO:R.c.2= .decreasing→R.d2=reverseRange xs.toArray 0 13∧R.pivot=(13 - 1) - (R.c.1 - 0)∧R.hint= .increasing:=by
  intro h;rw [← A] at h ⊢;exact rd_dec h
 have aP:R.c.2≠ .decreasing→R.d2=xs.toArray∧R.pivot=R.c.1∧R.hint=R.c.2:=by
  intro h;rw [← A] at h ⊢;exact rd_not h
 have aQ:R.hint= .increasing→R.pi=partialInsertionSort AI R.d2 0 13:=by
  intro h;rw [← A] at h ⊢;exact rd_pi_yes (by simp [h])
 have aR:R.hint≠ .increasing→R.pi=(R.d2,false):=by
  intro h;rw [← A] at h ⊢;exact rd_pi_no (by simp [h])
 have aS:Af (if Fx R.c.2=2 then(f182 F xs 0 ((13:Nat):Int)).bind fun aT=>(Aw (((13:Nat):Int) - 1)).bind fun aU=>(Aw (((R.c.1:Nat):Int) - 0)).bind fun aV=>(Aw (aU - aV)).bind fun aW=>some (aW,(1:Int),aT) else some (((R.c.1:Nat):Int),Fx R.c.2,xs))
   (fun q=>q.1=((R.pivot:Nat):Int)∧q.2.1=Fx R.hint∧Is xs R.d2 q.2.2):=by
  by_cases ai:R.c.2= .decreasing
  ·obtain⟨ac,ae,W⟩:=aO ai;refine Af.pos (by rw [ai];rfl) ?_;refine Af.b (PL (F:=F) (a:=0) (b:=13) (xs:=xs) (by omega) (by omega) (by omega) (by omega) ap) ?_;rintro ys ⟨k1,O,U⟩;refine Af.A5 12 (by omega) (by omega) (by omega) ?_;refine Af.A5 ((R.c.1:Nat):Int) (by omega) (by omega) (by omega) ?_;refine Af.A5 ((12 - R.c.1:Nat):Int) (by omega) (by omega) (by omega) ?_;refine Af.intro ⟨?_,?_,?_,O,U⟩
   ·rw [ae];rfl
   ·rw [W];rfl
   ·rw [ac];exact k1
  ·obtain⟨ac,ae,W⟩:=aP ai;refine Af.neg (by intro h;cases au:R.c.2 <;> rw [au] at h ai <;> first | (exact ai rfl) | (cases h)) ?_
   refine Af.intro ⟨?_,?_,?_,ap,rfl⟩
   ·rw [ae]
   ·rw [W]
   ·rw [ac]
 unfold f162;refine Af.b (S:=fun r=>∃ys,r=Sum.inl ys∧Is xs (pdq AI xs.toArray 0 13 4 true true) ys) ?_ (by rintro r ⟨ys,rfl,h⟩;exact Af.intro h);have aX:∀(Z:List PT),Is xs R.pi.1 Z→R.pi.2=false→
   Af ((f185 F Z 0 ((13:Nat):Int) ((R.pivot:Nat):Int)).bind fun K=>(Aw (K.1 - 0)).bind fun aE=>(Aw (((13:Nat):Int) - K.1)).bind fun aF=>(EG (13:Int) (8)).bind fun aG=>
     Option.bind (
      if aE<aF then(
       (Fz F K.2.2 0 K.1 4).bind fun aY=>
       (Aw (K.1+1)).bind fun aZ=>
       some (aZ,((13:Nat):Int),decide (aG≤aE),aY)
      ) else(
       (Aw (K.1+1)).bind fun a0=>
       (Fz F K.2.2 a0 ((13:Nat):Int) 4).bind fun a1=>
       some ((0:Int),K.1,decide (aG≤aF),a1)
      )
     ) fun am=>
     some (am.1,am.2.1,am.2.2.1,K.2.1,am.2.2.2))
    (fun st=>Af (Ew F 4 st) (fun q=>∃a,q= .done a∧∃ys,a=Sum.inl ys∧Is xs (pdq AI xs.toArray 0 13 4 true true) ys)):=by
  intro Z a2 aH;obtain⟨z1,a3,bj⟩:=a2;have bk:Z.length=13:=by omega
  refine Af.b (PK (F:=F) (a:=0) (b:=13) (pv:=R.pivot) (xs:=Z) (by omega) (by omega) aq.2 (by omega) (by omega) a3) ?_;rw [z1];have aa:=partition_holds AI HS R.pi.1 0 13 R.pivot aq.1 aq.2 (by omega);have aj:=fun av=>pdq_left (lt:=AI) (d:=xs.toArray) (a:=0) (b:=13) (limit:=4) (wb:=true) (wp:=true) ar (by omega) (by rw [A];exact aH) (by simp) (by rw [A];exact⟨aa.1,aa.2.1⟩) av;have ak:=fun av=>pdq_right (lt:=AI) (d:=xs.toArray) (a:=0) (b:=13) (limit:=4) (wb:=true) (wp:=true) ar (by omega) (by rw [A];exact aH) (by simp) (by rw [A];exact⟨aa.1,aa.2.1⟩) av;rw [A] at aj ak;rw [aN] at aj ak;generalize partition AI R.pi.1 0 13 R.pivot=PA at aa aj ak ⊢;obtain⟨m,bl,d4⟩:=PA;rintro⟨bm,a4,ab⟩ ⟨k1,O,U,aw,a5⟩;simp only at k1 O U aw a5 aa aj ak ⊢;subst k1 O;have hm:m<13:=aa.2.1;have bn:ab.length=13:=by omega
  refine Af.A5 (m:Int) (by omega) (by omega) (by omega) ?_;refine Af.A5 ((13 - m:Nat):Int) (by omega) (by omega) (by omega) ?_;refine Af.be (b:=1) rfl ?_;by_cases aI:m - 0<13 - m
  ·refine Af.b (S:=fun q=>∃us,q=(((m+1:Nat):Int),((13:Nat):Int),decide ((1:Int)≤(m:Int)),us)∧Is ab (insertionSort AI ab.toArray 0 m) us) ?_ ?_
   ·refine Af.pos (by omega) ?_;refine Af.b (Kd (F:=F) (a:=0) (b:=m) (l:=4) (xs:=ab) (by omega) (by omega) (by omega) (by omega) (by omega) aw) ?_;intro us ay;refine Af.A5 ((m+1:Nat):Int) (by simp) (by omega) (by omega) ?_;exact Af.intro ⟨us,rfl,ay⟩
   ·rintro q ⟨us,rfl,u1,az,a6⟩;refine Af.intro ?_;refine(IA (F:=F) (a:=m+1) (b:=13) (l:=4) (xs:=us) (by omega) (by omega) (by omega) (by omega) (by omega) az).mono ?_;rintro st ⟨ys,rfl,v1,v2,a7⟩;refine⟨_,rfl,ys,rfl,?_,v2,by omega⟩;rw [v1,u1,U,aj aI,pdq_small (by omega),pdq_small (by omega)]
  ·refine Af.b (S:=fun q=>∃us,q=((0:Int),(m:Int),decide ((1:Int)≤((13 - m:Nat):Int)),us)∧Is ab (insertionSort AI ab.toArray (m+1) 13) us) ?_ ?_
   ·refine Af.neg (by omega) ?_;refine Af.A5 ((m+1:Nat):Int) (by simp) (by omega) (by omega) ?_;refine Af.b (Kd (F:=F) (a:=m+1) (b:=13) (l:=4) (xs:=ab) (by omega) (by omega) (by omega) (by omega) (by omega) aw) ?_;intro us ay;exact Af.intro ⟨us,rfl,ay⟩
   ·rintro q ⟨us,rfl,u1,az,a6⟩;refine Af.intro ?_;have:=IA (F:=F) (a:=0) (b:=m) (l:=4) (wb:=decide ((1:Int)≤((13 - m:Nat):Int))) (wp:=a4) (xs:=us) (by omega) (by omega) (by omega) (by omega) (by omega) az;refine Af.mono this ?_;rintro st ⟨ys,rfl,v1,v2,a7⟩;refine⟨_,rfl,ys,rfl,?_,v2,by omega⟩;rw [v1,u1,U,ak aI,pdq_small (by omega),pdq_small (by omega)]
 have a8:Af (Ew F 4 (0,((13:Nat):Int),true,true,xs)) (fun st=>(∃a,st= .done a∧∃ys,a=Sum.inl ys∧Is xs (pdq AI xs.toArray 0 13 4 true true) ys)∨
   ∃s',st= .more s'∧Af (Ew F 4 s') (fun q=>∃a,q= .done a∧∃ys,a=Sum.inl ys∧Is xs (pdq AI xs.toArray 0 13 4 true true) ys)):=by
  unfold Ew;refine Af.b (S:=fun r=>(∃ys,r=Sum.inl ys∧Is xs (pdq AI xs.toArray 0 13 4 true true) ys)∨∃s',r=Sum.inr s'∧Af (Ew F 4 s') (fun q=>∃a,q= .done a∧∃ys,a=Sum.inl ys∧Is xs (pdq AI xs.toArray 0 13 4 true true) ys)) ?_ ?_
  ·refine Af.A5 13 (by dsimp only;omega) (by omega) (by omega) ?_;refine Af.neg (by omega) ?_;refine Af.neg (by omega) ?_;refine Af.b (S:=fun _=>True) (Af.neg (by simp) (Af.intro trivial)) fun _ _=>?_;refine Af.be aD ?_;refine Af.b aS ?_;rintro⟨q1,q2,ag⟩ ⟨ac,ae,W⟩;simp only at ac ae W ⊢;subst ac ae;refine Af.be (b:=true) (by simp) ?_;refine Af.be (b:=decide (Fx R.hint=1)) (by simp) ?_;have a9:Af (if(decide (Fx R.hint=1))=true then(f183 F ag 0 ((13:Nat):Int)).bind fun aA=>if aA.1=true then some (Sum.inl aA.2) else some (Sum.inr aA.2) else some (Sum.inr ag))
     (fun r=>(R.pi.2=true∧∃ys,r=Sum.inl ys∧Is xs R.pi.1 ys)∨(R.pi.2=false∧∃ys,r=Sum.inr ys∧Is xs R.pi.1 ys)):=by
    by_cases hh:R.hint= .increasing
    ·refine Af.pos (by rw [hh];rfl) ?_;obtain⟨k1,O,U⟩:=W;obtain⟨aB,an⟩:=PR (F:=F) (a:=0) (b:=13) (xs:=ag) (by omega) (by omega) (by omega) (by omega) (by omega) O;rw [k1] at aB an;rw [← aQ hh] at aB an;refine Af.be aB ?_;refine Af.ite (fun h=>?_) (fun h=>?_)
     ·exact Af.intro (.inl ⟨h,ag,rfl,by rw [an];exact k1,O,U⟩)
     ·exact Af.intro (.inr ⟨by simpa using h,ag,rfl,by rw [an];exact k1,O,U⟩)
    ·refine Af.neg (by intro h;cases au:R.hint <;> rw [au] at h hh <;> first | (exact hh rfl) | (simp [Fx] at h)) ?_
     rw [aR hh];exact Af.intro (.inr ⟨rfl,ag,rfl,W⟩)
   refine Af.b a9 ?_;rintro r (⟨p2,ys,rfl,aC⟩ | ⟨p2,Z,rfl,ba⟩)
   ·refine Af.intro (.inl ⟨ys,rfl,?_⟩);rw [pdq_done ar (by omega) (by rw [A];exact p2),A];exact aC
   ·rw [Sum.elim_inr];refine Af.b (S:=fun c=>c=false) (Af.neg (by omega) (Af.intro rfl)) ?_;rintro c rfl;refine Af.neg (by simp) ?_;obtain⟨s',ah,al⟩:=aX Z ba p2;have bo:∀{α β:Type} (o:Option α) (f:α→Option β) (g:β→(List PT)⊕(Int×Int×Bool×Bool×List PT)),True:=fun _ _ _=>trivial;refine Af.of_eq (a:=Sum.inr s') ?_ (.inr ⟨s',rfl,al⟩);have key:∀(o:Option (Int×Int×Bool×Bool×List PT)),o=some s'→(o.bind fun x=>some (Sum.inr x:List PT⊕(Int×Int×Bool×Bool×List PT)))=some (Sum.inr s'):=fun o bb=>by rw [bb];rfl
    refine Eq.trans ?_ (key _ ah);simp only [Option.bind_assoc,Option.bind_some]
  ·rintro r (⟨ys,rfl,aC⟩ | ⟨s',rfl,bc⟩)
   ·exact Af.intro (.inl ⟨_,rfl,ys,rfl,aC⟩)
   ·exact Af.intro (.inr ⟨s',rfl,bc⟩)
 obtain⟨bp,aJ⟩:∃k,F=k+2:=⟨F - 2,by omega⟩;obtain⟨st,ah,al | al⟩:=a8
 ·obtain⟨a,rfl,ao⟩:=al;rw [aJ] at ah ⊢;unfold iter;rw [ah];exact⟨a,rfl,ao⟩
 ·obtain⟨s',rfl,ao⟩:=al;rw [aJ] at ah ao ⊢;exact Oz ah (OE ao)
end Pal
namespace Pal
open Go Go.Conc Go.Proofs
open Go.Proofs.Tryz
variable {J:Judge Tryz.prog}{E:LH}
def Lg(fuel:Nat)(p1:Int)(A:Int)(O:Unit):Option (AU (Unit) (Unit)):=
 Option.bind (
  if p1<A then(
   none
  ) else(
   some false
  )
 ) fun K=>
 if K=true then(
  (Aw (A - 1)).bind fun U=>
  (Aw (A - 1)).bind fun W=>
  none
 ) else(
  some (.done ())
 )
def KS(fuel:Nat)(p1:Int)(p2:Int)(A:Int):Option (AU (Int) (Unit)):=
 if A<p2 then(
  Option.bind (iter (Lg fuel p1 A) fuel ()) fun O=>
  (Aw (A+1)).bind fun K=>
  some (.more K)
 ) else(
  some (.done ())
 )
def Jz(fuel:Nat)(p1:Int)(p2:Int):Option (Unit):=
 (Aw (p1+1)).bind fun A=>
 Option.bind (iter (KS fuel p1 p2) fuel A) fun K=>
 some ()
theorem P5{p1:Int}{p2:Int}{fuel:Nat}{r:Unit}(ag:Jz fuel p1 p2=some r):Au J 178 [.slice none 0 0,iV p1,iV p2,(.func (.func 134) #[] #[])] E [] (fun w E' B'=>w= .tuple #[]∧B'= []):=by
 refine Au.en func178 rfl rfl fun Q a3 cs H ay az=>?_;unfold Jz at ag;obtain⟨aA,aB,aC⟩:=bs ag;refine JL.go 3 rfl ?_;refine JL.Y rfl (fun ρ h=>Yl.A1 (h _ _ rfl) (h _ _ rfl) aB) ?_;obtain⟨a4,aD,aE⟩:=bs aC;refine JL.go 2 rfl ?_;refine JL.join (fun L s=>∃(ah:LH),Jm E H ah [] [] L s) ?_ ?_
 ·rintro _ _ ⟨ah,rfl,rfl,aF,aG⟩;obtain rfl:=oi aE;refine JL.fin (v:= .tuple #[]) rfl rfl (Bl.list func178 rfl (vs:= []) trivial) ?_;exact az _ _ _ _ aF rfl ⟨rfl,rfl⟩ aG
 ·intro aH;refine JL.block ?_;refine JL.wk [(0,.slice none 0 0),(1,iV p1),(2,iV p2),(3,(.func (.func 134) #[] #[])),(8,iV aA)] rfl ?_;refine JL.Bg aD (fun L s A=>∃(K:LH),Jm E H K [] [(0,.slice none 0 0),(1,iV p1),(2,iV p2),(3,(.func (.func 134) #[] #[])),(8,iV A)] L s) ⟨E,rfl,rfl,(Le.refl _),ay⟩ ?_;rintro _ _ A ⟨K,rfl,rfl,ai,aj⟩ aI ⟨a5,U⟩ aJ;have W:=U;unfold KS at W;refine JL.go 7 rfl ?_;refine JL.ifs (p:=A<p2) rfl (fun Z=>?_) (fun Z=>?_)
  ·have ak:=W;rw [if_pos Z] at ak;obtain⟨a6,aK,aL⟩:=bs ak;refine JL.go 8 rfl ?_;refine JL.join (fun L s=>∃(aa:LH),Jm K H aa [] [(0,.slice none 0 0),(1,iV p1),(2,iV p2),(3,(.func (.func 134) #[] #[])),(8,iV A)] L s) ?_ ?_
   ·rintro _ _ ⟨aa,rfl,rfl,aM,aN⟩;obtain⟨aO,aP,aQ⟩:=bs aL;refine JL.go 3 rfl ?_;refine JL.Y rfl (fun ρ h=>Yl.A1 (h _ _ rfl) (h _ _ rfl) aP) ?_;refine JL.go 2 rfl ?_;obtain rfl:=oi aQ;exact JL.kw (aJ _ _ aO ⟨aa,rfl,rfl,(ai.trans aM),aN⟩ U) rfl
   ·intro aR;refine JL.block ?_;refine JL.wk [(0,.slice none 0 0),(1,iV p1),(2,iV p2),(3,(.func (.func 134) #[] #[])),(8,iV A),(9,iV A)] rfl ?_;refine JL.Bg aK (fun L s aS=>∃(O:LH),Jm K H O [] [(0,.slice none 0 0),(1,iV p1),(2,iV p2),(3,(.func (.func 134) #[] #[])),(8,iV A),(9,iV A)] L s) ⟨K,rfl,rfl,(Le.refl _),aj⟩ ?_;rintro _ _ aS ⟨O,rfl,rfl,aT,aU⟩ aV ⟨a7,al⟩ a8;have am:=al;unfold Lg at am;refine JL.go 2 rfl ?_;refine JG.CQ 17 mixed rfl (by decide+kernel) fun ht=>?_;refine JG.mv 0 ht rfl rfl ?_;refine JG.mv 1 ht rfl rfl ?_;refine JG.mv 2 ht rfl rfl ?_;refine JG.mv 3 ht rfl rfl ?_;obtain⟨an,ao,ap⟩:=bs am;refine Av.join 0 #[true,true,true,true,true,true,true,true,true,true,true,true,true,true,true,true,true] (fun L s=>∃(ab:LH),Jm O H ab [] [(0,.slice none 0 0),(1,iV p1),(2,iV p2),(3,(.func (.func 134) #[] #[])),(8,iV A),(9,iV A),(34,.bool an)] L s) ?_ ?_
    ·rintro _ _ ⟨ab,rfl,rfl,aW,aX⟩;refine Av.fin (by decide+kernel) ?_;refine JL.split (t:=an) rfl (fun ac=>?_) (fun ac=>?_)
     ·have aq:=ap;rw [if_pos ac] at aq;refine JL.go 3 rfl ?_;refine JG.CQ 16 mixed rfl (by decide+kernel) fun ht=>?_;refine JG.mv 0 ht rfl rfl ?_;refine JG.mv 1 ht rfl rfl ?_;refine JG.mv 2 ht rfl rfl ?_;refine JG.mv 3 ht rfl rfl ?_;obtain⟨a9,aY,aZ⟩:=bs aq;refine JG.V 4 ht rfl rfl (fun ρ h s' hs=>Yl.A4 (h _ _ rfl) (h _ _ rfl) aY) ?_;refine JG.mv 5 ht rfl rfl ?_;refine JG.mv 6 ht rfl rfl ?_;obtain⟨ba,a0,a1⟩:=bs aZ;refine JG.V 7 ht rfl rfl (fun ρ h s' hs=>Yl.A4 (h _ _ rfl) (h _ _ rfl) a0) ?_;cases a1
     ·have ar:=ap;rw [if_neg (by rw [ac];exact Bool.false_ne_true)] at ar;refine JL.exit rfl ?_;obtain rfl:=oi ar;obtain rfl:=aV _ al;exact JL.kw (aR _ _ ⟨ab,rfl,rfl,(aT.trans aW),aX⟩) rfl
    ·intro a2;refine Av.BP (q:=p1<A) (i:=21) rfl (fun ae=>?_) (fun ae=>?_)
     ·have au:=ao;rw [if_pos ae] at au;refine JG.mv 4 ht rfl rfl ?_;refine JG.mv 5 ht rfl rfl ?_;refine JG.mv 6 ht rfl rfl ?_;cases au
     ·have av:=ao;rw [if_neg ae] at av;refine JG.mv 4 ht rfl rfl ?_;refine JG.mv 5 ht rfl rfl ?_;refine JG.mv 6 ht rfl rfl ?_;refine JG.mv 7 ht rfl rfl ?_;refine JG.mv 8 ht rfl rfl ?_;refine JG.mv 9 ht rfl rfl ?_;refine JG.mv 10 ht rfl rfl ?_;refine JG.mv 11 ht rfl rfl ?_;refine JG.mv 12 ht rfl rfl ?_;refine JG.mv 13 ht rfl rfl ?_;refine JG.mv 14 ht rfl rfl ?_;refine JG.mv 15 ht rfl rfl ?_;refine JG.mv 16 ht rfl rfl ?_;obtain rfl:=oi av;refine Av.BK ?_ (a2 _ _ ⟨O,rfl,rfl,(Le.refl _),aU⟩);exact⟨rfl,rfl,rfl,rfl,rfl,rfl,rfl,trivial⟩
  ·have aw:=W;rw [if_neg Z] at aw;refine JL.exit rfl ?_;obtain rfl:=oi aw;obtain rfl:=aI _ U;exact JL.kw (aH _ _ ⟨K,rfl,rfl,ai,aj⟩) rfl
def Lh(fuel:Nat)(p1:Int)(p2:Int)(p3:Int)(K:Unit):Option (AU (Unit) ((Unit)⊕(Unit))):=
 (Aw (p2 - p1)).bind fun A=>
 if A≤12 then(
  (Jz fuel p1 p2).bind fun O=>
  some (.done (Sum.inl ()))
 ) else(
  if p3=0 then(
   none
  ) else(
   none
  )
 )
def Ju(fuel:Nat)(p1:Int)(p2:Int)(p3:Int):Option (Unit):=
 Option.bind (iter (Lh fuel p1 p2 p3) fuel ()) fun A=>
 Sum.elim (fun r=>some r) (fun K=>
 none
 ) A
theorem PC{p1:Int}{p2:Int}{p3:Int}{fuel:Nat}{r:Unit}(U:Ju fuel p1 p2 p3=some r):Au J 162 [.slice none 0 0,iV p1,iV p2,iV p3,(.func (.func 134) #[] #[])] E [] (fun w E' B'=>w= .tuple #[]∧B'= []):=by
 refine Au.en func162 rfl rfl fun Q aA cs H ah ai=>?_;unfold Ju at U;obtain⟨aB,aj,ak⟩:=bs U;refine JL.go 8 rfl ?_;refine JL.join (fun L s=>False) ?_ ?_
 ·intro _ _ al;exact al.elim
 ·intro aC;refine JL.block ?_;refine JL.wk [(0,.slice none 0 0),(1,iV p1),(2,iV p2),(3,iV p3),(4,(.func (.func 134) #[] #[])),(10,.bool true),(11,.bool true)] rfl ?_;refine JL.Bg aj (fun L s am=>∃(W:LH),Jm E H W [] [(0,.slice none 0 0),(1,iV p1),(2,iV p2),(3,iV p3),(4,(.func (.func 134) #[] #[])),(10,.bool true),(11,.bool true)] L s) ⟨E,rfl,rfl,(Le.refl _),ah⟩ ?_;rintro _ _ am ⟨W,rfl,rfl,an,ao⟩ ap ⟨aD,Z⟩ aE;have aa:=Z;unfold Lh at aa;obtain⟨aq,ar,ab⟩:=bs aa;refine JL.go 5 rfl ?_;refine JL.Y rfl (fun ρ h=>Yl.A4 (h _ _ rfl) (h _ _ rfl) ar) ?_;refine JL.go 8 rfl ?_;refine JL.ifs (p:=aq≤12) rfl (fun A=>?_) (fun A=>?_)
  ·have ac:=ab;rw [if_pos A] at ac;obtain⟨aF,au,av⟩:=bs ac;refine JL.go 6 rfl ?_;refine JS.cl (P5 au) rfl rfl (Ay func178 rfl) ao ?_;rintro _ aG _ aw ⟨rfl,rfl⟩ ay;refine JL.done ?_;obtain rfl:=oi av;obtain rfl:=ap _ Z;have az:=elim_inl ak;obtain rfl:=oi az;refine JL.rt func162 rfl rfl ?_;exact ai _ _ _ _ (an.trans aw) rfl ⟨rfl,rfl⟩ ay
  ·have K:=ab;rw [if_neg A] at K;refine JL.go 7 rfl ?_;refine JL.ifs (p:=p3=0) rfl (fun O=>?_) (fun O=>?_)
   ·have ae:=K;rw [if_pos O] at ae;refine JL.go 6 rfl ?_;cases ae
   ·have ag:=K;rw [if_neg O] at ag;refine JL.go 5 rfl ?_;refine JL.Y (v:= .bool false) rfl (fun ρ h=>Yl.not (c:=true) (h _ _ rfl)) ?_;refine JL.go 9 rfl ?_;cases ag
def MM(fuel:Nat):Option (Unit):=
 (f163 fuel (BQ ((0:Nat):Int))).bind fun A=>
 (Ju fuel 0 ((0:Nat):Int) A).bind fun K=>
 some ()
theorem Pf{fuel:Nat}{r:Unit}(A:MM fuel=some r):Au J 133 [.slice none 0 0,(.func (.func 134) #[] #[])] E [] (fun w E' B'=>w= .tuple #[]∧B'= []):=by
 refine Au.en func133 rfl rfl fun Q ah cs H K O=>?_;unfold MM at A;refine JL.go 3 rfl ?_;refine JL.Y rfl (fun ρ h=>Yl.len rfl underlying130 (h _ _ rfl)) ?_;refine JL.go 6 rfl ?_;refine JL.Y (v:= .int .u64 ((BQ ((0:Nat):Int):Nat):Int)) rfl (fun ρ h=>Yl.BQ underlying3 underlying156 (h _ _ rfl)) ?_;obtain⟨ai,U,W⟩:=bs A;refine JS.cl (Mg U) rfl rfl (Ay func163 rfl) K ?_;rintro _ aj _ Z ⟨rfl,rfl⟩ aa;obtain⟨ak,ab,ac⟩:=bs W;refine JL.go 1 rfl ?_;refine JS.cl (PC ab) rfl rfl (Ay func162 rfl) aa ?_;rintro _ al _ ae ⟨rfl,rfl⟩ ag;refine JL.done ?_;obtain rfl:=oi ac;refine JL.fin (v:= .tuple #[]) rfl rfl (Bl.list func133 rfl (vs:= []) trivial) ?_;exact O _ _ _ _ (Z.trans ae) rfl ⟨rfl,rfl⟩ ag
end Pal
namespace Pal
open Go Go.Conc Go.Proofs Go.Sort
theorem N3:∀(ys A:List PT),A.Perm ys→ys.Pairwise (fun p q=>p.1<q.1)→A.Pairwise (fun p q=>p.1≤q.1)→A=ys:=by
 intro ys
 induction ys with
 | nil=>intro A h _ _;exact h.eq_nil
 | cons y ys Z=>
  intro A h K O;cases A with
  | nil=>exact absurd h.symm.eq_nil (by simp)
  | cons z A=>
   rw [List.pairwise_cons] at K O;have U:z∈y::ys:=h.mem_iff.1 (by simp);have W:y∈z::A:=h.mem_iff.2 (by simp);have e:z=y:=by
    rcases List.mem_cons.1 U with e | U
    ·exact e
    ·rcases List.mem_cons.1 W with e | W
     ·exact e.symm
     ·have:=K.1 z U;have:=O.1 y W;omega
   subst e;rw [Z A ((List.perm_cons z).1 h) K.2 O.2]
theorem Pv{F:Nat}{xs ys:List PT}(ah:3000<F)(ap:xs.length≤13)(Z:KO xs)(ai:ys.Perm xs)(hs:ys.Pairwise (fun p q=>p.1<q.1)):f133 F xs=some ys:=by
 have fin:∀(d:Array PT) (A:List PT),PermIn 0 xs.toArray.size xs.toArray d→SortedIn AI 0 xs.toArray.size d→A.toArray=d→A=ys:=by
  rintro d A aa aj rfl;have ab:A.Perm xs:=by
   have ac:=aa.2.2;have K:=aa.1;simp only [List.size_toArray] at K ac;have ak:(A.toArray.extract 0 xs.length).toList=A:=by simp [← K]
   have al:(xs.toArray.extract 0 xs.length).toList=xs:=by simp
   rwa [ak,al] at ac
  refine N3 ys A (ab.trans ai.symm) hs ?_;rw [List.pairwise_iff_getElem];intro i j hi ae am;have h:=aj i j (Nat.zero_le _) am (by simpa using (ab.length_eq▸ae));rw [DO hi,DO ae] at h;simpa [AI] using h
 have h:Af (f133 F xs) (fun A=>A=ys):=by
  unfold f133;rcases Nat.lt_or_ge xs.length 13 with ag | ag
  ·obtain⟨l,K⟩:=O5 F xs.length ag;refine Af.be K ?_;refine Af.b (NS (F:=F) (n:=xs.length) (l:=l) (by omega) rfl (by omega) Z) ?_;rintro A ⟨k1,an,ao⟩;obtain⟨U,W⟩:=insertionSort_holds HS xs.toArray 0 xs.length (Nat.zero_le _) (by simp);exact Af.intro (fin _ A (by simpa using U) (by simpa using W) k1)
  ·have O:xs.length=13:=by omega
   refine Af.be (b:=4) (by rw [O];exact OU F) ?_;rw [O];refine Af.b (PQ (F:=F) (xs:=xs) ah O Z) ?_;rintro A ⟨k1,an,ao⟩;obtain⟨U,W⟩:=pdq_sorts AI HS xs.toArray 0 13 4 true true (Nat.zero_le _) (by simp [O]) (.inl rfl);have e:xs.toArray.size=13:=by simpa using O
   exact Af.intro (fin _ A (by rw [e];exact U) (by rw [e];exact W) k1)
 obtain⟨A,K,rfl⟩:=h;exact K
theorem Qh{J:Judge Tryz.prog}{E:LH}{a:Option Addr}{c:Nat}{g:Seg}{xs ys:List PT}(O:xs.length≤13)(U:KO xs)(K:ys.Perm xs)(hs:ys.Pairwise (fun p q=>p.1<q.1))(W:OL 133 (rP rI (rP rI (rL (rP rI (rP (rL rI) (rN .u16)))))) E a c g xs):
  Au J 133 [.slice a xs.length c,.func (.func 134) #[] #[]] E g (fun w E' B'=>w= .tuple #[]∧OL 133 (rP rI (rP rI (rL (rP rI (rP (rL rI) (rN .u16)))))) E' a c B' ys):=by
 rcases W.cases with⟨rfl,rfl,rfl,rfl⟩ | ⟨aa,f,rfl,rfl,hW⟩
 ·obtain rfl:ys= []:=K.eq_nil;refine(Pf (fuel:=10) (r:=()) rfl).mono ?_;rintro w E' B' hle ⟨A,rfl⟩;exact⟨A,OL.nil⟩
 ·refine(Qo hW (fuel:=4000) (Pv (by omega) O U K hs)).mono ?_;rintro w E' B' hle ⟨ab,A,rfl,Z⟩;exact⟨A,Z.1⟩
end Pal
namespace Pal
open Go Go.Conc Go.Proofs
open Go.Proofs.Tryz
open Go.Conc.Lib Go.ConcR.Gen
def EO(qs:Nat→Int×List (Int×(List Int)×Nat)):List (Int×Int×List (Int×(List Int)×Nat)):=((List.range 13).filter (fun j=>decide (0<(qs j).2.length))).map (partOf qs)
theorem Pb
  {E:LH} {k1 ae:Nat} {aq ar ag:Option Addr} {au av ah:Nat} {aw:List Value} {U:(List (List Int))×(List (List Int))×(List Nat)} {Z:List (Int×Int)} (aj:At E k1 ae (([.slice aq (U.1).length au,.slice ar (U.2.1).length av]:List Value)++aw)) (aE:Ar (rL rI) E aq au (U.1)) (aF:Ar (rL rI) E ar av (U.2.1)) (aG:(rA 13 (rN .u16)).r E aw (U.2.2)) (aH:Ar (rP rI rI) E ag ah Z) {fuel:Nat} {qs:Nat→Int×List (Int×(List Int)×Nat)} (aI:∀j,j<13→EW fuel U Z ((j:Nat):Int)=some (qs j)):
  Au (Ce Tryz.prog) 102 [.pointer (some ⟨k1,ae,none⟩),.slice ag Z.length ah] E [] (fun w E' B'=>∃a c,w= .slice a (EO qs).length c∧B'= []∧Ar (rP rI (rP rI (rL (rP rI (rP (rL rI) (rN .u16)))))) E' a c (EO qs)):=by
 refine Au.en func102 rfl rfl fun Q bk cs H aJ aK=>?_;refine JL.go 2 rfl ?_;refine JS.box (v:= .pointer (some ⟨k1,ae,none⟩)) rfl rfl rfl aJ rfl fun ay aL=>?_;refine JS.Bi 1 aL rfl fun aM aN aa aO=>?_;replace aa:At aM ay 0 [.pointer (some ⟨k1,ae,none⟩)]:=aa;refine JS.box (v:= .slice ag Z.length ah) rfl rfl rfl aO rfl fun az aP=>?_;refine JS.Bi 2 aP rfl fun aQ aA ak aR=>?_;replace ak:At aQ az 0 [.slice ag Z.length ah]:=ak;refine JS.split (S':= []) (by simp) aR fun aS=>?_;refine JL.go 4 rfl ?_;refine JS.makeChan rfl rfl rfl underlying162 (Cp type133) aS fun ch aT=>?_;refine JS.alloc rfl rfl rfl aT (AN type162) fun rc aU=>?_;refine JS.store (v:= .chan (some ch)) (off:=0) 1 rfl rfl rfl aU rfl rfl (Ah type162) (by simp [Value.cells,Bs]) rfl (Nat.le_of_ble_eq_true rfl) fun aV=>?_;refine JS.Bi 1 aV rfl fun A al ab aW=>?_;replace ab:At A rc 0 [.chan (some ch)]:=ab;refine JL.go 3 rfl ?_;refine JS.alloc rfl rfl rfl aW (AN type171) fun wg aX=>?_;refine JS.split (S':= [[(ch,.chan 0 #[] false 0 0 false)],[(wg,.cells #[.int .u64 0,.int .u32 0] 171 (0,0))]]) (by simp [Value.cells]) aX fun ai=>?_;refine JL.go 7 rfl ?_;refine JL.Gq ?_;refine JL.wk [(2,.pointer (some ⟨ay,0,none⟩)),(3,.pointer (some ⟨az,0,none⟩)),(5,.pointer (some ⟨rc,0,none⟩)),(6,.pointer (some ⟨wg,0,none⟩)),(11,iV ((0:Nat):Int))] rfl ?_;have aY:=aN.trans aA;have W:=aY.trans al;have am:=Nd.iff.1 ai;intro T aZ;let F:Fam:=⟨wg,ch,171,13,fun j=>decide (0<(qs j).2.length),fun kk v E=>kk<13∧∃a c,v= .agg #[iV ((kk:Nat):Int),iV (qs kk).1,.slice a (qs kk).2.length c]∧Ar (rP rI (rP (rL rI) (rN .u16))) E a c (qs kk).2,fun g s=>(Ce Tryz.prog).ok Q g s⟩;refine Pl F (Nat.le_of_ble_eq_true rfl) (show 13<2147483647 by omega) ?_ ?_ (Ip (j:=1) ai rfl) (Ip (j:=0) ai rfl) ?_ (fun g s h=>h)
 ·rintro kk v bl bm an ⟨ac,a,c,a0,aj⟩;exact⟨ac,a,c,a0,aj.mono an⟩
 ·intro e;have:=am.1;simp at this;exact this e.symm
 have a1:=NN ai;show Way Tryz.prog true (Stop Tryz.prog F (.C4 0)) _ (⟨(Ap A H [[(ch,.chan 0 #[] false 0 0 false)],[(wg,.cells #[.int .u64 0,.int .u32 0] 171 (0,0))]]).E,Fu (Ap A H [[(ch,.chan 0 #[] false 0 0 false)],[(wg,.cells #[.int .u64 0,.int .u32 0] 171 (0,0))]]).H wg ch,false⟩:St);rw [show(Ap A H [[(ch,.chan 0 #[] false 0 0 false)],[(wg,.cells #[.int .u64 0,.int .u32 0] 171 (0,0))]]).E=A from rfl,a1];have a2:Az A H []:=trivial;refine Ou (F:=F) rfl (aj.mono W) (aE.mono W) (aF.mono W) (Rp.mono _ W aG) (aH.mono W) (aa.mono (aA.trans al)) (ak.mono al) ab aI (fun j _=>rfl) (fun j a3 E' a c a4=>⟨a3,a,c,rfl,a4⟩) (fun aB ao bn=>?_) 13 0 rfl (by decide) A (Le.refl _) a2 T aZ;refine JL.go 9 rfl ?_;refine JL.Y (v:= .func (.func 131) #[] ([.pointer (some F.sA),.pointer (some ⟨rc,0,none⟩)]:List Value).toArray) rfl (fun ρ h=>Yl.FT (by simp) (by simp [h (.tmp 6) _ rfl,h (.tmp 5) _ rfl])) ?_;have aC:=OZ (F:=F) (show 13<2147483648 by omega) (ab.mono ao);refine JL.D1 (fi:= #[]) rfl rfl rfl rfl rfl rfl rfl (by first | exact aC | (simp only [List.append_toArray,List.nil_append,Array.append_empty,Array.empty_append];exact aC)) ?_
 refine JL.go 8 rfl ?_;refine JL.Y (v:= .chan (some ch)) rfl (fun ρ h=>Yl.load (Ao underlying162) (h _ _ rfl) (At.MP (j:=0) (ab.mono ao) rfl)) ?_;refine JL.go 2 rfl ?_;refine JL.Gq ?_;refine JL.wk [(8,.slice none 0 0),(18,.chan (some ch))] rfl ?_;have a5:Az aB H [[]]:=trivial;refine On (F:=F) (Q:=Q) rfl (fun g s h=>h) (qs:=qs) (fun kk v E' h=>h.2) (fun K bo a c g a6 am aD a7 a8 a9=>?_) 13 [] [] aB none 0 [] rfl List.nodup_nil (by simp) (by decide) (Le.refl _) OL.nil a5;have ap:(EO qs).Perm (K.map (partOf qs)):=by
  unfold EO;refine List.Perm.map _ ?_;refine(List.perm_ext_iff_of_nodup (List.nodup_range.filter _) am).2 fun x=>?_;constructor
  ·intro O;simp at O;exact a7 x O.1 (by simpa [F] using O.2)
  ·intro O;have ac:=aD x O;simp;exact⟨ac.1,by simpa [F] using ac.2⟩
 have ba:(EO qs).Pairwise (fun p q=>p.1<q.1):=by
  unfold EO;rw [List.pairwise_map];refine List.Pairwise.filter _ ?_;refine List.Pairwise.imp ?_ List.pairwise_lt_range;intro a b an;exact Int.ofNat_lt.2 an
 have hlen:(K.map (partOf qs)).length≤13:=by
  rw [← ap.length_eq];unfold EO;rw [List.length_map];exact Nat.le_trans (List.length_filter_le _ _) (by simp)
 have bb:KO (K.map (partOf qs)):=by
  intro x O;obtain⟨j,aa,rfl⟩:=List.mem_map.1 O;have ac:=(aD j aa).1;simp only [partOf];omega
 have bc:(K.map (partOf qs)).length=(EO qs).length:=ap.length_eq.symm;refine JL.go 3 rfl ?_;refine JS.Jl (vs:= [.slice a (K.map (partOf qs)).length c,.func (.func 134) #[] #[]]) 0 (Qh hlen bb ap ba a8) rfl rfl rfl (Ay func133 rfl) rfl a9 rfl ?_;rintro _ bp g' bd ⟨rfl,bf⟩ bg;refine JL.go 6 rfl ?_;refine JS.BA 0 bf bg rfl fun bq bh bi bj=>?_;refine JL.ret (v:= .slice a (K.map (partOf qs)).length c) rfl rfl (Bl.list func102 rfl (vs:= [.slice a (K.map (partOf qs)).length c]) ⟨rfl,trivial⟩) ?_;exact aK _ _ _ [] ((((W.trans ao).trans a6).trans bd).trans bh) (by simp) ⟨a,c,by rw [bc],rfl,bi⟩ bj
end Pal
namespace Pal
open Go Go.Conc Go.Proofs
open Go.Proofs.Tryz
open Go.Conc.Lib Go.ConcR.Gen
def H6(fuel:Nat)(A:(List (List Int))×(List (List Int))×(List Nat))(K:List (Int×Int)):Option (List (Int×Int×List (Int×(List Int)×Nat))):=
 if(List.range 13).all (fun j=>(EW fuel A K ((j:Nat):Int)).isSome)=true then some (EO fun j=>(EW fuel A K ((j:Nat):Int)).getD (0,[])) else none
theorem Lb
  {E:LH} {k1 U:Nat} {W Z aa:Option Addr} {ab ac ae:Nat} {ag:List Value} {A:(List (List Int))×(List (List Int))×(List Nat)} {K:List (Int×Int)} (ak:At E k1 U (([.slice W (A.1).length ab,.slice Z (A.2.1).length ac]:List Value)++ag)) (al:Ar (rL rI) E W ab (A.1)) (am:Ar (rL rI) E Z ac (A.2.1)) (an:(rA 13 (rN .u16)).r E ag (A.2.2)) (ao:Ar (rP rI rI) E aa ae K) {fuel:Nat} {r:List (Int×Int×List (Int×(List Int)×Nat))} (O:H6 fuel A K=some r):
  Au (Ce Tryz.prog) 102 [.pointer (some ⟨k1,U,none⟩),.slice aa K.length ae] E [] (fun w E' B'=>∃(ah:Option Addr) (ai:Nat),w= .slice ah r.length ai∧B'= []∧Ar (rP rI (rP rI (rL (rP rI (rP (rL rI) (rN .u16)))))) E' ah ai r):=by
 unfold H6 at O;split at O
 ·rename_i aj;cases O;refine(Pb ak al am an ao (fuel:=fuel) (qs:=fun j=>(EW fuel A K ((j:Nat):Int)).getD (0,[])) fun j ap=>?_).mono ?_
  ·rw [List.all_eq_true] at aj;obtain⟨q,aq⟩:=Option.isSome_iff_exists.1 (aj j (List.mem_range.2 ap));rw [aq];rfl
  ·rintro w E' B' _ ⟨a,c,ar,au,av⟩;exact⟨a,c,ar,au,av⟩
 ·cases O
end Pal
namespace Pal
open Go Go.Conc Go.Proofs
open Go.Proofs.Tryz
def Mw(fuel:Nat)(K:Int×Int×(List (Int×(List Int)×Nat)))(A:Int×(List (Int×(List Int)×Nat))×Int):Option (AU (Int×(List (Int×(List Int)×Nat))×Int) (Int×(List (Int×(List Int)×Nat)))):=
 if A.2.2<((K.2.2).length:Int) then(
  (ix K.2.2 (A.2.2)).bind fun U=>
  (GA fuel A.1 A.2.1 U K.2.1).bind fun O=>
  (Aw (A.2.2+1)).bind fun W=>
  some (.more (O.1,O.2,W))
 ) else(
  some (.done (A.1,A.2.1))
 )
def Mr(fuel:Nat)(K:(List (Int×Int×(List (Int×(List Int)×Nat)))))(A:Int×(List (Int×(List Int)×Nat))×Int):Option (AU (Int×(List (Int×(List Int)×Nat))×Int) (Int×(List (Int×(List Int)×Nat)))):=
 if A.2.2<((K).length:Int) then(
  (ix K (A.2.2)).bind fun U=>
  Option.bind (iter (Mw fuel U) fuel (A.1,A.2.1,0)) fun O=>
  (Aw (A.2.2+1)).bind fun W=>
  some (.more (O.1,O.2,W))
 ) else(
  some (.done (A.1,A.2.1))
 )
def f93(fuel:Nat)(p0:(List (List Int))×(List (List Int))×(List Nat))(p1:List (Int×Int)):Option ((Int×(List (Int×(List Int)×Nat)))):=
 (H6 fuel p0 p1).bind fun A=>
 Option.bind (iter (Mr fuel A) fuel (0,[],0)) fun K=>
 some K
theorem Ic{E:LH}{k1:Nat}{aW:Nat}{aX:Option Addr}{aY:Nat}{aZ:Option Addr}{a0:Nat}{a1:List Value}{a2:Option Addr}{a3:Nat}{p0:(List (List Int))×(List (List Int))×(List Nat)}{p1:List (Int×Int)}(bm:At E k1 aW (([.slice aX (p0.1).length aY,.slice aZ (p0.2.1).length a0]:List Value)++a1))(bn:Ar (rL rI) E aX aY (p0.1))(bo:Ar (rL rI) E aZ a0 (p0.2.1))(bp:(rA 13 (rN .u16)).r E a1 (p0.2.2))(bq:Ar (rP rI rI) E a2 a3 (p1)){fuel:Nat}{r:(Int×(List (Int×(List Int)×Nat)))}(a4:f93 fuel p0 p1=some r):Au (Ce Tryz.prog) 93 [.pointer (some ⟨k1,aW,none⟩),.slice a2 (p1).length a3] E [] (fun w E' B'=>∃(a5:Option Addr) (a6:Nat),w= .agg #[iV r.1,.slice a5 (r.2).length a6]∧B'= []∧Ar (rP rI (rP (rL rI) (rN .u16))) E' a5 a6 (r.2)):=by
 refine Au.en func93 rfl rfl fun Q cA cs H br bu=>?_;unfold f93 at a4;refine JL.go 2 rfl ?_;refine JS.alloc rfl rfl rfl br (AN type97) fun K bv=>?_;refine JL.go 3 rfl ?_;refine JS.alloc rfl rfl rfl bv (AN type97) fun O bw=>?_;obtain⟨W,bx,bz⟩:=bs a4;refine JL.go 6 rfl ?_;refine JS.cl (Lb bm bn bo bp bq bx) rfl rfl (Ay func102 rfl) bw ?_;rintro _ aF _ bA ⟨ag,ah,rfl,rfl,bB⟩ bC;refine JS.norm (S':= [[],[(K,.cells #[iV 0,.slice none 0 0] 97 (0,0))],[(O,.cells #[iV 0,.slice none 0 0] 97 (0,0))],[]]) rfl bC fun bD=>?_;refine JL.Y rfl (fun ρ h=>Yl.len rfl underlying130 (h _ _ rfl)) ?_;obtain⟨U,bE,bF⟩:=bs bz;refine JL.go 2 rfl ?_;refine JL.join (fun L s=>∃(aG:LH) (aa:Option Addr) (ab:Nat) (aH:Seg),Jn aF H aG [[(K,.cells #[iV 0,.slice none 0 0] 97 (0,0))],[(O,.cells #[iV U.1,.slice aa (U.2).length ab] 97 (0,0))],aH] [(4,.pointer (some ⟨K,0,none⟩)),(5,.pointer (some ⟨O,0,none⟩))] L s (OL 104 (rP rI (rP (rL rI) (rN .u16))) aG aa ab aH (U.2))) ?_ ?_
 ·rintro _ _ ⟨aG,aa,ab,aH,rfl,rfl,bG,a7,bH⟩;refine JL.go 2 rfl ?_;refine JL.Y rfl (fun ρ h=>Yl.Bh (vs:= [iV U.1,.slice aa (U.2).length ab]) (Ao underlying97) (Ah type97) (h _ _ rfl) (DM (off:=0) 1 a7 rfl rfl)) ?_;refine JS.st (v:= .agg #[iV U.1,.slice aa (U.2).length ab]) (off:=0) 0 a7 (Ah type97) rfl rfl rfl rfl fun bI=>?_;refine JL.done ?_;refine JS.BA 2 bH bI rfl fun cB bJ bK bL=>?_;refine JS.drop 1 bL rfl fun a8=>?_;obtain rfl:=oi bF;refine JL.ret (v:= .agg #[iV U.1,.slice aa (U.2).length ab]) rfl rfl (Bl.list func93 rfl (vs:= [.agg #[iV U.1,.slice aa (U.2).length ab]]) ⟨⟨_,rfl,Ld.many (vs:= [iV U.1,.slice aa (U.2).length ab]) (Ao underlying97) (Ah type97) (DM (off:=0) 0 a8 rfl rfl)⟩,trivial⟩) ?_;refine FM 0 a8 rfl fun bM=>?_;exact bu _ _ _ _ ((bA.trans bG).trans bJ) rfl ⟨aa,ab,rfl,rfl,bK⟩ bM
 ·intro bN;refine JL.block ?_;refine JL.wk [(4,.pointer (some ⟨K,0,none⟩)),(5,.pointer (some ⟨O,0,none⟩)),(12,.slice ag (W).length ah),(13,iV ((W).length:Int)),(14,iV 0)] rfl ?_;refine JL.Bg bE (fun L s ac=>∃(ai:LH) (aj:Option Addr) (ak:Nat) (al:Seg),Jn aF H ai [[(K,.cells #[iV 0,.slice none 0 0] 97 (0,0))],[(O,.cells #[iV ac.1,.slice aj (ac.2.1).length ak] 97 (0,0))],al] [(4,.pointer (some ⟨K,0,none⟩)),(5,.pointer (some ⟨O,0,none⟩)),(12,.slice ag (W).length ah),(13,iV ((W).length:Int)),(14,iV ac.2.2)] L s (OL 104 (rP rI (rP (rL rI) (rN .u16))) ai aj ak al (ac.2.1))) ⟨aF,none,0,[],rfl,rfl,(Le.refl _),bD,OL.nil⟩ ?_;rintro _ _ ac ⟨ai,aj,ak,al,rfl,rfl,aI,a9,ba⟩ bO ⟨cC,aJ⟩ bP;have aK:=aJ;unfold Mr at aK;refine JL.go 5 rfl ?_;refine JL.ifs (p:=ac.2.2<((W).length:Int)) rfl (fun aL=>?_) (fun aL=>?_)
  ·have bb:=aK;rw [if_pos aL] at bb;obtain⟨A,bQ,bR⟩:=bs bb;refine JL.go 5 rfl ?_;refine JS.BH (bB.mono aI) bQ rfl rfl rfl rfl rfl underlying130 (Ah type133) ?_;rintro bS bT _ ⟨_,_,rfl,rfl,⟨_,_,rfl,rfl,⟨am,an,rfl,bU⟩⟩⟩ aM;replace aM:At ai bS bT [iV A.1,iV A.2.1,.slice am (A.2.2).length an]:=aM;refine JL.Bt aM (Ao underlying133) (Ah type133) rfl rfl ?_;refine JS.alloc rfl rfl rfl a9 (AN type133) fun aN bV=>?_;refine JS.st (v:= .agg #[iV A.1,iV A.2.1,.slice am (A.2.2).length an]) (off:=0) 3 bV (Ah type133) rfl rfl rfl rfl fun bW=>?_;refine JS.Bi 3 bW rfl fun av aO aw bX=>?_;replace aw:At av aN 0 [iV A.1,iV A.2.1,.slice am (A.2.2).length an]:=aw;refine JL.go 3 rfl ?_;refine JL.fd underlying133 (Ah type97) rfl rfl rfl ?_;refine JL.fd underlying97 (Ah type95) rfl rfl rfl ?_;refine JL.ld 2 aw (Ao underlying95) rfl rfl rfl ?_;refine JL.Y rfl (fun ρ h=>Yl.len rfl underlying95 (h _ _ rfl)) ?_;obtain⟨ao,bY,bZ⟩:=bs bR;refine JL.go 2 rfl ?_;refine JL.join (fun L s=>∃(ay:LH) (az:Option Addr) (aA:Nat) (aB:Seg),Jn av H ay [[(K,.cells #[iV 0,.slice none 0 0] 97 (0,0))],[(O,.cells #[iV ao.1,.slice az (ao.2).length aA] 97 (0,0))],aB] [(4,.pointer (some ⟨K,0,none⟩)),(5,.pointer (some ⟨O,0,none⟩)),(12,.slice ag (W).length ah),(13,iV ((W).length:Int)),(14,iV ac.2.2)] L s (OL 104 (rP rI (rP (rL rI) (rN .u16))) ay az aA aB (ao.2))) ?_ ?_
   ·rintro _ _ ⟨ay,az,aA,aB,rfl,rfl,b0,b1,b2⟩;obtain⟨b3,b4,b5⟩:=bs bZ;refine JL.go 2 rfl ?_;refine JL.Y rfl (fun ρ h=>Yl.A1 (h _ _ rfl) (h _ _ rfl) b4) ?_;refine JL.go 2 rfl ?_;obtain rfl:=oi b5;exact JL.kw (bP _ _ (ao.1,ao.2,b3) ⟨ay,az,aA,aB,rfl,rfl,((aI.trans aO).trans b0),b1,b2⟩ aJ) rfl
   ·intro b6;refine JL.block ?_;refine JL.wk [(4,.pointer (some ⟨K,0,none⟩)),(5,.pointer (some ⟨O,0,none⟩)),(7,.pointer (some ⟨aN,0,none⟩)),(12,.slice ag (W).length ah),(13,iV ((W).length:Int)),(14,iV ac.2.2),(20,.slice am (A.2.2).length an),(21,iV ((A.2.2).length:Int)),(22,iV 0)] rfl ?_;refine JL.Bg bY (fun L s ae=>∃(ap:LH) (aq:Option Addr) (ar:Nat) (au:Seg),Jn av H ap [[(K,.cells #[iV 0,.slice none 0 0] 97 (0,0))],[(O,.cells #[iV ae.1,.slice aq (ae.2.1).length ar] 97 (0,0))],au] [(4,.pointer (some ⟨K,0,none⟩)),(5,.pointer (some ⟨O,0,none⟩)),(7,.pointer (some ⟨aN,0,none⟩)),(12,.slice ag (W).length ah),(13,iV ((W).length:Int)),(14,iV ac.2.2),(20,.slice am (A.2.2).length an),(21,iV ((A.2.2).length:Int)),(22,iV ae.2.2)] L s (OL 104 (rP rI (rP (rL rI) (rN .u16))) ap aq ar au (ae.2.1))) ⟨av,aj,ak,al,rfl,rfl,(Le.refl _),bX,(ba.mono aO)⟩ ?_;rintro _ _ ae ⟨ap,aq,ar,au,rfl,rfl,aC,bc,bd⟩ b7 ⟨cD,aP⟩ b8;have aQ:=aP;unfold Mw at aQ;refine JL.go 5 rfl ?_;refine JL.ifs (p:=ae.2.2<((A.2.2).length:Int)) rfl (fun aR=>?_) (fun aR=>?_)
    ·have bf:=aQ;rw [if_pos aR] at bf;obtain⟨Z,b9,ca⟩:=bs bf;refine JL.go 5 rfl ?_;refine JS.BH (bU.mono (aO.trans aC)) b9 rfl rfl rfl rfl rfl underlying95 (Ah type104) ?_;rintro cb cc _ ⟨_,_,rfl,rfl,⟨_,_,rfl,⟨aS,aT,rfl,cd⟩,rfl⟩⟩ aU;replace aU:At ap cb cc [iV Z.1,.slice aS (Z.2.1).length aT,.int .u16 ((Z.2.2:Nat):Int)]:=aU;refine JL.Bt aU (Ao underlying104) (Ah type104) rfl rfl ?_;refine JS.alloc rfl rfl rfl bc (AN type104) fun bg ce=>?_;refine JS.norm (S':= [[(K,.cells #[iV 0,.slice none 0 0] 97 (0,0))],[(O,.cells #[iV ae.1,.slice aq (ae.2.1).length ar] 97 (0,0))],au,[(bg,.cells #[iV 0,.slice none 0 0,.int .u16 ((0:Nat):Int)] 104 (0,0))]]) rfl ce fun cf=>?_;refine JS.st (v:= .agg #[iV Z.1,.slice aS (Z.2.1).length aT,.int .u16 ((Z.2.2:Nat):Int)]) (off:=0) 3 cf (Ah type104) rfl rfl rfl rfl fun cg=>?_;refine JS.Bi 3 cg rfl fun ci aD aV ck=>?_;replace aV:At ci bg 0 [iV Z.1,.slice aS (Z.2.1).length aT,.int .u16 ((Z.2.2:Nat):Int)]:=aV;refine JL.go 2 rfl ?_;refine JL.Bt aV (Ao underlying104) (Ah type104) rfl rfl ?_;refine JL.fd underlying133 (Ah type97) rfl rfl rfl ?_;refine JL.fd underlying97 (Ah type3) rfl rfl rfl ?_;refine JL.ld 1 (aw.mono (aC.trans aD)) (Ao underlying3) rfl rfl rfl ?_;obtain⟨aE,cm,cn⟩:=bs ca;refine JS.merge 1 2 rfl rfl ck fun co=>?_;refine JS.Bw 1 (Q0 (age:=0) (bd.mono aD) (tr:=Z) (cd.mono aD) cm) rfl rfl (Ay func122 rfl) co rfl ?_;rintro _ cp _ cq ⟨bh,bi,bj,rfl,rfl,cr⟩ ct;refine JS.part 1 rfl ct fun cu=>?_;refine JS.norm (S':= [[(K,.cells #[iV 0,.slice none 0 0] 97 (0,0))],[(O,.cells #[iV aE.1,.slice bh (aE.2).length bi] 97 (0,0))],[],[],bj]) rfl cu fun cv=>?_;obtain⟨cw,cy,cz⟩:=bs cn;refine JL.go 3 rfl ?_;refine JL.Y rfl (fun ρ h=>Yl.A1 (h _ _ rfl) (h _ _ rfl) cy) ?_;refine JL.go 2 rfl ?_;obtain rfl:=oi cz;exact JL.kw (b8 _ _ (aE.1,aE.2,cw) ⟨cp,bh,bi,bj,rfl,rfl,((aC.trans aD).trans cq),cv,cr⟩ aP) rfl
    ·have bk:=aQ;rw [if_neg aR] at bk;refine JL.exit rfl ?_;obtain rfl:=oi bk;obtain rfl:=b7 _ aP;exact JL.kw (b6 _ _ ⟨ap,aq,ar,au,rfl,rfl,aC,bc,bd⟩) rfl
  ·have bl:=aK;rw [if_neg aL] at bl;refine JL.exit rfl ?_;obtain rfl:=oi bl;obtain rfl:=bO _ aJ;exact JL.kw (bN _ _ ⟨ai,aj,ak,al,rfl,rfl,aI,a9,ba⟩) rfl
def f78(fuel:Nat)(p0:(List (List Int))×(List (List Int)))(p1:List (Int×Int))(p2:Int)(p3:Bool):Option ((Option ((List (List Int))×(List (List Int))×(List Nat)))×(Int×(List (Int×(List Int)×Nat)))×Int):=
 (f69 fuel p0 p1).bind fun K=>
 if K≠0 then(
  some (none,(0,[]),K)
 ) else(
  (Aw (((p1).length:Int) - 1)).bind fun U=>
  (f101 fuel p2 (-1) U).bind fun W=>
  if W=true then(
   some (none,(0,[]),3)
  ) else(
   (f92 fuel p0).bind fun Z=>
   (Z).bind fun O=>
   (f93 fuel O p1).bind fun A=>
   Option.bind (
    if((A.2).length:Int)=0 then(
     some (!p3)
    ) else(
     some false
    )
   ) fun aa=>
   if aa=true then(
    some (none,A,11)
   ) else(
    some (some O,A,0)
   )
  )
 )
theorem Il{E:LH}{ak:Option Addr}{c2:Nat}{al:Option Addr}{am:Nat}{aD:Option Addr}{aE:Nat}{p0:(List (List Int))×(List (List Int))}{p1:List (Int×Int)}{p2:Int}{p3:Bool}(aF:Ar (rL rI) E ak c2 (p0.1))(aG:Ar (rL rI) E al am (p0.2))(aH:Ar (rP rI rI) E aD aE (p1)){fuel:Nat}{r:(Option ((List (List Int))×(List (List Int))×(List Nat)))×(Int×(List (Int×(List Int)×Nat)))×Int}(aI:f78 fuel p0 p1 p2 p3=some r):Au (Ce Tryz.prog) 78 [.agg #[.slice ak (p0.1).length c2,.slice al (p0.2).length am],.slice aD (p1).length aE,iV p2,.bool p3] E [] (fun w E' B'=>∃(aJ:Value) (aK:Option Addr) (aL:Nat),w= .tuple #[aJ,.agg #[iV r.2.1.1,.slice aK (r.2.1.2).length aL],iV r.2.2]∧B'= []∧GD (rP (rL (rL rI)) (rP (rL (rL rI)) (rA 13 (rN .u16)))) E' aJ (r.1)∧Ar (rP rI (rP (rL rI) (rN .u16))) E' aK aL (r.2.1.2)):=by
 refine Au.en func78 rfl rfl fun Q bQ cs H bi an=>?_;unfold f78 at aI;refine JL.go 2 rfl ?_;refine JS.box (v:= .agg #[.slice ak (p0.1).length c2,.slice al (p0.2).length am]) rfl rfl rfl bi rfl fun bj bk=>?_;refine JS.Bi 1 bk rfl fun bl U ao bm=>?_;replace ao:At bl bj 0 [.slice ak (p0.1).length c2,.slice al (p0.2).length am]:=ao;refine JL.go 1 rfl ?_;refine JS.alloc rfl rfl rfl bm (AN type97) fun ac bn=>?_;refine JL.go 5 rfl ?_;refine JL.Bt ao (Ao underlying24) (Ah type24) rfl rfl ?_;obtain⟨ar,bo,aM⟩:=bs aI;refine JL.go 1 rfl ?_;refine JS.cl (G8 (aF.mono U) (aG.mono U) (aH.mono U) bo) rfl rfl (Ay func69 rfl) bn ?_;rintro _ bR _ Z ⟨rfl,rfl⟩ bp;refine JS.norm (S':= [[],[],[(ac,.cells #[iV 0,.slice none 0 0] 97 (0,0))],[]]) rfl bp fun aN=>?_;refine JL.go 7 rfl ?_;refine JL.ifs (p:=ar≠0) rfl (fun au=>?_) (fun au=>?_)
 ·have aO:=aM;rw [if_pos au] at aO;refine JL.go 2 rfl ?_;refine JL.Y (v:= .agg #[iV 0,.slice none 0 0]) rfl (fun ρ h=>Yl.B4 [(0,1),(1,1)] h (AN type97) underlying97 ⟨rfl,Ah type3,rfl,Ah type95,trivial⟩ rfl rfl) ?_;refine JL.go 2 rfl ?_;refine JS.st (v:= .agg #[iV 0,.slice none 0 0]) (off:=0) 2 aN (Ah type97) rfl rfl rfl rfl fun aP=>?_;refine JL.go 2 rfl ?_;obtain rfl:=oi aO;refine JL.ret (v:= .tuple #[.pointer none,.agg #[iV 0,.slice none 0 0],iV ar]) rfl rfl (Bl.list func78 rfl (vs:= [.pointer none,.agg #[iV 0,.slice none 0 0],iV ar]) ⟨rfl,⟨_,rfl,Ld.many (vs:= [iV 0,.slice none 0 0]) (Ao underlying97) (Ah type97) (DM (off:=0) 2 aP rfl rfl)⟩,rfl,trivial⟩) ?_;refine FM 2 aP rfl fun bq=>?_;exact an _ _ _ _ (U.trans Z) rfl ⟨.pointer none,none,0,rfl,rfl,rfl,Ar.nil⟩ bq
 ·have aQ:=aM;rw [if_neg au] at aQ;refine JL.go 6 rfl ?_;refine JL.Y rfl (fun ρ h=>Yl.len rfl underlying25 (h _ _ rfl)) ?_;obtain⟨bS,br,bu⟩:=bs aQ;refine JL.Y rfl (fun ρ h=>Yl.A4 (h _ _ rfl) (h _ _ rfl) br) ?_;obtain⟨bv,bw,aR⟩:=bs bu;refine JS.cl (FQ bw) rfl rfl (Ay func101 rfl) aN ?_;rintro _ bT _ ab ⟨rfl,rfl⟩ aS;refine JL.done ?_;refine JL.split (t:=bv) rfl (fun av=>?_) (fun av=>?_)
  ·have aT:=aR;rw [if_pos av] at aT;refine JL.go 2 rfl ?_;refine JL.Y (v:= .agg #[iV 0,.slice none 0 0]) rfl (fun ρ h=>Yl.B4 [(0,1),(1,1)] h (AN type97) underlying97 ⟨rfl,Ah type3,rfl,Ah type95,trivial⟩ rfl rfl) ?_;refine JL.go 1 rfl ?_;refine JS.st (v:= .agg #[iV 0,.slice none 0 0]) (off:=0) 2 aS (Ah type97) rfl rfl rfl rfl fun aU=>?_;refine JL.go 2 rfl ?_;obtain rfl:=oi aT;refine JL.ret (v:= .tuple #[.pointer none,.agg #[iV 0,.slice none 0 0],iV 3]) rfl rfl (Bl.list func78 rfl (vs:= [.pointer none,.agg #[iV 0,.slice none 0 0],iV 3]) ⟨rfl,⟨_,rfl,Ld.many (vs:= [iV 0,.slice none 0 0]) (Ao underlying97) (Ah type97) (DM (off:=0) 2 aU rfl rfl)⟩,rfl,trivial⟩) ?_;refine FM 2 aU rfl fun bx=>?_;exact an _ _ _ _ ((U.trans Z).trans ab) rfl ⟨.pointer none,none,0,rfl,rfl,rfl,Ar.nil⟩ bx
  ·have aV:=aR;rw [if_neg (by rw [av];exact Bool.false_ne_true)] at aV;refine JL.go 3 rfl ?_;refine JL.Bt (ao.mono (Z.trans ab)) (Ao underlying24) (Ah type24) rfl rfl ?_;obtain⟨bU,bz,bA⟩:=bs aV;refine JS.cl (H7 (aF.mono ((U.trans Z).trans ab)) (aG.mono ((U.trans Z).trans ab)) bz) rfl rfl (Ay func92 rfl) aS ?_;rintro bV bB _ aw ⟨_,rfl,rfl,bC⟩ bD;obtain⟨ag,bE,bF⟩:=bs bA;have aW:=bC;refine JL.go 6 rfl ?_;rw [bE] at aW;obtain⟨ah,ai,_,rfl,ap,⟨_,_,rfl,⟨aX,aY,rfl,aZ⟩,⟨_,ay,rfl,⟨az,aA,rfl,a0⟩,a1⟩⟩⟩:=aW;replace ap:At bB ah ai (([.slice aX (ag.1).length aY,.slice az (ag.2.1).length aA]:List Value)++ay):=ap;obtain⟨A,bG,bH⟩:=bs bF;refine JS.cl (Ic ap aZ a0 a1 (aH.mono (((U.trans Z).trans ab).trans aw)) bG) rfl rfl (Ay func93 rfl) bD ?_;rintro _ bW _ ae ⟨K,O,rfl,rfl,a2⟩ bI;refine JS.norm (S':= [[],[],[(ac,.cells #[iV 0,.slice none 0 0] 97 (0,0))],[],[],[],[]]) rfl bI fun bJ=>?_;refine JS.alloc rfl rfl rfl bJ (AN type97) fun a3 bK=>?_;refine JS.st (v:= .agg #[iV A.1,.slice K (A.2).length O]) (off:=0) 7 bK (Ah type97) rfl rfl rfl rfl fun bL=>?_;refine JS.Bi 7 bL rfl fun aq aa aj a4=>?_;replace aj:At aq a3 0 [iV A.1,.slice K (A.2).length O]:=aj;refine JL.go 4 rfl ?_;refine JL.fd underlying97 (Ah type95) rfl rfl rfl ?_;refine JL.ld 1 aj (Ao underlying95) rfl rfl rfl ?_;refine JL.Y rfl (fun ρ h=>Yl.len rfl underlying95 (h _ _ rfl)) ?_;obtain⟨a5,a6,a7⟩:=bs bH;refine JL.go 2 rfl ?_;refine JL.By [] (fun L s=>∃(a8:LH),Jm aq H a8 [[(ac,.cells #[iV 0,.slice none 0 0] 97 (0,0))]] [(9,.pointer (some ⟨ac,0,none⟩)),(12,.pointer (some ⟨ah,ai,none⟩)),(13,.pointer (some ⟨a3,0,none⟩)),(39,.bool a5)] L s) ?_ ?_
   ·rintro _ _ ⟨a8,rfl,rfl,W,a9⟩;refine JL.done ?_;refine JL.split (t:=a5) rfl (fun aB=>?_) (fun aB=>?_)
    ·have ba:=a7;rw [if_pos aB] at ba;refine JL.seq ?_;refine JG.CQ 2 mixed rfl (by decide+kernel) fun ht=>?_;refine JG.Bt 0 ht (aj.mono W) (Ao underlying97) (Ah type97) rfl rfl rfl ?_;refine JG.mv 1 ht rfl rfl ?_;refine Av.leaf (tail:= [2,3]) (by decide+kernel) (fun t=>A3 (by decide+kernel) (A3 (by decide+kernel) BE) t) ?_;refine JS.st (v:= .agg #[iV A.1,.slice K (A.2).length O]) (off:=0) 0 a9 (Ah type97) rfl rfl rfl rfl fun bM=>?_;refine JS.norm (S':= [[(ac,.cells #[iV A.1,.slice K (A.2).length O] 97 (0,0))]]) rfl bM fun bb=>?_;refine JL.go 2 rfl ?_;obtain rfl:=oi ba;refine JL.ret (v:= .tuple #[.pointer none,.agg #[iV A.1,.slice K (A.2).length O],iV 11]) rfl rfl (Bl.list func78 rfl (vs:= [.pointer none,.agg #[iV A.1,.slice K (A.2).length O],iV 11]) ⟨rfl,⟨_,rfl,Ld.many (vs:= [iV A.1,.slice K (A.2).length O]) (Ao underlying97) (Ah type97) (DM (off:=0) 0 bb rfl rfl)⟩,rfl,trivial⟩) ?_;refine FM 0 bb rfl fun bN=>?_;exact an _ _ _ _ ((((((U.trans Z).trans ab).trans aw).trans ae).trans aa).trans W) rfl ⟨.pointer none,K,O,rfl,rfl,rfl,(a2.mono (aa.trans W))⟩ bN
    ·have bc:=a7;rw [if_neg (by rw [aB];exact Bool.false_ne_true)] at bc;refine JL.go 2 rfl ?_;refine JG.CQ 3 mixed rfl (by decide+kernel) fun ht=>?_;refine JG.mv 0 ht rfl rfl ?_;refine JG.Bt 1 ht (aj.mono W) (Ao underlying97) (Ah type97) rfl rfl rfl ?_;refine JG.mv 2 ht rfl rfl ?_;refine Av.leaf (tail:= [3,4]) (by decide+kernel) (fun t=>A3 (by decide+kernel) (A3 (by decide+kernel) BE) t) ?_;refine JS.st (v:= .agg #[iV A.1,.slice K (A.2).length O]) (off:=0) 0 a9 (Ah type97) rfl rfl rfl rfl fun bO=>?_;refine JS.norm (S':= [[(ac,.cells #[iV A.1,.slice K (A.2).length O] 97 (0,0))]]) rfl bO fun bd=>?_;refine JL.go 2 rfl ?_;obtain rfl:=oi bc;refine JL.ret (v:= .tuple #[.pointer (some ⟨ah,ai,none⟩),.agg #[iV A.1,.slice K (A.2).length O],iV 0]) rfl rfl (Bl.list func78 rfl (vs:= [.pointer (some ⟨ah,ai,none⟩),.agg #[iV A.1,.slice K (A.2).length O],iV 0]) ⟨rfl,⟨_,rfl,Ld.many (vs:= [iV A.1,.slice K (A.2).length O]) (Ao underlying97) (Ah type97) (DM (off:=0) 0 bd rfl rfl)⟩,rfl,trivial⟩) ?_;refine FM 0 bd rfl fun bP=>?_;exact an _ _ _ _ ((((((U.trans Z).trans ab).trans aw).trans ae).trans aa).trans W) rfl ⟨.pointer (some ⟨ah,ai,none⟩),K,O,rfl,rfl,⟨_,_,_,rfl,(ap.mono ((ae.trans aa).trans W)),⟨[.slice aX (ag.1).length aY],(([.slice az (ag.2.1).length aA]:List Value)++ay),rfl,⟨_,_,rfl,(aZ.mono ((ae.trans aa).trans W))⟩,⟨[.slice az (ag.2.1).length aA],ay,rfl,⟨_,_,rfl,(a0.mono ((ae.trans aa).trans W))⟩,(Rp.mono _ ((ae.trans aa).trans W) a1)⟩⟩⟩,(a2.mono (aa.trans W))⟩ bP
   ·intro bf;refine JL.BP (q:=((A.2).length:Int)=0) (i:=36) rfl (fun aC=>?_) (fun aC=>?_)
    ·have bg:=a6;rw [if_pos aC] at bg;refine JL.go 1 rfl ?_;refine JL.Y (v:= .bool (!p3)) rfl (fun ρ h=>Yl.not (h _ _ rfl)) ?_;refine JL.go 1 rfl ?_;obtain rfl:=oi bg;exact JL.kw (bf _ _ ⟨aq,rfl,rfl,(Le.refl _),a4⟩) rfl
    ·have bh:=a6;rw [if_neg aC] at bh;refine JL.go 3 rfl ?_;obtain rfl:=oi bh;exact JL.kw (bf _ _ ⟨aq,rfl,rfl,(Le.refl _),a4⟩) rfl
def f28(fuel:Nat)(p0:(List (List Int))×(List (List Int)))(p1:List (Int×Int)):Option (Int×Int):=
 (f78 fuel p0 p1 (-1) true).bind fun A=>
 some (((A.2.1.2).length:Int),A.2.2)
theorem RE{E:LH}{A:Option Addr}{c2:Nat}{K:Option Addr}{O:Nat}{ab:Option Addr}{ac:Nat}{p0:(List (List Int))×(List (List Int))}{p1:List (Int×Int)}(aj:Ar (rL rI) E A c2 (p0.1))(ak:Ar (rL rI) E K O (p0.2))(al:Ar (rP rI rI) E ab ac (p1)){fuel:Nat}{r:Int×Int}(ae:f28 fuel p0 p1=some r):Au (Ce Tryz.prog) 28 [.agg #[.slice A (p0.1).length c2,.slice K (p0.2).length O],.slice ab (p1).length ac] E [] (fun w E' B'=>w= .tuple #[iV r.1,iV r.2]∧B'= []):=by
 refine Au.en func28 rfl rfl fun Q aF cs H am an=>?_;unfold f28 at ae;refine JL.go 2 rfl ?_;refine JS.box (v:= .agg #[.slice A (p0.1).length c2,.slice K (p0.2).length O]) rfl rfl rfl am rfl fun ao ap=>?_;refine JS.Bi 1 ap rfl fun aq U Z ar=>?_;replace Z:At aq ao 0 [.slice A (p0.1).length c2,.slice K (p0.2).length O]:=Z;refine JL.go 5 rfl ?_;refine JL.Bt Z (Ao underlying24) (Ah type24) rfl rfl ?_;obtain⟨W,au,av⟩:=bs ae;refine JL.go 1 rfl ?_;refine JS.cl (Il (aj.mono U) (ak.mono U) (al.mono U) au) rfl rfl (Ay func78 rfl) ar ?_;rintro _ aG _ aw ⟨aH,ag,ah,rfl,rfl,aI,aJ⟩ ay;refine JL.go 4 rfl ?_;refine JS.alloc rfl rfl rfl ay (AN type97) fun ai az=>?_;refine JS.norm (S':= [[],[],[],[(ai,.cells #[iV 0,.slice none 0 0] 97 (0,0))]]) rfl az fun aA=>?_;refine JL.go 1 rfl ?_;refine JS.st (v:= .agg #[iV W.2.1.1,.slice ag (W.2.1.2).length ah]) (off:=0) 3 aA (Ah type97) rfl rfl rfl rfl fun aB=>?_;refine JS.Bi 3 aB rfl fun aC aD aa aE=>?_;replace aa:At aC ai 0 [iV W.2.1.1,.slice ag (W.2.1.2).length ah]:=aa;refine JL.go 4 rfl ?_;refine JL.fd underlying97 (Ah type95) rfl rfl rfl ?_;refine JL.ld 1 aa (Ao underlying95) rfl rfl rfl ?_;refine JL.Y rfl (fun ρ h=>Yl.len rfl underlying95 (h _ _ rfl)) ?_;refine JL.go 4 rfl ?_;obtain rfl:=oi av;refine JL.rt func28 rfl rfl ?_;exact an _ _ _ _ ((U.trans aw).trans aD) rfl ⟨rfl,rfl⟩ aE
def f30(fuel:Nat)(p0:(List (List Int))×(List (List Int)))(p1:List (Int×Int)):Option (Int×(List Int)×Int):=
 (f78 fuel p0 p1 (-1) false).bind fun A=>
 if A.2.2≠0 then(
  some (0,[],A.2.2)
 ) else(
  (ix A.2.1.2 (0)).bind fun K=>
  (ix A.2.1.2 (0)).bind fun O=>
  some (K.1,O.2.1,0)
 )
theorem Rx{E:LH}{O:Option Addr}{c2:Nat}{U:Option Addr}{W:Nat}{ak:Option Addr}{al:Nat}{p0:(List (List Int))×(List (List Int))}{p1:List (Int×Int)}(aE:Ar (rL rI) E O c2 (p0.1))(aF:Ar (rL rI) E U W (p0.2))(aG:Ar (rP rI rI) E ak al (p1)){fuel:Nat}{r:Int×(List Int)×Int}(am:f30 fuel p0 p1=some r):Au (Ce Tryz.prog) 30 [.agg #[.slice O (p0.1).length c2,.slice U (p0.2).length W],.slice ak (p1).length al] E [] (fun w E' B'=>∃(an:Option Addr) (ao:Nat),w= .tuple #[iV r.1,.slice an (r.2.1).length ao,iV r.2.2]∧B'= []∧Ar rI E' an ao (r.2.1)):=by
 refine Au.en func30 rfl rfl fun Q a2 cs H aH ap=>?_;unfold f30 at am;refine JL.go 2 rfl ?_;refine JS.box (v:= .agg #[.slice O (p0.1).length c2,.slice U (p0.2).length W]) rfl rfl rfl aH rfl fun aI aJ=>?_;refine JS.Bi 1 aJ rfl fun aK A ab aL=>?_;replace ab:At aK aI 0 [.slice O (p0.1).length c2,.slice U (p0.2).length W]:=ab;refine JL.go 6 rfl ?_;refine JL.Bt ab (Ao underlying24) (Ah type24) rfl rfl ?_;obtain⟨K,aM,aq⟩:=bs am;refine JL.go 1 rfl ?_;refine JS.cl (Il (aE.mono A) (aF.mono A) (aG.mono A) aM) rfl rfl (Ay func78 rfl) aL ?_;rintro _ a3 _ ar ⟨a4,au,av,rfl,rfl,a5,aw⟩ aN;refine JL.go 4 rfl ?_;refine JS.alloc rfl rfl rfl aN (AN type97) fun ay aO=>?_;refine JS.norm (S':= [[],[],[],[(ay,.cells #[iV 0,.slice none 0 0] 97 (0,0))]]) rfl aO fun aP=>?_;refine JL.go 1 rfl ?_;refine JS.st (v:= .agg #[iV K.2.1.1,.slice au (K.2.1.2).length av]) (off:=0) 3 aP (Ah type97) rfl rfl rfl rfl fun aQ=>?_;refine JS.Bi 3 aQ rfl fun ac Z aa az=>?_;replace aa:At ac ay 0 [iV K.2.1.1,.slice au (K.2.1.2).length av]:=aa;refine JL.go 8 rfl ?_;refine JL.ifs (p:=K.2.2≠0) rfl (fun ae=>?_) (fun ae=>?_)
 ·have aA:=aq;rw [if_pos ae] at aA;refine JL.go 7 rfl ?_;obtain rfl:=oi aA;refine JL.rt func30 rfl rfl ?_;exact ap _ _ _ _ ((A.trans ar).trans Z) rfl ⟨none,0,rfl,rfl,Ar.nil⟩ az
 ·have aB:=aq;rw [if_neg ae] at aB;refine JL.go 2 rfl ?_;refine JG.CQ 11 mixed rfl (by decide+kernel) fun ht=>?_;refine JG.fd 0 ht underlying97 (Ah type95) rfl rfl rfl rfl ?_;refine JG.ld 1 ht 1 aa (Ao underlying95) rfl rfl rfl rfl ?_;obtain⟨ag,aR,aS⟩:=bs aB;refine JG.idx 2 (aw.mono Z) aR rfl ht (by decide+kernel) rfl rfl rfl rfl rfl underlying95 (Ah type104) ?_;rintro aT aU _ ⟨_,_,rfl,rfl,⟨_,_,rfl,⟨aV,aW,rfl,a6⟩,rfl⟩⟩ ah;replace ah:At ac aT aU [iV ag.1,.slice aV (ag.2.1).length aW,.int .u16 ((ag.2.2:Nat):Int)]:=ah;refine JG.fd 3 ht underlying104 (Ah type3) rfl rfl rfl rfl ?_;refine JG.ld 4 ht 0 ah (Ao underlying3) rfl rfl rfl rfl ?_;refine JG.fd 5 ht underlying97 (Ah type95) rfl rfl rfl rfl ?_;refine JG.ld 6 ht 1 aa (Ao underlying95) rfl rfl rfl rfl ?_;obtain⟨ai,aX,aY⟩:=bs aS;refine JG.idx 7 (aw.mono Z) aX rfl ht (by decide+kernel) rfl rfl rfl rfl rfl underlying95 (Ah type104) ?_;rintro aZ a0 _ ⟨_,_,rfl,rfl,⟨_,_,rfl,⟨aC,aD,rfl,a1⟩,rfl⟩⟩ aj;replace aj:At ac aZ a0 [iV ai.1,.slice aC (ai.2.1).length aD,.int .u16 ((ai.2.2:Nat):Int)]:=aj;refine JG.fd 8 ht underlying104 (Ah type28) rfl rfl rfl rfl ?_;refine JG.ld 9 ht 1 aj (Ao underlying28) rfl rfl rfl rfl ?_;refine JG.mv 10 ht rfl rfl ?_;refine Av.leaf (tail:= [11,12]) (by decide+kernel) (fun t=>A3 (by decide+kernel) (A3 (by decide+kernel) BE) t) ?_;refine JL.go 3 rfl ?_;obtain rfl:=oi aY;refine JL.rt func30 rfl rfl ?_;exact ap _ _ _ _ ((A.trans ar).trans Z) rfl ⟨aC,aD,rfl,rfl,a1⟩ az
def Mp(fuel:Nat)(p2:Int)(K:(List (Int×Int×(List (Int×(List Int)×Nat)))))(A:(List Int)×Int):Option (AU ((List Int)×Int) ((List Int))):=
 if A.2<((K).length:Int) then(
  (ix K (A.2)).bind fun O=>
  Option.bind (
   if O.2.1≤p2 then(
    (room A.1 O.1).bind fun U=>
    some U
   ) else(
    some A.1
   )
  ) fun W=>
  (Aw (A.2+1)).bind fun Z=>
  some (.more (W,Z))
 ) else(
  some (.done A.1)
 )
def f43(fuel:Nat)(p0:(List (List Int))×(List (List Int)))(p1:List (Int×Int))(p2:Int):Option ((List Int)×Int):=
 (f69 fuel p0 p1).bind fun A=>
 if A≠0 then(
  some ([],A)
 ) else(
  (f101 fuel p2 0 4).bind fun O=>
  if O=true then(
   some ([],1)
  ) else(
   (f92 fuel p0).bind fun U=>
   (U).bind fun W=>
   (H6 fuel W p1).bind fun Z=>
   Option.bind (iter (Mp fuel p2 Z) fuel ([],0)) fun K=>
   if((K).length:Int)=0 then(
    some ([],11)
   ) else(
    some (K,0)
   )
  )
 )
theorem Ru{E:LH}{ag:Option Addr}{c2:Nat}{ah:Option Addr}{ai:Nat}{aS:Option Addr}{aT:Nat}{p0:(List (List Int))×(List (List Int))}{p1:List (Int×Int)}{p2:Int}(aU:Ar (rL rI) E ag c2 (p0.1))(aV:Ar (rL rI) E ah ai (p0.2))(aW:Ar (rP rI rI) E aS aT (p1)){fuel:Nat}{r:(List Int)×Int}(aX:f43 fuel p0 p1 p2=some r):Au (Ce Tryz.prog) 43 [.agg #[.slice ag (p0.1).length c2,.slice ah (p0.2).length ai],.slice aS (p1).length aT,iV p2] E [] (fun w E' B'=>∃(aY:Option Addr) (aZ:Nat),w= .tuple #[.slice aY (r.1).length aZ,iV r.2]∧B'= []∧Ar rI E' aY aZ (r.1)):=by
 refine Au.en func43 rfl rfl fun Q cy cs H bq aj=>?_;unfold f43 at aX;refine JL.go 2 rfl ?_;refine JS.box (v:= .agg #[.slice ag (p0.1).length c2,.slice ah (p0.2).length ai]) rfl rfl rfl bq rfl fun br bu=>?_;refine JS.Bi 1 bu rfl fun bv K ak bw=>?_;replace ak:At bv br 0 [.slice ag (p0.1).length c2,.slice ah (p0.2).length ai]:=ak;refine JL.go 6 rfl ?_;refine JL.Bt ak (Ao underlying24) (Ah type24) rfl rfl ?_;obtain⟨bx,bz,a0⟩:=bs aX;refine JL.go 1 rfl ?_;refine JS.cl (G8 (aU.mono K) (aV.mono K) (aW.mono K) bz) rfl rfl (Ay func69 rfl) bw ?_;rintro _ cz _ O ⟨rfl,rfl⟩ a1;refine JL.go 7 rfl ?_;refine JL.ifs (p:=bx≠0) rfl (fun av=>?_) (fun av=>?_)
 ·have a2:=a0;rw [if_pos av] at a2;refine JL.go 6 rfl ?_;obtain rfl:=oi a2;refine JL.rt func43 rfl rfl ?_;exact aj _ _ _ _ (K.trans O) rfl ⟨none,0,rfl,rfl,Ar.nil⟩ a1
 ·have a3:=a0;rw [if_neg av] at a3;obtain⟨bA,bB,a4⟩:=bs a3;refine JL.go 5 rfl ?_;refine JS.cl (FQ bB) rfl rfl (Ay func101 rfl) a1 ?_;rintro _ cA _ U ⟨rfl,rfl⟩ bC;refine JS.norm (S':= [[],[],[],[]]) rfl bC fun a5=>?_;refine JL.done ?_;refine JL.split (t:=bA) rfl (fun aw=>?_) (fun aw=>?_)
  ·have a6:=a4;rw [if_pos aw] at a6;refine JL.go 5 rfl ?_;obtain rfl:=oi a6;refine JL.rt func43 rfl rfl ?_;exact aj _ _ _ _ ((K.trans O).trans U) rfl ⟨none,0,rfl,rfl,Ar.nil⟩ a5
  ·have a7:=a4;rw [if_neg (by rw [aw];exact Bool.false_ne_true)] at a7;refine JL.go 8 rfl ?_;refine JL.Bt (ak.mono (O.trans U)) (Ao underlying24) (Ah type24) rfl rfl ?_;obtain⟨cB,bD,bE⟩:=bs a7;refine JS.cl (H7 (aU.mono ((K.trans O).trans U)) (aV.mono ((K.trans O).trans U)) bD) rfl rfl (Ay func92 rfl) a5 ?_;rintro cC bF _ ay ⟨_,rfl,rfl,bG⟩ bH;obtain⟨a8,bI,bJ⟩:=bs bE;have a9:=bG;refine JL.go 1 rfl ?_;rw [bI] at a9;obtain⟨bK,bL,_,rfl,az,⟨_,_,rfl,⟨bM,bN,rfl,bO⟩,⟨_,bP,rfl,⟨bQ,bR,rfl,bS⟩,bT⟩⟩⟩:=a9;replace az:At bF bK bL (([.slice bM (a8.1).length bN,.slice bQ (a8.2.1).length bR]:List Value)++bP):=az;obtain⟨W,bU,bV⟩:=bs bJ;refine JS.cl (Lb az bO bS bT (aW.mono (((K.trans O).trans U).trans ay)) bU) rfl rfl (Ay func102 rfl) bH ?_;rintro _ aA _ ba ⟨aB,aC,rfl,rfl,bW⟩ bX;refine JL.Y rfl (fun ρ h=>Yl.len rfl underlying130 (h _ _ rfl)) ?_;obtain⟨aD,bY,bb⟩:=bs bV;refine JL.go 2 rfl ?_;refine JL.join (fun L s=>∃(aE:LH) (al:Option Addr) (am:Nat) (aF:Seg),Jn aA H aE [aF] [(9,.slice al (aD).length am)] L s (OL 3 rI aE al am aF (aD))) ?_ ?_
   ·rintro _ _ ⟨aE,al,am,aF,rfl,rfl,bc,bd,bZ⟩;refine JL.go 4 rfl ?_;refine JL.Y rfl (fun ρ h=>Yl.len rfl underlying28 (h _ _ rfl)) ?_;refine JL.go 2 rfl ?_;refine JL.ifs (p:=((aD).length:Int)=0) rfl (fun aG=>?_) (fun aG=>?_)
    ·have bf:=bb;rw [if_pos aG] at bf;refine JL.go 5 rfl ?_;refine JS.drop 0 bd rfl fun b0=>?_;obtain rfl:=oi bf;refine JL.rt func43 rfl rfl ?_;exact aj _ _ _ _ (((((K.trans O).trans U).trans ay).trans ba).trans bc) rfl ⟨none,0,rfl,rfl,Ar.nil⟩ b0
    ·have bg:=bb;rw [if_neg aG] at bg;refine JL.go 7 rfl ?_;refine JS.BA 0 bZ bd rfl fun cD b1 b2 b3=>?_;refine JS.norm (S':= [[]]) rfl b3 fun b4=>?_;obtain rfl:=oi bg;refine JL.rt func43 rfl rfl ?_;exact aj _ _ _ _ ((((((K.trans O).trans U).trans ay).trans ba).trans bc).trans b1) rfl ⟨al,am,rfl,rfl,b2⟩ b4
   ·intro b5;refine JL.block ?_;refine JL.wk [(2,iV p2),(9,.slice none 0 0),(23,.slice aB (W).length aC),(24,iV ((W).length:Int)),(25,iV 0)] rfl ?_;refine JL.Bg bY (fun L s Z=>∃(ae:LH) (aa:Option Addr) (ab:Nat) (ac:Seg),Jn aA H ae [ac] [(2,iV p2),(9,.slice aa (Z.1).length ab),(23,.slice aB (W).length aC),(24,iV ((W).length:Int)),(25,iV Z.2)] L s (OL 3 rI ae aa ab ac (Z.1))) ⟨aA,none,0,[],rfl,rfl,(Le.refl _),bX,OL.nil⟩ ?_;rintro _ _ Z ⟨ae,aa,ab,ac,rfl,rfl,aH,bh,aI⟩ b6 ⟨cE,aJ⟩ b7;have aK:=aJ;unfold Mp at aK;refine JL.go 5 rfl ?_;refine JL.ifs (p:=Z.2<((W).length:Int)) rfl (fun aL=>?_) (fun aL=>?_)
    ·have bi:=aK;rw [if_pos aL] at bi;obtain⟨A,b8,b9⟩:=bs bi;refine JL.go 5 rfl ?_;refine JS.BH (bW.mono aH) b8 rfl rfl rfl rfl rfl underlying130 (Ah type133) ?_;rintro ca cb _ ⟨_,_,rfl,rfl,⟨_,_,rfl,rfl,⟨aM,aN,rfl,cF⟩⟩⟩ aO;replace aO:At ae ca cb [iV A.1,iV A.2.1,.slice aM (A.2.2).length aN]:=aO;refine JL.Bt aO (Ao underlying133) (Ah type133) rfl rfl ?_;refine JS.alloc rfl rfl rfl bh (AN type133) fun bj cc=>?_;refine JS.norm (S':= [ac,[(bj,.cells #[iV 0,iV 0,.slice none 0 0] 133 (0,0))]]) rfl cc fun cd=>?_;refine JS.st (v:= .agg #[iV A.1,iV A.2.1,.slice aM (A.2.2).length aN]) (off:=0) 1 cd (Ah type133) rfl rfl rfl rfl fun ce=>?_;refine JS.Bi 1 ce rfl fun an aP ao bk=>?_;replace ao:At an bj 0 [iV A.1,iV A.2.1,.slice aM (A.2.2).length aN]:=ao;refine JL.go 3 rfl ?_;refine JL.fd underlying133 (Ah type97) rfl rfl rfl ?_;refine JL.fd underlying97 (Ah type3) rfl rfl rfl ?_;refine JL.ld 1 ao (Ao underlying3) rfl rfl rfl ?_;obtain⟨aQ,bl,cf⟩:=bs b9;refine JL.go 3 rfl ?_;refine JL.join (fun L s=>∃(ap:LH) (aq:Option Addr) (ar:Nat) (au:Seg),Jn an H ap [au] [(2,iV p2),(9,.slice aq (aQ).length ar),(23,.slice aB (W).length aC),(24,iV ((W).length:Int)),(25,iV Z.2)] L s (OL 3 rI ap aq ar au (aQ))) ?_ ?_
     ·rintro _ _ ⟨ap,aq,ar,au,rfl,rfl,cg,ci,ck⟩;obtain⟨cm,cn,co⟩:=bs cf;refine JL.go 2 rfl ?_;refine JL.Y rfl (fun ρ h=>Yl.A1 (h _ _ rfl) (h _ _ rfl) cn) ?_;refine JL.go 2 rfl ?_;obtain rfl:=oi co;exact JL.kw (b7 _ _ (aQ,cm) ⟨ap,aq,ar,au,rfl,rfl,((aH.trans aP).trans cg),ci,ck⟩ aJ) rfl
     ·intro bm;refine JL.ifs (p:=A.2.1≤p2) rfl (fun aR=>?_) (fun aR=>?_)
      ·have bn:=bl;rw [if_pos aR] at bn;refine JL.go 2 rfl ?_;refine JL.fd underlying133 (Ah type3) rfl rfl rfl ?_;refine JL.ld 0 ao (Ao underlying3) rfl rfl rfl ?_;obtain⟨cG,cp,cq⟩:=bs bn;refine JS.app (pp:=rI) (v:=iV A.1) (a:=aa) (c:=ab) 0 cp rfl rfl rfl rfl (fun _=>rfl) rfl (fun _=>rfl) rfl rfl rfl underlying28 underlying28 underlying28 (Ah type3) (Cp type3) (AN type3) rfl (by decide) (by decide) (by decide) (by decide) (aI.mono aP) rfl bk rfl fun cH cr ct cu cv cw=>?_;refine JL.go 2 rfl ?_;obtain rfl:=oi cq;exact JL.kw (bm _ _ ⟨an,cr,ct,cu,rfl,rfl,(Le.refl _),cw,cv⟩) rfl
      ·have bo:=bl;rw [if_neg aR] at bo;refine JL.skip ?_;obtain rfl:=oi bo;exact JL.kw (bm _ _ ⟨an,aa,ab,ac,rfl,rfl,(Le.refl _),bk,(aI.mono aP)⟩) rfl
    ·have bp:=aK;rw [if_neg aL] at bp;refine JL.exit rfl ?_;obtain rfl:=oi bp;obtain rfl:=b6 _ aJ;exact JL.kw (b5 _ _ ⟨ae,aa,ab,ac,rfl,rfl,aH,bh,aI⟩) rfl
end Pal
namespace Pal
open Go Go.Conc Go.Proofs
open Go.Proofs.Tryz
variable {J:Judge Tryz.prog}{E:LH}
def Ig(fuel:Nat)(p0:List (Int×Int)):Option ((List (Int×Int))):=
 (CY ([]:List (Int×Int)) p0).bind fun A=>
 some A
theorem Pe{ad:Addr}{c2:Nat}{p0:List (Int×Int)}(U:Ar (rP rI rI) E (some ad) c2 p0){fuel:Nat}{r:(List (Int×Int))}(A:Ig fuel p0=some r):Au J 123 [.slice (some ad) (p0).length c2] E [] (fun w E' B'=>∃(K:Option Addr) (O:Nat) (g0:Seg),w= .slice K (r).length O∧B'=g0∧OL 27 (rP rI rI) E' K O g0 (r)):=by
 refine Au.en func123 rfl rfl fun Q al cs H W Z=>?_;unfold Ig at A;refine JL.go 8 rfl ?_;refine JL.Y (v:= .bool false) rfl (fun ρ h=>Yl.H4 (a:=(some ad)) underlying25 (h _ _ rfl) (h _ _ rfl)) ?_;refine JL.go 5 rfl ?_;refine JS.Hk (pp:=(rP rI rI)) rfl rfl rfl underlying25 (Ah type27) W fun am an aa ab=>?_;obtain⟨ao,ac,ae⟩:=bs A;refine JL.go 1 rfl ?_;refine JS.M4 (pp:=(rP rI rI)) 1 ac rfl rfl rfl rfl rfl rfl rfl underlying25 underlying25 (Ah type27) (Cp type27) (AN type27) rfl (by decide) (by decide) aa U ab rfl fun ag ah ai aj ak=>?_;refine JL.go 2 rfl ?_;obtain rfl:=oi ae;refine JL.rt func123 rfl rfl ?_;exact Z _ _ _ _ (Le.refl _) rfl ⟨ag,ah,ai,rfl,(by first | rfl | simp | (simp [Value.cells])),aj⟩ ak
def MQ(fuel:Nat)(p0:List (Int×Int)):Option ((List (Int×Int))):=
 some ([])
theorem P1{c2:Nat}{p0:List (Int×Int)}(Z:Ar (rP rI rI) E none c2 p0){fuel:Nat}{r:(List (Int×Int))}(A:MQ fuel p0=some r):Au J 123 [.slice none (p0).length c2] E [] (fun w E' B'=>∃(K:Option Addr) (O:Nat) (g0:Seg),w= .slice K (r).length O∧B'=g0∧OL 27 (rP rI rI) E' K O g0 (r)):=by
 refine Au.en func123 rfl rfl fun Q aa cs H U W=>?_;unfold MQ at A;refine JL.go 8 rfl ?_;refine JL.Y (v:= .bool true) rfl (fun ρ h=>Yl.H4 (a:=none) underlying25 (h _ _ rfl) (h _ _ rfl)) ?_;refine JL.go 6 rfl ?_;obtain rfl:=oi A;refine JL.rt func123 rfl rfl ?_;exact W _ _ _ _ (Le.refl _) rfl ⟨none,0,[],rfl,rfl,OL.nil⟩ U
def f123(fuel:Nat)(p0:List (Int×Int)):Option (List (Int×Int)):=Ig fuel p0
theorem Qg{K:Option Addr}{c2:Nat}{p0:List (Int×Int)}(O:Ar (rP rI rI) E K c2 p0){fuel:Nat}{r:List (Int×Int)}(A:f123 fuel p0=some r):Au J 123 [.slice K p0.length c2] E [] (fun w E' B'=>∃(U:Option Addr) (W:Nat) (g0:Seg),w= .slice U r.length W∧B'=g0∧OL 27 (rP rI rI) E' U W g0 r):=by
 cases K with
 | some ad=>exact Pe O A
 | none=>
  have Z:p0= []:=by
   rcases O.2 with h | ⟨_,_,h,_⟩
   ·exact h.1
   ·cases h
  subst Z;have aa:r= []:=by
   have ab:Ig fuel []=some []:=rfl;unfold f123 at A;rw [ab] at A;exact(Option.some.inj A).symm
  subst aa;exact P1 (fuel:=fuel) O rfl
end Pal
