/- ToothHonest answers true for every list of numbers, on every schedule; without a condition beyond those of the given row and card. Part 4 of 8. -/
import Derived.Test.YtboibffcmhheiaaGreatDoorHob
import Derived.Test.YtboibffcmhheiaaGreatDoorHoc
import Derived.Conc.WgGenN3
import Derived.Sort.AssemblyPlain
import Derived.Sort.Walk13a
set_option linter.all false
set_option maxRecDepth 100000
namespace Go.Proofs
abbrev Tryz.link:Go.Conc.Lib.WgLink:={add:=126,done:=128,wait:=132,relMerge:=139,disable:=140,enable:=141,inBubble:=142,associate:=143,fatal:=144,uOr:=145,uAdd:=146,raceRead:=147,uLoad:=148,uStore:=149,disassociate:=150,semrelease:=151,acquire:=157,isAssociated:=158,uCas:=159,raceWrite:=160,semacquire:=161,orU64:=170,addU64:=171,loadU64:=172,storeU64:=173,casU64:=177,tWgP:=189,tUP:=191,tAssoc:=192,tWg:=171,tAU:=168,tU64:=90,tUint:=156,tU32:=169,tPU32:=196,tPAU:=221,tPU64:=223,tNoCopy:=164,tANoCopy:=165,tAlign64:=166}
theorem Tryz.Km:Go.Conc.Lib.WgLib Tryz.prog Tryz.link:=
 ⟨Tryz.func126,Tryz.func128,Tryz.func132,Tryz.func139,Tryz.func140,Tryz.func141,Tryz.func142,Tryz.func143,Tryz.func144,Tryz.func145,Tryz.func146,Tryz.func147,Tryz.func148,Tryz.func149,Tryz.func150,Tryz.func151,Tryz.func157,Tryz.func158,Tryz.func159,Tryz.func160,Tryz.func161,Tryz.func170,Tryz.func171,Tryz.func172,Tryz.func173,Tryz.func177,Tryz.underlying189,Tryz.runUnderlying189,Tryz.sizeOf189,Tryz.isAgg189,Tryz.zeroValue189,Tryz.underlying191,Tryz.runUnderlying191,Tryz.sizeOf191,Tryz.isAgg191,Tryz.zeroValue191,Tryz.underlying192,Tryz.runUnderlying192,Tryz.sizeOf192,Tryz.isAgg192,Tryz.zeroValue192,Tryz.underlying171,Tryz.runUnderlying171,Tryz.sizeOf171,Tryz.isAgg171,Tryz.zeroValue171,Tryz.underlying168,Tryz.runUnderlying168,Tryz.sizeOf168,Tryz.isAgg168,Tryz.zeroValue168,Tryz.underlying90,Tryz.runUnderlying90,Tryz.sizeOf90,Tryz.isAgg90,Tryz.zeroValue90,Tryz.underlying156,Tryz.runUnderlying156,Tryz.sizeOf156,Tryz.isAgg156,Tryz.zeroValue156,Tryz.underlying169,Tryz.runUnderlying169,Tryz.sizeOf169,Tryz.isAgg169,Tryz.zeroValue169,Tryz.underlying196,Tryz.runUnderlying196,Tryz.sizeOf196,Tryz.isAgg196,Tryz.zeroValue196,Tryz.underlying221,Tryz.runUnderlying221,Tryz.sizeOf221,Tryz.isAgg221,Tryz.zeroValue221,Tryz.underlying223,Tryz.runUnderlying223,Tryz.sizeOf223,Tryz.isAgg223,Tryz.zeroValue223,Tryz.underlying0,Tryz.runUnderlying0,Tryz.sizeOf0,Tryz.isAgg0,Tryz.zeroValue0,Tryz.underlying3,Tryz.runUnderlying3,Tryz.sizeOf3,Tryz.isAgg3,Tryz.zeroValue3,Tryz.underlying4,Tryz.runUnderlying4,Tryz.sizeOf4,Tryz.isAgg4,Tryz.zeroValue4,Tryz.underlying9,Tryz.runUnderlying9,Tryz.sizeOf9,Tryz.isAgg9,Tryz.zeroValue9,Tryz.underlying20,Tryz.runUnderlying20,Tryz.sizeOf20,Tryz.isAgg20,Tryz.zeroValue20,Tryz.underlying21,Tryz.runUnderlying21,Tryz.sizeOf21,Tryz.isAgg21,Tryz.zeroValue21,(by decide+kernel),(by decide+kernel)⟩
end Go.Proofs
namespace Pal
open Go Go.Conc Go.Proofs Go.Conc.Lib Go.ConcR.Gen
theorem Pz{F:Fam}(O:F.n<2147483648){E:LH}{kc K:Nat}(U:At E kc K [.chan (some F.ch)]):Way Tryz.prog false (Stop Tryz.prog F .BT) (born Tryz.prog ⟨.fn (.func 131) [.pointer (some F.sA),.pointer (some ⟨kc,K,none⟩)].toArray,#[]⟩) ⟨E,fun _=>none,false⟩:=by
 refine Me (fn:=Tryz.f131) (vs:= [.pointer (some F.sA),.pointer (some ⟨kc,K,none⟩)]) Tryz.func131 rfl rfl (by simp) (Nat.le_of_ble_eq_true rfl) ?_;obtain⟨H,W⟩:∃H:LH,H=fun _=>none:=⟨_,rfl⟩;rw [← W];refine(?_:JL (A1 Tryz.prog false) (Stop Tryz.prog F .BT) (baseD 131) Tryz.f131.ntmps (DO 0 [.pointer (some F.sA),.pointer (some ⟨kc,K,none⟩)]) [] [.code _] [Fu Tryz.prog] (Ap E H []));refine JL.go 2 rfl ?_;refine JL.wait Tryz.Km O rfl rfl rfl rfl rfl ?_;refine JL.go 2 rfl ?_;refine JL.ld 0 U (Ao Tryz.underlying162) rfl rfl rfl ?_;refine JL.RN rfl rfl rfl rfl rfl rfl rfl ?_;refine JL.done ?_;exact JL.out rfl (JO.leaveD rfl Tryz.func131 rfl (.inr rfl) Hd)
end Pal
namespace Pal
open Go Go.Conc Go.Proofs
open Go.Proofs.Tryz
open Go.Conc.Lib Go.ConcR.Gen
noncomputable def Gk:Code:=match Tryz.f102.body with | some (.seq _ (.seq _ (.seq _ (.seq (.seq _ (.block _ (.loop c))) _))))=>c | _=> .skip
theorem OU{F:Fam}(aO:F.n=13){E:LH}{k1 ai:Nat}{aj ak al:Option Addr}{am an ao:Nat}{ap:List Value}{O:(List (List Int))×(List (List Int))×(List Nat)}{lk:List (Int×Int)}(au:At E k1 ai (([.slice aj (O.1).length am,.slice ak (O.2.1).length an]:List Value)++ap))(av:Aq (rL rI) E aj am (O.1))(aw:Aq (rL rI) E ak an (O.2.1))(ay:(rA 13 (rN .u16)).r E ap (O.2.2))(az:Aq (rP rI rI) E al ao lk){W Z aa ol kc ab:Nat}(aA:At E W Z [.pointer (some ⟨k1,ai,none⟩)])(aB:At E aa ol [.slice al lk.length ao])(aC:At E kc ab [.chan (some F.ch)]){fuel:Nat}{qs:Nat→Int×List (Int×(List Int)×Nat)}(aD:∀j,j<13→Eg fuel O lk ((j:Nat):Int)=some (qs j))(aE:∀j,j<13→F.has j=decide (0<(qs j).2.length))(aF:∀j,j<13→∀E' a c,Aq (rP rI (rP (rL rI) (rN .u16))) E' a c (qs j).2→F.msg j (.agg #[iV ((j:Nat):Int),iV (qs j).1,.slice a (qs j).2.length c]) E'){j:Nat}(ae:j<13){ag H:LH}(hle:Le E ag)(aG:Az ag H []){k:List Item}{cs:List Frame}
  (h:∀U,Le E U→Az U H []→JL (A1 Tryz.prog true) (Stop Tryz.prog F (F.Cm j)) (base 102) Tryz.f102.ntmps [(2,.pointer (some ⟨W,Z,none⟩)),(3,.pointer (some ⟨aa,ol,none⟩)),(5,.pointer (some ⟨kc,ab,none⟩)),(6,.pointer (some F.sA)),(11,iV ((j+1:Nat):Int))] [] (.inLoop Gk::k) cs (Ap U H [])):
  JL (A1 Tryz.prog true) (Stop Tryz.prog F (.Dj j)) (base 102) Tryz.f102.ntmps [(2,.pointer (some ⟨W,Z,none⟩)),(3,.pointer (some ⟨aa,ol,none⟩)),(5,.pointer (some ⟨kc,ab,none⟩)),(6,.pointer (some F.sA)),(11,iV ((j:Nat):Int))] [] (.code Gk:: .inLoop Gk::k) cs (Ap ag H []):=by
 refine JL.go 5 rfl ?_;rw [decide_eq_true (show((j:Nat):Int)<13 by omega)];refine JL.go 7 rfl ?_;refine JS.alloc rfl rfl rfl aG (AM type3) fun aq aH=>?_;refine JS.st (v:=iV ((j:Nat):Int)) (off:=0) 0 aH (Ah type3) rfl rfl rfl rfl fun aI=>?_;refine JS.Bf 0 aI rfl fun U aJ ah aK=>?_;replace ah:At U aq 0 [iV ((j:Nat):Int)]:=ah;refine JS.split (S':= []) (by simp) aK fun aL=>?_;have K:=hle.trans aJ;refine JL.go 3 rfl ?_;refine JL.addPos Tryz.Km rfl rfl rfl rfl rfl rfl ?_;refine JL.go 2 rfl ?_;refine JL.Y (v:= .func (.func 127) #[] ([.pointer (some F.sA),.pointer (some ⟨W,Z,none⟩),.pointer (some ⟨aa,ol,none⟩),.pointer (some ⟨aq,0,none⟩),.pointer (some ⟨kc,ab,none⟩)]:List Value).toArray) rfl (fun ρ h=>Yl.Gh (by simp) (by simp [h (.tmp 6) _ rfl,h (.tmp 2) _ rfl,h (.tmp 3) _ rfl,h (.tmp 7) _ rfl,h (.tmp 5) _ rfl])) ?_;have ar:=P8 Tryz.Km rfl (F:=F) (j:=j) (au.mono K) (av.mono K) (aw.mono K) (Rp.mono _ K ay) (az.mono K) (aA.mono K) (aB.mono K) ah (aC.mono K) (aD j ae) (aE j ae) (fun E' a c _ aM=>aF j ae E' a c aM);refine JL.Tw (fi:= #[]) rfl rfl rfl rfl rfl rfl rfl (by first | exact ar | (simp only [List.append_toArray,List.nil_append,Array.append_empty,Array.empty_append];exact ar)) ?_
 refine JL.go 3 rfl ?_;have aN:Av (((j:Nat):Int)+1)=some (((j+1:Nat)):Int):=by unfold Av;rw [if_pos (by omega)];simp
 refine JL.Y rfl (fun ρ h=>Yl.A0 (h _ _ rfl) (h _ _ rfl) aN) ?_;refine JL.go 2 rfl ?_;exact JL.kw (h U K aL) rfl
theorem O2{F:Fam}(W:F.n=13){E:LH}{k1 ag:Nat}{ah ai aj:Option Addr}{ak al am:Nat}{an:List Value}{K:(List (List Int))×(List (List Int))×(List Nat)}{lk:List (Int×Int)}(aq:At E k1 ag (([.slice ah (K.1).length ak,.slice ai (K.2.1).length al]:List Value)++an))(ar:Aq (rL rI) E ah ak (K.1))(au:Aq (rL rI) E ai al (K.2.1))(av:(rA 13 (rN .u16)).r E an (K.2.2))(aw:Aq (rP rI rI) E aj am lk){Z aa ab ol kc ae:Nat}(ay:At E Z aa [.pointer (some ⟨k1,ag,none⟩)])(az:At E ab ol [.slice aj lk.length am])(aA:At E kc ae [.chan (some F.ch)]){fuel:Nat}{qs:Nat→Int×List (Int×(List Int)×Nat)}(aB:∀j,j<13→Eg fuel K lk ((j:Nat):Int)=some (qs j))(aC:∀j,j<13→F.has j=decide (0<(qs j).2.length))(aD:∀j,j<13→∀E' a c,Aq (rP rI (rP (rL rI) (rN .u16))) E' a c (qs j).2→F.msg j (.agg #[iV ((j:Nat):Int),iV (qs j).1,.slice a (qs j).2.length c]) E'){H:LH}{k:List Item}{cs:List Frame}
  (h:∀O,Le E O→Az O H []→JL (A1 Tryz.prog true) (Stop Tryz.prog F .DC) (base 102) Tryz.f102.ntmps [(2,.pointer (some ⟨Z,aa,none⟩)),(3,.pointer (some ⟨ab,ol,none⟩)),(5,.pointer (some ⟨kc,ae,none⟩)),(6,.pointer (some F.sA)),(11,iV 13)] [] (.code Gk:: .inLoop Gk::k) cs (Ap O H [])):
  ∀(m j:Nat),j+m=13→0<m→∀U,Le E U→Az U H []→JL (A1 Tryz.prog true) (Stop Tryz.prog F (.Dj j)) (base 102) Tryz.f102.ntmps [(2,.pointer (some ⟨Z,aa,none⟩)),(3,.pointer (some ⟨ab,ol,none⟩)),(5,.pointer (some ⟨kc,ae,none⟩)),(6,.pointer (some F.sA)),(11,iV ((j:Nat):Int))] [] (.code Gk:: .inLoop Gk::k) cs (Ap U H []):=by
 intro m
 induction m with
 | zero=>intro j _ aE;cases aE
 | succ m aF=>
  intro j aI _ U hle aG;refine OU W aq ar au av aw ay az aA aB aC aD (by omega) hle aG fun O ao ap=>?_;refine JL.again ?_;by_cases hm:m=0
  ·subst hm;have aH:j=12:=by omega
   subst aH;have e:F.Cm 12= .DC:=by unfold Fam.Cm;rw [W];rfl
   rw [e];exact h O ao ap
  ·have e:F.Cm j= .Dj (j+1):=by unfold Fam.Cm;rw [W,if_neg (by omega)]
   rw [e];exact aF (j+1) (by omega) (by omega) O ao ap
end Pal
namespace Pal
open Go Go.Conc Go.Proofs
open Go.Proofs.Tryz
open Go.Conc.Lib Go.ConcR.Gen
noncomputable def NK:Code:=match Tryz.f102.body with | some (.seq _ (.seq _ (.seq _ (.seq _ (.seq _ (.seq _ (.seq (.seq _ (.block _ (.loop c))) _)))))))=>c | _=> .skip
def partOf(qs:Nat→Int×List (Int×(List Int)×Nat))(k:Nat):(Int×Int×List (Int×(List Int)×Nat)):=(((k:Nat):Int),(qs k).1,(qs k).2)
theorem Sv{K:List Nat}{kk n:Nat}(O:kk<n)(U:kk ∉ K):((List.range n).filter (fun x=> !(K++ [kk]).contains x)).length<((List.range n).filter (fun x=> !K.contains x)).length:=by
 have e:(List.range n).filter (fun x=> !(K++ [kk]).contains x)=((List.range n).filter (fun x=> !K.contains x)).filter (fun x=>x != kk):=by
  rw [List.filter_filter];apply List.filter_congr;intro x _;by_cases W:x∈K <;> by_cases Z:x=kk <;> simp [W,Z]
 rw [e];apply List.length_filter_lt_length_iff_exists.2;exact⟨kk,by simp [O,U],by simp⟩
theorem OZ{F:Fam}(ae:F.n=13){Q:GP}(av:∀g s,(Cd Tryz.prog).ok Q g s→F.fin g s){qs:Nat→Int×List (Int×(List Int)×Nat)}(aw:∀kk v E',F.msg kk v E'→∃a c,v= .agg #[iV ((kk:Nat):Int),iV (qs kk).1,.slice a (qs kk).2.length c]∧Aq (rP rI (rP (rL rI) (rN .u16))) E' a c (qs kk).2)
  {E H:LH} {k:List Item} {cs:List Frame}
  (ay:∀(K:List Nat) (W:LH) (a:Option Addr) (c:Nat) (g:Seg),Le E W→K.Nodup→(∀x∈K,x<13∧F.has x=true)→(∀x,x<13→F.has x=true→x∈K)→OL 133 (rP rI (rP rI (rL (rP rI (rP (rL rI) (rN .u16)))))) W a c g (K.map (partOf qs))→Az W H [g]→JL (Cd Tryz.prog) Q (base 102) Tryz.f102.ntmps [(8,.slice a (K.map (partOf qs)).length c)] [] k cs (Ap W H [g])):
  ∀(m:Nat) (K:List Nat) (vs:List Value) (U:LH) (a:Option Addr) (c:Nat) (g:Seg),((List.range 13).filter (fun x=> !K.contains x)).length=m→K.Nodup→(∀x∈K,x<13∧F.has x=true)→K.length+m≤13→Le E U→OL 133 (rP rI (rP rI (rL (rP rI (rP (rL rI) (rN .u16)))))) U a c g (K.map (partOf qs))→Az U H [g]→
   JL (A1 Tryz.prog true) (Stop Tryz.prog F (.Bs K vs)) (base 102) Tryz.f102.ntmps [(8,.slice a (K.map (partOf qs)).length c),(18,.chan (some F.ch))] [] (.code NK:: .inLoop NK:: .inBlock 2::k) cs (Ap U H [g]):=by
 intro m
 induction m using Nat.strongRecOn with
 | _ m az=>
  intro K vs U a c g hm ag ah hlen hle ai aj;refine JL.go 2 rfl ?_;refine JL.Sz rfl rfl rfl rfl rfl rfl underlying162 (AM type133) ?_ ?_
  ·intro kk v E' Z aA ak al aB aC;rw [ae] at Z;obtain⟨am,an,rfl,aD⟩:=aw kk v E' aC;have aE:Az E' H [g]:=aj.up aB;refine(?_:JL (A1 Tryz.prog true) (Stop Tryz.prog F (.Bs (K++ [kk]) (vs++ [_]))) (base 102) Tryz.f102.ntmps _ [] _ cs (Ap E' H [g]));refine JL.go 9 rfl ?_;refine JS.alloc rfl rfl rfl aE (AM type133) fun aF aG=>?_;refine JS.st (v:= .agg #[iV ((kk:Nat):Int),iV (qs kk).1,.slice am (qs kk).2.length an]) (off:=0) 1 aG (Ah type133) rfl rfl rfl rfl fun aH=>?_;refine JS.Bf 1 aH rfl fun ao aa ab aI=>?_;replace ab:At ao aF 0 [iV ((kk:Nat):Int),iV (qs kk).1,.slice am (qs kk).2.length an]:=ab;refine JS.split (S':= [g]) (by simp) aI fun aJ=>?_;refine JL.go 3 rfl ?_;refine JL.Bw ab (Ao underlying133) (Ah type133) rfl rfl ?_;have aK:(K.map (partOf qs)).length+1≤2 ^ 40:=by rw [List.length_map];omega
   refine JS.Io (pp:=(rP rI (rP rI (rL (rP rI (rP (rL rI) (rN .u16))))))) (xv:=partOf qs kk) 0 rfl rfl rfl rfl (fun w=>rfl) rfl (fun w=>rfl) rfl rfl rfl underlying130 underlying130 underlying130 (Ah type133) (Ct type133) (AM type133) rfl (by decide) (by decide) (by decide) (by decide) aK (ai.mono (al.trans aa)) ⟨_,_,rfl,rfl,⟨_,_,rfl,rfl,⟨_,_,rfl,aD.mono aa⟩⟩⟩ aJ rfl fun w ap aq g' ar aL=>?_;have em:K.map (partOf qs)++ [partOf qs kk]=(K++ [kk]).map (partOf qs):=by simp
   rw [em] at ar;refine JL.y (v:= .slice ap ((K++ [kk]).map (partOf qs)).length aq) rfl rfl rfl (fun ρ h=>by rw [← em];exact Yl.assign (h _ _ rfl)) ?_;refine JL.go 2 rfl ?_;refine JL.again ?_;have aM:((List.range 13).filter (fun x=> !(K++ [kk]).contains x)).length<m:=by rw [← hm];exact Sv Z ak
   exact JL.kw (az _ aM (K++ [kk]) (vs++ [_]) ao ap aq g' rfl (by rw [List.nodup_append];exact⟨ag,by simp,by intro x O y au;simp at au;subst au;intro e;exact ak (e▸O)⟩) (by intro x O;simp at O;rcases O with O | rfl;exact ah x O;exact⟨Z,aA⟩) (by simp only [List.length_append,List.length_cons,List.length_nil];omega) ((hle.trans al).trans aa) ar aL) rfl
  ·intro aN T aO;refine av _ _ ?_;refine(?_:JL (Cd Tryz.prog) Q (base 102) Tryz.f102.ntmps _ [] _ cs (Ap U H [g])) T aO;refine JL.go 5 rfl ?_;exact JL.kw (ay K U a c g hle ag ah (fun x O hh=>aN x (by rw [ae];exact O) hh) ai aj) rfl
end Pal
namespace Pal
open Go Go.Conc
section
variable {P:Program}{J:Judge P}{Q:Goroutine→St→Prop}{b:Frame}{n:Nat}{ds:List Deferred}{ops:Array Oper}{k:List Item}{cs:List Frame}{fuel:Nat}{D:Nat→Bool}{listed:Array Bool}{L L':Env}{s:St}{xl:List Nat}
variable {d:Option Tmp}{op:Op}{ty:TypeId}{p:String}{af:Array Edge}{g:Option (Nat×Bool)}{v:Value}
theorem JB.V(i:Nat)(pure:Bool)(K:s.q=false)(O:Gn n L ops i=some ⟨d,op,ty,p,af,g⟩)
  (U:∀ρ,CJ L ρ→∀s':St,(pure=false→∀x o,(A9 D s).E x=some o→s'.E x=some o)→Yl P ⟨d,op,ty,p,af,g⟩ ρ s' v)
  (W:Fb J Q b n ds ops k cs (AD xl) D fuel (AY listed i) (AH L d v) s) (Z:Jd ops listed xl pure i=true:=by decide+kernel):Fb J Q b n ds ops k cs (AD xl) D (fuel+1) listed L s:=by
 obtain⟨aa,ab,ae⟩:=LR O;exact JB.val i pure aa Z K ab ae U W
def KB(n:Nat)(L:Env)(ops:Array Oper)(i:Nat):Option Env:=
 match Fv ops.toList i with
 | some ⟨d,op,ty,p,af,g⟩=>match AT L ops ⟨d,op,ty,p,af,g⟩ with
  | some true=>match A6 n d with
   | true=>match Gq L op with
    | some v=>match d with
     | some d=>some ((d,v)::L)
     | none=>some L
    | none=>none
   | false=>none
  | _=>none
 | none=>none
theorem P2{i:Nat}(h:KB n L ops i=some L'):∃o v,ops[i]? =some o∧A6 n o.dst=true∧AT L ops o=some true∧Gq L o.op=some v∧L'=AH L o.dst v:=by
 unfold KB at h;split at h
 ·rename_i d op ty p af g K;rw [GL,Array.getElem?_toList] at K;split at h
  ·rename_i hw;split at h
   ·rename_i O;split at h
    ·rename_i v U;refine⟨_,v,K,O,hw,U,?_⟩;cases d with
     | none=>cases h;rfl
     | some d=>cases h;rfl
    ·cases h
   ·cases h
  ·cases h
 ·cases h
theorem JB.mv(i:Nat)(K:s.q=false)(h:KB n L ops i=some L')
  (O:Fb J Q b n ds ops k cs (AD xl) D fuel (AY listed i) L' s) (U:Jd ops listed xl true i=true:=by decide+kernel):Fb J Q b n ds ops k cs (AD xl) D (fuel+1) listed L s:=by
 obtain⟨o,v,W,Z,hw,aa,rfl⟩:=P2 h;exact JB.val i true W U K hw Z (fun ρ ab s' _=>Iz ab aa) O
end
end Pal
namespace Pal
open Go Go.Conc Go.Proofs
open Go.Proofs.Tryz
variable {J:Judge Tryz.prog}{E:LH}
def Nk:List Nat:= [0,1,2,2,3,3,3,3,4,4,4,4,4,4,4,4,5,5,5,5,5,5,5,5,5,5,5,5,5,5,5,5,6,6,6,6,6,6,6,6,6,6,6,6,6,6,6,6,6,6,6,6,6,6,6,6,6,6,6,6,6,6,6,6,7,7,7,7,7,7,7,7,7,7,7,7,7,7,7,7,7,7,7,7,7,7,7,7,7,7,7,7,7,7,7,7,7,7,7,7,7,7,7,7,7,7,7,7,7,7,7,7,7,7,7,7,7,7,7,7,7,7,7,7,7,7,7,7,8,8,8,8,8,8,8,8,8,8,8,8,8,8,8,8,8,8,8,8,8,8,8,8,8,8,8,8,8,8,8,8,8,8,8,8,8,8,8,8,8,8,8,8,8,8,8,8,8,8,8,8,8,8,8,8,8,8,8,8,8,8,8,8,8,8,8,8,8,8,8,8,8,8,8,8,8,8,8,8,8,8,8,8,8,8,8,8,8,8,8,8,8,8,8,8,8,8,8,8,8,8,8,8,8,8,8,8,8,8,8,8,8,8,8,8,8,8,8,8,8,8,8,8,8,8,8,8]
def f187(fuel:Nat)(p0:Nat):Option (Int):=
 Option.bind (
  if(((4294967296):Nat):Int)≤(((p0):Nat):Int) then(
   some (p0>>>32,32)
  ) else(
   some (p0,0)
  )
 ) fun K=>
 Option.bind (
  if(((65536):Nat):Int)≤(((K.1):Nat):Int) then(
   (Av (K.2+16)).bind fun W=>
   some (K.1>>>16,W)
  ) else(
   some K
  )
 ) fun O=>
 Option.bind (
  if(((256):Nat):Int)≤(((O.1):Nat):Int) then(
   (Av (O.2+8)).bind fun Z=>
   some (O.1>>>8,Z)
  ) else(
   some O
  )
 ) fun U=>
 (HM Nk (((((U.1) % 256):Nat):Int))).bind fun aa=>
 (Av (((aa):Nat):Int)).bind fun ab=>
 (Av (U.2+ab)).bind fun ae=>
 some ae
theorem R1{p0:Nat}{fuel:Nat}{r:Int}(ag:f187 fuel p0=some r):Au J 187 [.int .u64 ((p0:Nat):Int)] E [] (fun w E' B'=>w=iV r∧B'= []):=by
 refine Au.en func187 rfl rfl fun Q aU cs H ah aA=>?_;unfold f187 at ag;obtain⟨U,ai,aB⟩:=bs ag;refine JL.go 10 rfl ?_;refine JL.join (fun L s=>∃(K:LH),Jm E H K [] [(0,.int .u64 ((U.1:Nat):Int)),(2,iV U.2)] L s) ?_ ?_
 ·rintro _ _ ⟨K,rfl,rfl,aC,aj⟩;obtain⟨W,ak,aD⟩:=bs aB;refine JL.go 6 rfl ?_;refine JL.join (fun L s=>∃(O:LH),Jm K H O [] [(0,.int .u64 ((W.1:Nat):Int)),(2,iV W.2)] L s) ?_ ?_
  ·rintro _ _ ⟨O,rfl,rfl,aE,al⟩;obtain⟨Z,am,aF⟩:=bs aD;refine JL.go 6 rfl ?_;refine JL.join (fun L s=>∃(an:LH),Jm O H an [] [(0,.int .u64 ((Z.1:Nat):Int)),(2,iV Z.2)] L s) ?_ ?_
   ·rintro _ _ ⟨an,rfl,rfl,aG,aH⟩;refine JL.go 4 rfl ?_;refine JL.Y (v:= .int .u8 (((Z.1) % 256:Nat):Int)) rfl (fun ρ h=>Yl.Tk underlying90 underlying5 (h _ _ rfl)) ?_;obtain⟨aI,aJ,aK⟩:=bs aF;refine JL.Y (v:= .int .u8 ((aI:Nat):Int)) rfl (fun ρ h=>Yl.Kg (l:=Nk) (by decide+kernel) underlying9 (h _ _ rfl) (h _ _ rfl) aJ) ?_;obtain⟨aL,aM,aN⟩:=bs aK;refine JL.Y (v:=iV aL) rfl (fun ρ h=>Yl.N5 underlying5 underlying3 (h _ _ rfl) aM) ?_;obtain⟨aV,aO,aP⟩:=bs aN;refine JL.Y rfl (fun ρ h=>Yl.A0 (h _ _ rfl) (h _ _ rfl) aO) ?_;refine JL.go 2 rfl ?_;obtain rfl:=oi aP;refine JL.rt func187 rfl rfl ?_;exact aA _ _ _ _ ((aC.trans aE).trans aG) rfl ⟨rfl,rfl⟩ aH
   ·intro ao;refine JL.ifs (p:=(((256):Nat):Int)≤(((W.1):Nat):Int)) rfl (fun aa=>?_) (fun aa=>?_)
    ·have ap:=am;rw [if_pos aa] at ap;refine JL.go 3 rfl ?_;refine JL.Y (v:= .int .u64 ((W.1>>>8:Nat):Int)) rfl (fun ρ h=>Yl.G1 8 (h _ _ rfl) (h _ _ rfl) (by decide)) ?_;obtain⟨aW,aQ,aR⟩:=bs ap;refine JL.go 4 rfl ?_;refine JL.Y rfl (fun ρ h=>Yl.A0 (h _ _ rfl) (h _ _ rfl) aQ) ?_;refine JL.go 2 rfl ?_;obtain rfl:=oi aR;exact JL.kw (ao _ _ ⟨O,rfl,rfl,(Le.refl _),al⟩) rfl
    ·have aq:=am;rw [if_neg aa] at aq;refine JL.skip ?_;obtain rfl:=oi aq;exact JL.kw (ao _ _ ⟨O,rfl,rfl,(Le.refl _),al⟩) rfl
  ·intro ar;refine JL.ifs (p:=(((65536):Nat):Int)≤(((U.1):Nat):Int)) rfl (fun ab=>?_) (fun ab=>?_)
   ·have au:=ak;rw [if_pos ab] at au;refine JL.go 3 rfl ?_;refine JL.Y (v:= .int .u64 ((U.1>>>16:Nat):Int)) rfl (fun ρ h=>Yl.G1 16 (h _ _ rfl) (h _ _ rfl) (by decide)) ?_;obtain⟨aX,aS,aT⟩:=bs au;refine JL.go 4 rfl ?_;refine JL.Y rfl (fun ρ h=>Yl.A0 (h _ _ rfl) (h _ _ rfl) aS) ?_;refine JL.go 2 rfl ?_;obtain rfl:=oi aT;exact JL.kw (ar _ _ ⟨K,rfl,rfl,(Le.refl _),aj⟩) rfl
   ·have av:=ak;rw [if_neg ab] at av;refine JL.skip ?_;obtain rfl:=oi av;exact JL.kw (ar _ _ ⟨K,rfl,rfl,(Le.refl _),aj⟩) rfl
 ·intro aw;refine JL.ifs (p:=(((4294967296):Nat):Int)≤(((p0):Nat):Int)) rfl (fun ae=>?_) (fun ae=>?_)
  ·have ay:=ai;rw [if_pos ae] at ay;refine JL.go 3 rfl ?_;refine JL.Y (v:= .int .u64 ((p0>>>32:Nat):Int)) rfl (fun ρ h=>Yl.G1 32 (h _ _ rfl) (h _ _ rfl) (by decide)) ?_;refine JL.go 5 rfl ?_;obtain rfl:=oi ay;exact JL.kw (aw _ _ ⟨E,rfl,rfl,(Le.refl _),ah⟩) rfl
  ·have az:=ai;rw [if_neg ae] at az;refine JL.skip ?_;obtain rfl:=oi az;exact JL.kw (aw _ _ ⟨E,rfl,rfl,(Le.refl _),ah⟩) rfl
def f163(fuel:Nat)(p0:Nat):Option (Int):=
 (f187 fuel p0).bind fun K=>
 some K
theorem Nm{p0:Nat}{fuel:Nat}{r:Int}(K:f163 fuel p0=some r):Au J 163 [.int .u64 ((p0:Nat):Int)] E [] (fun w E' B'=>w=iV r∧B'= []):=by
 refine Au.en func163 rfl rfl fun Q ae cs H O U=>?_;unfold f163 at K;obtain⟨ag,W,Z⟩:=bs K;refine JL.go 10 rfl ?_;refine JS.cl (R1 W) rfl rfl (Ay func187 rfl) O ?_;rintro _ ah _ aa ⟨rfl,rfl⟩ ab;refine JL.go 2 rfl ?_;obtain rfl:=oi Z;refine JL.rt func163 rfl rfl ?_;exact U _ _ _ _ aa rfl ⟨rfl,rfl⟩ ab
def f134(fuel:Nat)(p0:Int×Int×(List (Int×(List Int)×Nat)))(p1:Int×Int×(List (Int×(List Int)×Nat))):Option (Int):=
 (Av (p0.1 - p1.1)).bind fun K=>
 some K
theorem Eu{K:Option Addr}{c2:Nat}{O:Option Addr}{U:Nat}{p0:Int×Int×(List (Int×(List Int)×Nat))}{p1:Int×Int×(List (Int×(List Int)×Nat))}(au:Aq (rP rI (rP (rL rI) (rN .u16))) E K c2 (p0.2.2))(av:Aq (rP rI (rP (rL rI) (rN .u16))) E O U (p1.2.2)){fuel:Nat}{r:Int}(aa:f134 fuel p0 p1=some r):Au J 134 [.agg #[iV p0.1,iV p0.2.1,.slice K (p0.2.2).length c2],.agg #[iV p1.1,iV p1.2.1,.slice O (p1.2.2).length U]] E [] (fun w E' B'=>w=iV r∧B'= []):=by
 refine Au.en func134 rfl rfl fun Q aw cs H ae ag=>?_;unfold f134 at aa;refine JL.go 2 rfl ?_;refine JS.box (v:= .agg #[iV p0.1,iV p0.2.1,.slice K (p0.2.2).length c2]) rfl rfl rfl ae rfl fun ah ai=>?_;refine JS.Bf 1 ai rfl fun aj ak W al=>?_;replace W:At aj ah 0 [iV p0.1,iV p0.2.1,.slice K (p0.2.2).length c2]:=W;refine JS.box (v:= .agg #[iV p1.1,iV p1.2.1,.slice O (p1.2.2).length U]) rfl rfl rfl al rfl fun am an=>?_;refine JS.Bf 2 an rfl fun ao ab Z ap=>?_;replace Z:At ao am 0 [iV p1.1,iV p1.2.1,.slice O (p1.2.2).length U]:=Z;refine JL.go 4 rfl ?_;refine JL.fd underlying133 (Ah type3) rfl rfl rfl ?_;refine JL.ld 0 (W.mono ab) (Ao underlying3) rfl rfl rfl ?_;refine JL.fd underlying133 (Ah type3) rfl rfl rfl ?_;refine JL.ld 0 Z (Ao underlying3) rfl rfl rfl ?_;obtain⟨ay,aq,ar⟩:=bs aa;refine JL.Y rfl (fun ρ h=>Yl.A4 (h _ _ rfl) (h _ _ rfl) aq) ?_;refine JL.go 2 rfl ?_;obtain rfl:=oi ar;refine JL.rt func134 rfl rfl ?_;exact ag _ _ _ _ (ak.trans ab) rfl ⟨rfl,rfl⟩ ap
def GH(fuel:Nat)(p1:Int)(K:Int×(List (Int×Int×(List (Int×(List Int)×Nat))))):Option (AV (Int×(List (Int×Int×(List (Int×(List Int)×Nat))))) ((List (Int×Int×(List (Int×(List Int)×Nat)))))):=
 Option.bind (
  if p1<K.1 then(
   (ix K.2 (K.1)).bind fun W=>
   (Av (K.1 - 1)).bind fun Z=>
   (ix K.2 (Z)).bind fun aa=>
   (f134 fuel W aa).bind fun ab=>
   some (decide (ab<0))
  ) else(
   some false
  )
 ) fun ae=>
 if ae=true then(
  (Av (K.1 - 1)).bind fun O=>
  (Av (K.1 - 1)).bind fun ag=>
  (ix K.2 (ag)).bind fun U=>
  (ix K.2 (K.1)).bind fun ah=>
  (ix (K.2.set (Int.toNat K.1) U) (O)).bind fun aj=>
  (Av (K.1 - 1)).bind fun ai=>
  some (.more (ai,((K.2.set (Int.toNat K.1) U).set (Int.toNat O) ah)))
 ) else(
  some (.done K.2)
 )
def Ge(fuel:Nat)(p1:Int)(p2:Int)(K:Int×(List (Int×Int×(List (Int×(List Int)×Nat))))):Option (AV (Int×(List (Int×Int×(List (Int×(List Int)×Nat))))) ((List (Int×Int×(List (Int×(List Int)×Nat)))))):=
 if K.1<p2 then(
  Option.bind (iter (GH fuel p1) fuel K) fun O=>
  (Av (K.1+1)).bind fun U=>
  some (.more (U,O))
 ) else(
  some (.done K.2)
 )
def f178(fuel:Nat)(p0:List (Int×Int×(List (Int×(List Int)×Nat))))(p1:Int)(p2:Int):Option ((List (Int×Int×(List (Int×(List Int)×Nat))))):=
 (Av (p1+1)).bind fun K=>
 Option.bind (iter (Ge fuel p1 p2) fuel (K,p0)) fun O=>
 some O
theorem M0{O:Nat}{W:Nat}{Z:Nat}{aA:Array Value}{p0:List (Int×Int×(List (Int×(List Int)×Nat)))}{p1:Int}{p2:Int}(hW:WL 133 (rP rI (rP rI (rL (rP rI (rP (rL rI) (rN .u16)))))) E O W Z aA p0){fuel:Nat}{r:(List (Int×Int×(List (Int×(List Int)×Nat))))}(aS:f178 fuel p0 p1 p2=some r):Au J 178 [.slice (some ⟨O,0,none⟩) Z W,iV p1,iV p2,(.func (.func 134) #[] #[])] E [(O,.cells aA 133 (0,0))] (fun w E' B'=>∃(aT:Array Value),w= .tuple #[]∧B'= [(O,.cells aT 133 (0,0))]∧WL 133 (rP rI (rP rI (rL (rP rI (rP (rL rI) (rN .u16)))))) E' O W Z aT (r)):=by
 refine Au.en func178 rfl rfl fun Q cc cs H bg bh=>?_;unfold f178 at aS;obtain⟨bi,bj,bk⟩:=bs aS;refine JL.go 3 rfl ?_;refine JL.Y rfl (fun ρ h=>Yl.A0 (h _ _ rfl) (h _ _ rfl) bj) ?_;obtain⟨bl,bm,bn⟩:=bs bk;refine JL.go 2 rfl ?_;refine JL.join (fun L s=>∃(aB:LH) (f17:Array Value),Jn E H aB [[(O,.cells f17 133 (0,0))]] [] L s (WL 133 (rP rI (rP rI (rL (rP rI (rP (rL rI) (rN .u16)))))) aB O W Z f17 (bl))) ?_ ?_
 ·rintro _ _ ⟨aB,f17,rfl,rfl,bo,bp,bq⟩;obtain rfl:=oi bn;refine JL.fin (v:= .tuple #[]) rfl rfl (Bm.list func178 rfl (vs:= []) trivial) ?_;exact bh _ _ _ _ bo rfl ⟨f17,rfl,(by first | rfl | simp | (simp [Value.cells])),bq⟩ bp
 ·intro br;refine JL.block ?_;refine JL.wk [(0,.slice (some ⟨O,0,none⟩) Z W),(1,iV p1),(2,iV p2),(3,(.func (.func 134) #[] #[])),(8,iV bi)] rfl ?_;refine JL.Bi bm (fun L s ae=>∃(ak:LH) (f25:Array Value),Jn E H ak [[(O,.cells f25 133 (0,0))]] [(0,.slice (some ⟨O,0,none⟩) Z W),(1,iV p1),(2,iV p2),(3,(.func (.func 134) #[] #[])),(8,iV ae.1)] L s (WL 133 (rP rI (rP rI (rL (rP rI (rP (rL rI) (rN .u16)))))) ak O W Z f25 (ae.2))) ⟨E,aA,rfl,rfl,(Le.refl _),bg,hW⟩ ?_;rintro _ _ ae ⟨ak,f25,rfl,rfl,aU,aV,aW⟩ bu ⟨cd,aC⟩ bv;have aD:=aC;unfold Ge at aD;refine JL.go 7 rfl ?_;refine JL.ifs (p:=ae.1<p2) rfl (fun aE=>?_) (fun aE=>?_)
  ·have aX:=aD;rw [if_pos aE] at aX;obtain⟨aY,bw,bx⟩:=bs aX;refine JL.go 8 rfl ?_;refine JL.join (fun L s=>∃(av:LH) (f48:Array Value),Jn ak H av [[(O,.cells f48 133 (0,0))]] [(0,.slice (some ⟨O,0,none⟩) Z W),(1,iV p1),(2,iV p2),(3,(.func (.func 134) #[] #[])),(8,iV ae.1)] L s (WL 133 (rP rI (rP rI (rL (rP rI (rP (rL rI) (rN .u16)))))) av O W Z f48 (aY))) ?_ ?_
   ·rintro _ _ ⟨av,f48,rfl,rfl,bz,bA,bB⟩;obtain⟨bC,bD,bE⟩:=bs bx;refine JL.go 3 rfl ?_;refine JL.Y rfl (fun ρ h=>Yl.A0 (h _ _ rfl) (h _ _ rfl) bD) ?_;refine JL.go 2 rfl ?_;obtain rfl:=oi bE;exact JL.kw (bv _ _ (bC,aY) ⟨av,f48,rfl,rfl,(aU.trans bz),bA,bB⟩ aC) rfl
   ·intro bF;refine JL.block ?_;refine JL.wk [(0,.slice (some ⟨O,0,none⟩) Z W),(1,iV p1),(2,iV p2),(3,(.func (.func 134) #[] #[])),(8,iV ae.1),(9,iV ae.1)] rfl ?_;refine JL.Bi bw (fun L s aa=>∃(ap:LH) (f58:Array Value),Jn ak H ap [[(O,.cells f58 133 (0,0))]] [(0,.slice (some ⟨O,0,none⟩) Z W),(1,iV p1),(2,iV p2),(3,(.func (.func 134) #[] #[])),(8,iV ae.1),(9,iV aa.1)] L s (WL 133 (rP rI (rP rI (rL (rP rI (rP (rL rI) (rN .u16)))))) ap O W Z f58 (aa.2))) ⟨ak,f25,rfl,rfl,(Le.refl _),aV,aW⟩ ?_;rintro _ _ aa ⟨ap,f58,rfl,rfl,aZ,aq,ab⟩ bG ⟨ce,aF⟩ bH;have a0:=aF;unfold GH at a0;refine JL.go 2 rfl ?_;refine JG.B8 17 [O] ⟨⟨0,_,rfl⟩,trivial⟩ aq mixed rfl (by decide+kernel) fun ht=>?_;refine JG.mv 0 ht rfl rfl ?_;refine JG.mv 1 ht rfl rfl ?_;refine JG.mv 2 ht rfl rfl ?_;refine JG.mv 3 ht rfl rfl ?_;obtain⟨a1,a2,a3⟩:=bs a0;refine Aw.join 0 #[true,true,true,true,true,true,true,true,true,true,true,true,true,true,true,true,true] (fun L s=>∃(aw:LH),Jm ap H aw [[(O,.cells f58 133 (0,0))]] [(0,.slice (some ⟨O,0,none⟩) Z W),(1,iV p1),(2,iV p2),(3,(.func (.func 134) #[] #[])),(8,iV ae.1),(9,iV aa.1),(34,.bool a1)] L s) ?_ ?_
    ·rintro _ _ ⟨aw,rfl,rfl,ao,ay⟩;refine Aw.fin (by decide+kernel) ?_;refine JL.split (t:=a1) rfl (fun aG=>?_) (fun aG=>?_)
     ·have a4:=a3;rw [if_pos aG] at a4;refine JL.go 3 rfl ?_;refine JB.draw [15,17] [O] mixed rfl ?_;refine JB.mv 0 rfl rfl ?_;refine JB.mv 1 rfl rfl ?_;refine JB.mv 2 rfl rfl ?_;refine JB.mv 3 rfl rfl ?_;obtain⟨ar,bI,bJ⟩:=bs a4;refine JB.V 4 true rfl rfl (fun ρ h s' hs=>Yl.A4 (h _ _ rfl) (h _ _ rfl) bI) ?_;refine JB.mv 5 rfl rfl ?_;refine JB.mv 6 rfl rfl ?_;obtain⟨bK,bL,bM⟩:=bs bJ;refine JB.V 7 true rfl rfl (fun ρ h s' hs=>Yl.A4 (h _ _ rfl) (h _ _ rfl) bL) ?_;obtain⟨K,a5,bN⟩:=bs bM;obtain⟨_,⟨_,_,rfl,rfl,⟨_,_,rfl,rfl,⟨ai,aj,rfl,bO⟩⟩⟩,aH⟩:=WL.at (ab.mono ao) a5;replace aH:∀(j:Nat) w,[iV K.1,iV K.2.1,.slice ai (K.2.2).length aj][j]? =some w→f58[Int.toNat (bK)*3+j]? =some w:=aH;refine JB.V 8 true rfl rfl (fun ρ h s' hs=>Yl.A8 ab.2 a5 underlying130 (Ah type133) (h _ _ rfl) (h _ _ rfl)) ?_;refine JB.val (v:= .agg #[iV K.1,iV K.2.1,.slice ai (K.2.2).length aj]) 9 false rfl (by decide+kernel) rfl rfl rfl (fun ρ h s' hs=>have hs:=hs rfl;Yl.Bj (vs:= [iV K.1,iV K.2.1,.slice ai (K.2.2).length aj]) (Ao underlying133) (Ah type133) (h _ _ rfl) (fun q w al=>by rw [Bb rfl];exact Bd 0 ay rfl (by simp [AD]) hs (aH q w al))) ?_;refine JB.mv 10 rfl rfl ?_;refine JB.mv 11 rfl rfl ?_;obtain⟨U,az,bP⟩:=bs bN;obtain⟨_,⟨_,_,rfl,rfl,⟨_,_,rfl,rfl,⟨am,an,rfl,bQ⟩⟩⟩,aI⟩:=WL.at (ab.mono ao) az;replace aI:∀(j:Nat) w,[iV U.1,iV U.2.1,.slice am (U.2.2).length an][j]? =some w→f58[Int.toNat (aa.1)*3+j]? =some w:=aI;refine JB.V 12 true rfl rfl (fun ρ h s' hs=>Yl.A8 ab.2 az underlying130 (Ah type133) (h _ _ rfl) (h _ _ rfl)) ?_;refine JB.val (v:= .agg #[iV U.1,iV U.2.1,.slice am (U.2.2).length an]) 13 false rfl (by decide+kernel) rfl rfl rfl (fun ρ h s' hs=>have hs:=hs rfl;Yl.Bj (vs:= [iV U.1,iV U.2.1,.slice am (U.2.2).length an]) (Ao underlying133) (Ah type133) (h _ _ rfl) (fun q w al=>by rw [Bb rfl];exact Bd 0 ay rfl (by simp [AD]) hs (aI q w al))) ?_;refine JB.V 14 true rfl rfl (fun ρ h s' hs=>Yl.A8 ab.2 az underlying130 (Ah type133) (h _ _ rfl) (h _ _ rfl)) ?_;have au:=WL.put (x':=K) (ws':= [iV K.1,iV K.2.1,.slice ai (K.2.2).length aj]) (ab.mono ao) ab.2 az ⟨_,_,rfl,rfl,⟨_,_,rfl,rfl,⟨_,_,rfl,bO⟩⟩⟩;refine JB.store (v:= .agg #[iV K.1,iV K.2.1,.slice ai (K.2.2).length aj]) (off:=Int.toNat (aa.1)*3) 15 0 (by decide+kernel) (by decide+kernel) rfl rfl rfl ay rfl rfl (Ah type133) (by simp [Value.cells,Bx]) rfl au.2 fun bR=>?_;obtain⟨aJ,aK,bS⟩:=bs bP;obtain⟨_,⟨_,_,rfl,rfl,⟨_,_,rfl,rfl,⟨bT,bU,rfl,cf⟩⟩⟩,a6⟩:=WL.at au.1 aK;replace a6:∀(j:Nat) w,[iV aJ.1,iV aJ.2.1,.slice bT (aJ.2.2).length bU][j]? =some w→(AN f58 (Int.toNat (aa.1)*3) [iV K.1,iV K.2.1,.slice ai (K.2.2).length aj])[Int.toNat (ar)*3+j]? =some w:=a6;refine JB.V 16 true rfl rfl (fun ρ h s' hs=>Yl.A8 (au.1).2 aK underlying130 (Ah type133) (h _ _ rfl) (h _ _ rfl)) ?_;have a7:=WL.put (x':=U) (ws':= [iV U.1,iV U.2.1,.slice am (U.2.2).length an]) au.1 (au.1).2 aK ⟨_,_,rfl,rfl,⟨_,_,rfl,rfl,⟨_,_,rfl,bQ⟩⟩⟩;refine JB.store (v:= .agg #[iV U.1,iV U.2.1,.slice am (U.2.2).length an]) (off:=Int.toNat (ar)*3) 17 0 (by decide+kernel) (by decide+kernel) rfl rfl rfl bR rfl rfl (Ah type133) (by simp [Value.cells,Bx]) rfl a7.2 fun bV=>?_;refine JB.fin (by decide+kernel) ?_;refine JS.norm (S':= [[(O,.cells (AN (AN f58 (Int.toNat (aa.1)*3) [iV K.1,iV K.2.1,.slice ai (K.2.2).length aj]) (Int.toNat (ar)*3) [iV U.1,iV U.2.1,.slice am (U.2.2).length an]) 133 (0,0))]]) rfl bV fun bW=>?_;obtain⟨bX,bY,bZ⟩:=bs bS;refine JL.go 3 rfl ?_;refine JL.Y rfl (fun ρ h=>Yl.A4 (h _ _ rfl) (h _ _ rfl) bY) ?_;refine JL.go 2 rfl ?_;obtain rfl:=oi bZ;exact JL.kw (bH _ _ (bX,((aa.2.set (Int.toNat aa.1) K).set (Int.toNat ar) U)) ⟨aw,(AN (AN f58 (Int.toNat (aa.1)*3) [iV K.1,iV K.2.1,.slice ai (K.2.2).length aj]) (Int.toNat (ar)*3) [iV U.1,iV U.2.1,.slice am (U.2.2).length an]),rfl,rfl,(aZ.trans ao),bW,a7.1⟩ aF) rfl
     ·have a8:=a3;rw [if_neg (by rw [aG];exact Bool.false_ne_true)] at a8;refine JL.exit rfl ?_;obtain rfl:=oi a8;obtain rfl:=bG _ aF;exact JL.kw (bF _ _ ⟨aw,f58,rfl,rfl,(aZ.trans ao),ay,(ab.mono ao)⟩) rfl
    ·intro a9;refine Aw.B5 (q:=p1<aa.1) (i:=21) rfl (fun aL=>?_) (fun aL=>?_)
     ·have ba:=a2;rw [if_pos aL] at ba;refine JG.mv 4 ht rfl rfl ?_;refine JG.mv 5 ht rfl rfl ?_;refine JG.mv 6 ht rfl rfl ?_;obtain⟨ag,bb,b0⟩:=bs ba;obtain⟨_,⟨_,_,rfl,rfl,⟨_,_,rfl,rfl,⟨aM,aN,rfl,b1⟩⟩⟩,aO⟩:=WL.at ab bb;replace aO:∀(j:Nat) w,[iV ag.1,iV ag.2.1,.slice aM (ag.2.2).length aN][j]? =some w→f58[Int.toNat (aa.1)*3+j]? =some w:=aO;refine JG.V 7 ht rfl rfl (fun ρ h s' hs=>Yl.A8 (ab).2 bb underlying130 (Ah type133) (h _ _ rfl) (h _ _ rfl)) ?_;refine JG.V 8 ht rfl rfl (fun ρ h s' hs=>Yl.Bj (vs:= [iV ag.1,iV ag.2.1,.slice aM (ag.2.2).length aN]) (Ao underlying133) (Ah type133) (h _ _ rfl) (fun q w al=>by rw [Bb rfl];exact Bd 0 aq rfl (by simp [AD]) hs (aO q w al))) ?_;refine JG.mv 9 ht rfl rfl ?_;refine JG.mv 10 ht rfl rfl ?_;obtain⟨b2,b3,b4⟩:=bs b0;refine JG.V 11 ht rfl rfl (fun ρ h s' hs=>Yl.A4 (h _ _ rfl) (h _ _ rfl) b3) ?_;obtain⟨ah,bc,b5⟩:=bs b4;obtain⟨_,⟨_,_,rfl,rfl,⟨_,_,rfl,rfl,⟨aP,aQ,rfl,b6⟩⟩⟩,aR⟩:=WL.at ab bc;replace aR:∀(j:Nat) w,[iV ah.1,iV ah.2.1,.slice aP (ah.2.2).length aQ][j]? =some w→f58[Int.toNat (b2)*3+j]? =some w:=aR;refine JG.V 12 ht rfl rfl (fun ρ h s' hs=>Yl.A8 (ab).2 bc underlying130 (Ah type133) (h _ _ rfl) (h _ _ rfl)) ?_;refine JG.V 13 ht rfl rfl (fun ρ h s' hs=>Yl.Bj (vs:= [iV ah.1,iV ah.2.1,.slice aP (ah.2.2).length aQ]) (Ao underlying133) (Ah type133) (h _ _ rfl) (fun q w al=>by rw [Bb rfl];exact Bd 0 aq rfl (by simp [AD]) hs (aR q w al))) ?_;obtain⟨cg,b7,b8⟩:=bs b5;refine JG.Fq (i:=14) ⟨⟨0,_,rfl⟩,trivial⟩ (vs:= [.agg #[iV ag.1,iV ag.2.1,.slice aM (ag.2.2).length aN],.agg #[iV ah.1,iV ah.2.1,.slice aP (ah.2.2).length aQ]]) (Eu b1 b6 b7) (by decide+kernel) rfl rfl rfl rfl (Ay func134 rfl) rfl aq ?_;rintro _ b9 _ ca ⟨rfl,rfl⟩ cb;refine JG.mv 15 ht rfl rfl ?_;refine JG.mv 16 ht rfl rfl ?_;obtain rfl:=oi b8;refine Aw.B6 ?_ (a9 _ _ ⟨b9,rfl,rfl,ca,cb⟩);exact⟨rfl,rfl,rfl,rfl,rfl,rfl,rfl,trivial⟩
     ·have bd:=a2;rw [if_neg aL] at bd;refine JG.mv 4 ht rfl rfl ?_;refine JG.mv 5 ht rfl rfl ?_;refine JG.mv 6 ht rfl rfl ?_;refine JG.mv 7 ht rfl rfl ?_;refine JG.mv 8 ht rfl rfl ?_;refine JG.mv 9 ht rfl rfl ?_;refine JG.mv 10 ht rfl rfl ?_;refine JG.mv 11 ht rfl rfl ?_;refine JG.mv 12 ht rfl rfl ?_;refine JG.mv 13 ht rfl rfl ?_;refine JG.mv 14 ht rfl rfl ?_;refine JG.mv 15 ht rfl rfl ?_;refine JG.mv 16 ht rfl rfl ?_;obtain rfl:=oi bd;refine Aw.B6 ?_ (a9 _ _ ⟨ap,rfl,rfl,(Le.refl _),aq⟩);exact⟨rfl,rfl,rfl,rfl,rfl,rfl,rfl,trivial⟩
  ·have bf:=aD;rw [if_neg aE] at bf;refine JL.exit rfl ?_;obtain rfl:=oi bf;obtain rfl:=bu _ aC;exact JL.kw (br _ _ ⟨ak,f25,rfl,rfl,aU,aV,aW⟩) rfl
def f200(fuel:Nat)(p0:List (Int×Int×(List (Int×(List Int)×Nat))))(p1:Int)(p2:Int)(p3:Int):Option (Int×Int×Int):=
 (ix p0 (p2)).bind fun K=>
 (ix p0 (p1)).bind fun O=>
 (f134 fuel K O).bind fun U=>
 if U<0 then(
  (Av (p3+1)).bind fun W=>
  some (p2,p1,W)
 ) else(
  some (p1,p2,p3)
 )
theorem J4{U:Nat}{am:Nat}{an:Nat}{W:Array Value}{Z:Nat}{p0:List (Int×Int×(List (Int×(List Int)×Nat)))}{p1:Int}{p2:Int}{p3:Int}(hW:WL 133 (rP rI (rP rI (rL (rP rI (rP (rL rI) (rN .u16)))))) E U am an W p0){fuel:Nat}{r:Int×Int×Int}(ao:f200 fuel p0 p1 p2 p3=some r):Au J 200 [.slice (some ⟨U,0,none⟩) an am,iV p1,iV p2,.pointer (some ⟨Z,0,none⟩),(.func (.func 134) #[] #[])] E ([(Z,.cells #[iV p3] 3 (0,0))]++ [(U,.cells W 133 (0,0))]) (fun w E' B'=>w= .tuple #[iV r.1,iV r.2.1]∧B'= [(Z,.cells #[iV r.2.2] 3 (0,0))]++ [(U,.cells W 133 (0,0))]):=by
 refine Au.en func200 rfl rfl fun Q aL cs H aa ap=>?_;unfold f200 at ao;refine JS.split (S':= [[(Z,.cells #[iV p3] 3 (0,0))],[(U,.cells W 133 (0,0))]]) (by simp) aa fun aa=>?_;refine JL.go 7 rfl ?_;refine JG.B8 9 [U] ⟨⟨1,_,rfl⟩,trivial⟩ aa mixed rfl (by decide+kernel) fun ht=>?_;refine JG.mv 0 ht rfl rfl ?_;refine JG.mv 1 ht rfl rfl ?_;refine JG.mv 2 ht rfl rfl ?_;obtain⟨K,aq,aA⟩:=bs ao;obtain⟨_,⟨_,_,rfl,rfl,⟨_,_,rfl,rfl,⟨ab,c4,rfl,aB⟩⟩⟩,ae⟩:=WL.at hW aq;replace ae:∀(j:Nat) w,[iV K.1,iV K.2.1,.slice ab (K.2.2).length c4][j]? =some w→W[Int.toNat (p2)*3+j]? =some w:=ae;refine JG.V 3 ht rfl rfl (fun ρ h s' hs=>Yl.A8 (hW).2 aq underlying130 (Ah type133) (h _ _ rfl) (h _ _ rfl)) ?_;refine JG.V 4 ht rfl rfl (fun ρ h s' hs=>Yl.Bj (vs:= [iV K.1,iV K.2.1,.slice ab (K.2.2).length c4]) (Ao underlying133) (Ah type133) (h _ _ rfl) (fun q w ag=>by rw [Bb rfl];exact Bd 1 aa rfl (by simp [AD]) hs (ae q w ag))) ?_;refine JG.mv 5 ht rfl rfl ?_;refine JG.mv 6 ht rfl rfl ?_;obtain⟨O,ar,aC⟩:=bs aA;obtain⟨_,⟨_,_,rfl,rfl,⟨_,_,rfl,rfl,⟨ah,ai,rfl,aD⟩⟩⟩,aj⟩:=WL.at hW ar;replace aj:∀(j:Nat) w,[iV O.1,iV O.2.1,.slice ah (O.2.2).length ai][j]? =some w→W[Int.toNat (p1)*3+j]? =some w:=aj;refine JG.V 7 ht rfl rfl (fun ρ h s' hs=>Yl.A8 (hW).2 ar underlying130 (Ah type133) (h _ _ rfl) (h _ _ rfl)) ?_;refine JG.V 8 ht rfl rfl (fun ρ h s' hs=>Yl.Bj (vs:= [iV O.1,iV O.2.1,.slice ah (O.2.2).length ai]) (Ao underlying133) (Ah type133) (h _ _ rfl) (fun q w ag=>by rw [Bb rfl];exact Bd 1 aa rfl (by simp [AD]) hs (aj q w ag))) ?_;refine Aw.leaf (tail:= [9,10]) (by decide+kernel) (fun t=>A3 (by decide+kernel) (A3 (by decide+kernel) BL) t) ?_;obtain⟨aE,aF,au⟩:=bs aC;refine JS.Gj (vs:= [.agg #[iV K.1,iV K.2.1,.slice ab (K.2.2).length c4],.agg #[iV O.1,iV O.2.1,.slice ah (O.2.2).length ai]]) (Eu aB aD aF) rfl rfl rfl rfl (Ay func134 rfl) rfl aa ?_;rintro _ aM _ av ⟨rfl,rfl⟩ ak;refine JL.go 2 rfl ?_;refine JL.ifs (p:=aE<0) rfl (fun al=>?_) (fun al=>?_)
 ·have aw:=au;rw [if_pos al] at aw;refine JL.go 4 rfl ?_;refine JL.Y (v:=iV p3) rfl (fun ρ h=>Yl.load (Ao underlying3) (h _ _ rfl) (Cs (j:=0) (off:=0) ak rfl rfl)) ?_;obtain⟨ay,aG,aH⟩:=bs aw;refine JL.Y rfl (fun ρ h=>Yl.A0 (h _ _ rfl) (h _ _ rfl) aG) ?_;refine JL.go 1 rfl ?_;refine JS.st (v:=iV ay) (off:=0) 0 ak (Ah type3) rfl rfl rfl rfl fun aI=>?_;refine JL.go 8 rfl ?_;refine JS.norm (S':= [[(Z,.cells #[iV ay] 3 (0,0))],[(U,.cells W 133 (0,0))],[]]) rfl aI fun aJ=>?_;obtain rfl:=oi aH;refine JL.rt func200 rfl rfl ?_;exact ap _ _ _ _ av rfl ⟨rfl,(by first | rfl | simp | (simp [Value.cells]))⟩ aJ
 ·have az:=au;rw [if_neg al] at az;refine JL.go 8 rfl ?_;refine JS.norm (S':= [[(Z,.cells #[iV p3] 3 (0,0))],[(U,.cells W 133 (0,0))],[]]) rfl ak fun aK=>?_;obtain rfl:=oi az;refine JL.rt func200 rfl rfl ?_;exact ap _ _ _ _ av rfl ⟨rfl,(by first | rfl | simp | (simp [Value.cells]))⟩ aK
def f197(fuel:Nat)(p0:List (Int×Int×(List (Int×(List Int)×Nat))))(p1:Int)(p2:Int)(p3:Int)(p4:Int):Option (Int×Int):=
 (f200 fuel p0 p1 p2 p4).bind fun K=>
 (f200 fuel p0 K.2.1 p3 K.2.2).bind fun O=>
 (f200 fuel p0 K.1 O.1 O.2.2).bind fun U=>
 some U.2
theorem RY{K:Nat}{aa:Nat}{ab:Nat}{O:Array Value}{U:Nat}{p0:List (Int×Int×(List (Int×(List Int)×Nat)))}{p1:Int}{p2:Int}{p3:Int}{p4:Int}(hW:WL 133 (rP rI (rP rI (rL (rP rI (rP (rL rI) (rN .u16)))))) E K aa ab O p0){fuel:Nat}{r:Int×Int}(ae:f197 fuel p0 p1 p2 p3 p4=some r):Au J 197 [.slice (some ⟨K,0,none⟩) ab aa,iV p1,iV p2,iV p3,.pointer (some ⟨U,0,none⟩),(.func (.func 134) #[] #[])] E ([(U,.cells #[iV p4] 3 (0,0))]++ [(K,.cells O 133 (0,0))]) (fun w E' B'=>w=iV r.1∧B'= [(U,.cells #[iV r.2] 3 (0,0))]++ [(K,.cells O 133 (0,0))]):=by
 refine Au.en func197 rfl rfl fun Q aI cs H W ai=>?_;unfold f197 at ae;refine JS.split (S':= [[(U,.cells #[iV p4] 3 (0,0))],[(K,.cells O 133 (0,0))]]) (by simp) W fun W=>?_;obtain⟨aj,ak,al⟩:=bs ae;refine JL.go 11 rfl ?_;refine JS.merge 0 1 rfl rfl W fun am=>?_;refine JS.Bv 0 (J4 hW ak) rfl rfl (Ay func200 rfl) am rfl ?_;rintro _ aJ _ Z ⟨rfl,rfl⟩ an;refine JS.part 0 rfl an fun ao=>?_;refine JS.norm (S':= [[(U,.cells #[iV aj.2.2] 3 (0,0))],[],[(K,.cells O 133 (0,0))]]) rfl ao fun ap=>?_;obtain⟨aq,ar,au⟩:=bs al;refine JL.go 13 rfl ?_;refine JS.merge 0 2 rfl rfl ap fun av=>?_;refine JS.Bv 0 (J4 (hW.mono Z) ar) rfl rfl (Ay func200 rfl) av rfl ?_;rintro _ aK _ ag ⟨rfl,rfl⟩ aw;refine JS.part 0 rfl aw fun ay=>?_;refine JS.norm (S':= [[(U,.cells #[iV aq.2.2] 3 (0,0))],[],[],[(K,.cells O 133 (0,0))]]) rfl ay fun az=>?_;obtain⟨ah,aA,aB⟩:=bs au;refine JL.go 13 rfl ?_;refine JS.merge 0 3 rfl rfl az fun aC=>?_;refine JS.Bv 0 (J4 (hW.mono (Z.trans ag)) aA) rfl rfl (Ay func200 rfl) aC rfl ?_;rintro _ aL _ aD ⟨rfl,rfl⟩ aE;refine JS.part 0 rfl aE fun aF=>?_;refine JS.norm (S':= [[(U,.cells #[iV ah.2.2] 3 (0,0))],[],[],[],[(K,.cells O 133 (0,0))]]) rfl aF fun aG=>?_;refine JL.go 11 rfl ?_;refine JS.norm (S':= [[(U,.cells #[iV ah.2.2] 3 (0,0))],[],[],[],[(K,.cells O 133 (0,0))]]) rfl aG fun aH=>?_;obtain rfl:=oi aB;refine JL.rt func197 rfl rfl ?_;exact ai _ _ _ _ ((Z.trans ag).trans aD) rfl ⟨rfl,(by first | rfl | simp | (simp [Value.cells]))⟩ aH
def f181(fuel:Nat)(p0:List (Int×Int×(List (Int×(List Int)×Nat))))(p1:Int)(p2:Int):Option (Int×Int):=
 (Av (p2 - p1)).bind fun K=>
 (EY (K) (4)).bind fun W=>
 (Av (W*1)).bind fun Z=>
 (Av (p1+Z)).bind fun aa=>
 (EY (K) (4)).bind fun ab=>
 (Av (ab*2)).bind fun ae=>
 (Av (p1+ae)).bind fun U=>
 (EY (K) (4)).bind fun ag=>
 (Av (ag*3)).bind fun ah=>
 (Av (p1+ah)).bind fun ai=>
 Option.bind (
  if 8≤K then(
   Option.bind (
    if 50≤K then(
     none
    ) else(
     some ()
    )
   ) fun ak=>
   (f197 fuel p0 aa U ai 0).bind fun aj=>
   some aj
  ) else(
   some (U,0)
  )
 ) fun O=>
 if O.2=0 then(
  some (O.1,1)
 ) else(
  if O.2=12 then(
   some (O.1,2)
  ) else(
   some (O.1,0)
  )
 )
theorem Nr{K:Nat}{aa:Nat}{ab:Nat}{O:Array Value}{p0:List (Int×Int×(List (Int×(List Int)×Nat)))}{p1:Int}{p2:Int}(hW:WL 133 (rP rI (rP rI (rL (rP rI (rP (rL rI) (rN .u16)))))) E K aa ab O p0){fuel:Nat}{r:Int×Int}(am:f181 fuel p0 p1 p2=some r):Au J 181 [.slice (some ⟨K,0,none⟩) ab aa,iV p1,iV p2,(.func (.func 134) #[] #[])] E [(K,.cells O 133 (0,0))] (fun w E' B'=>w= .tuple #[iV r.1,iV r.2]∧B'= [(K,.cells O 133 (0,0))]):=by
 refine Au.en func181 rfl rfl fun Q bo cs H aG ae=>?_;unfold f181 at am;obtain⟨an,aH,aI⟩:=bs am;refine JL.go 9 rfl ?_;refine JL.Y rfl (fun ρ h=>Yl.A4 (h _ _ rfl) (h _ _ rfl) aH) ?_;refine JL.go 4 rfl ?_;refine JS.alloc rfl rfl rfl aG (AM type3) fun U ao=>?_;obtain⟨aJ,aK,aL⟩:=bs aI;refine JL.go 5 rfl ?_;refine JL.Y (v:=iV aJ) rfl (fun ρ h=>Yl.HG (h _ _ rfl) (h _ _ rfl) aK) ?_;obtain⟨bp,aM,aN⟩:=bs aL;refine JL.Y rfl (fun ρ h=>Yl.mulC (h _ _ rfl) (h _ _ rfl) aM) ?_;obtain⟨aO,aP,aQ⟩:=bs aN;refine JL.Y rfl (fun ρ h=>Yl.A0 (h _ _ rfl) (h _ _ rfl) aP) ?_;obtain⟨aR,aS,aT⟩:=bs aQ;refine JL.go 6 rfl ?_;refine JL.Y (v:=iV aR) rfl (fun ρ h=>Yl.HG (h _ _ rfl) (h _ _ rfl) aS) ?_;obtain⟨bq,aU,aV⟩:=bs aT;refine JL.Y rfl (fun ρ h=>Yl.mulC (h _ _ rfl) (h _ _ rfl) aU) ?_;obtain⟨aW,aX,aY⟩:=bs aV;refine JL.Y rfl (fun ρ h=>Yl.A0 (h _ _ rfl) (h _ _ rfl) aX) ?_;obtain⟨aZ,a0,a1⟩:=bs aY;refine JL.go 6 rfl ?_;refine JL.Y (v:=iV aZ) rfl (fun ρ h=>Yl.HG (h _ _ rfl) (h _ _ rfl) a0) ?_;obtain⟨br,a2,a3⟩:=bs a1;refine JL.Y rfl (fun ρ h=>Yl.mulC (h _ _ rfl) (h _ _ rfl) a2) ?_;obtain⟨a4,a5,a6⟩:=bs a3;refine JL.Y rfl (fun ρ h=>Yl.A0 (h _ _ rfl) (h _ _ rfl) a5) ?_;obtain⟨W,ap,aq⟩:=bs a6;refine JL.go 8 rfl ?_;refine JL.join (fun L s=>∃(ar:LH),Jm E H ar [[(K,.cells O 133 (0,0))],[(U,.cells #[iV W.2] 3 (0,0))]] [(11,.pointer (some ⟨U,0,none⟩)),(13,iV W.1)] L s) ?_ ?_
 ·rintro _ _ ⟨ar,rfl,rfl,ag,Z⟩;refine JL.go 2 rfl ?_;refine JL.Y (v:=iV W.2) rfl (fun ρ h=>Yl.load (Ao underlying3) (h _ _ rfl) (Cs (j:=1) (off:=0) Z rfl rfl)) ?_;refine JL.go 7 rfl ?_;refine JL.ifs (p:=W.2=0) rfl (fun ah=>?_) (fun ah=>?_)
  ·have au:=aq;rw [if_pos ah] at au;refine JL.go 6 rfl ?_;refine JS.drop 1 Z rfl fun a7=>?_;obtain rfl:=oi au;refine JL.rt func181 rfl rfl ?_;exact ae _ _ _ _ ag rfl ⟨rfl,(by first | rfl | simp | (simp [Value.cells]))⟩ a7
  ·have ai:=aq;rw [if_neg ah] at ai;refine JL.go 5 rfl ?_;refine JL.ifs (p:=W.2=12) rfl (fun aj=>?_) (fun aj=>?_)
   ·have av:=ai;rw [if_pos aj] at av;refine JL.go 6 rfl ?_;refine JS.drop 1 Z rfl fun a8=>?_;obtain rfl:=oi av;refine JL.rt func181 rfl rfl ?_;exact ae _ _ _ _ ag rfl ⟨rfl,(by first | rfl | simp | (simp [Value.cells]))⟩ a8
   ·have aw:=ai;rw [if_neg aj] at aw;refine JL.go 6 rfl ?_;refine JS.drop 1 Z rfl fun a9=>?_;obtain rfl:=oi aw;refine JL.rt func181 rfl rfl ?_;exact ae _ _ _ _ ag rfl ⟨rfl,(by first | rfl | simp | (simp [Value.cells]))⟩ a9
 ·intro ay;refine JL.ifs (p:=8≤an) rfl (fun ak=>?_) (fun ak=>?_)
  ·have az:=ap;rw [if_pos ak] at az;obtain⟨bu,aA,ba⟩:=bs az;refine JL.go 6 rfl ?_;refine JL.join (fun L s=>∃(aB:LH),Jm E H aB [[(K,.cells O 133 (0,0))],[(U,.cells #[iV 0] 3 (0,0))]] [(0,.slice (some ⟨K,0,none⟩) ab aa),(3,(.func (.func 134) #[] #[])),(8,iV 0),(9,iV 0),(11,.pointer (some ⟨U,0,none⟩)),(12,iV aO),(13,iV aW),(14,iV a4)] L s) ?_ ?_
   ·rintro _ _ ⟨aB,rfl,rfl,aC,bb⟩;obtain⟨bc,bd,bf⟩:=bs ba;refine JL.go 6 rfl ?_;refine JS.merge 1 0 rfl rfl bb fun bg=>?_;refine JS.Bv 1 (RY (hW.mono aC) bd) rfl rfl (Ay func197 rfl) bg rfl ?_;rintro _ bh _ bi ⟨rfl,rfl⟩ bj;refine JS.part 1 rfl bj fun bk=>?_;refine JS.norm (S':= [[],[(U,.cells #[iV bc.2] 3 (0,0))],[(K,.cells O 133 (0,0))]]) rfl bk fun bl=>?_;refine JL.go 2 rfl ?_;refine JS.swap 1 2 rfl rfl rfl bl fun bm=>?_;obtain rfl:=oi bf;exact JL.kw (ay _ _ ⟨bh,rfl,rfl,(aC.trans bi),bm⟩) rfl
   ·intro bn;refine JL.ifs (p:=50≤an) rfl (fun al=>?_) (fun al=>?_)
    ·have aD:=aA;rw [if_pos al] at aD;refine JL.go 5 rfl ?_;cases aD
    ·have aE:=aA;rw [if_neg al] at aE;refine JL.skip ?_;obtain rfl:=oi aE;exact JL.kw (bn _ _ ⟨E,rfl,rfl,(Le.refl _),ao⟩) rfl
  ·have aF:=ap;rw [if_neg ak] at aF;refine JL.skip ?_;obtain rfl:=oi aF;exact JL.kw (ay _ _ ⟨E,rfl,rfl,(Le.refl _),ao⟩) rfl
end Pal
namespace Pal
open Go Go.Conc Go.Proofs
open Go.Proofs.Tryz
variable {J:Judge Tryz.prog}{E:LH}
def Fi(fuel:Nat)(K:Int×Int×(List (Int×Int×(List (Int×(List Int)×Nat))))):Option (AV (Int×Int×(List (Int×Int×(List (Int×(List Int)×Nat))))) ((List (Int×Int×(List (Int×(List Int)×Nat)))))):=
 if K.1<K.2.1 then(
  (ix K.2.2 (K.2.1)).bind fun O=>
  (ix K.2.2 (K.1)).bind fun U=>
  (Av (K.1+1)).bind fun W=>
  (Av (K.2.1 - 1)).bind fun Z=>
  some (.more (W,Z,((K.2.2.set (Int.toNat K.1) O).set (Int.toNat K.2.1) U)))
 ) else(
  some (.done K.2.2)
 )
def f182(fuel:Nat)(p0:List (Int×Int×(List (Int×(List Int)×Nat))))(p1:Int)(p2:Int):Option ((List (Int×Int×(List (Int×(List Int)×Nat))))):=
 (Av (p2 - 1)).bind fun K=>
 Option.bind (iter (Fi fuel) fuel (p1,K,p0)) fun O=>
 some O
theorem M4{W:Nat}{aa:Nat}{ab:Nat}{an:Array Value}{p0:List (Int×Int×(List (Int×(List Int)×Nat)))}{p1:Int}{p2:Int}(hW:WL 133 (rP rI (rP rI (rL (rP rI (rP (rL rI) (rN .u16)))))) E W aa ab an p0){fuel:Nat}{r:(List (Int×Int×(List (Int×(List Int)×Nat))))}(ay:f182 fuel p0 p1 p2=some r):Au J 182 [.slice (some ⟨W,0,none⟩) ab aa,iV p1,iV p2,(.func (.func 134) #[] #[])] E [(W,.cells an 133 (0,0))] (fun w E' B'=>∃(az:Array Value),w= .tuple #[]∧B'= [(W,.cells az 133 (0,0))]∧WL 133 (rP rI (rP rI (rL (rP rI (rP (rL rI) (rN .u16)))))) E' W aa ab az (r)):=by
 refine Au.en func182 rfl rfl fun Q a6 cs H aF aG=>?_;unfold f182 at ay;obtain⟨aH,aI,aJ⟩:=bs ay;refine JL.go 8 rfl ?_;refine JL.Y rfl (fun ρ h=>Yl.A4 (h _ _ rfl) (h _ _ rfl) aI) ?_;obtain⟨aK,aL,aM⟩:=bs aJ;refine JL.go 2 rfl ?_;refine JL.join (fun L s=>∃(ao:LH) (f17:Array Value),Jn E H ao [[(W,.cells f17 133 (0,0))]] [] L s (WL 133 (rP rI (rP rI (rL (rP rI (rP (rL rI) (rN .u16)))))) ao W aa ab f17 (aK))) ?_ ?_
 ·rintro _ _ ⟨ao,f17,rfl,rfl,aN,aO,aP⟩;obtain rfl:=oi aM;refine JL.fin (v:= .tuple #[]) rfl rfl (Bm.list func182 rfl (vs:= []) trivial) ?_;exact aG _ _ _ _ aN rfl ⟨f17,rfl,(by first | rfl | simp | (simp [Value.cells])),aP⟩ aO
 ·intro aQ;refine JL.block ?_;refine JL.wk [(0,.slice (some ⟨W,0,none⟩) ab aa),(8,iV p1),(9,iV aH)] rfl ?_;refine JL.Bi aL (fun L s U=>∃(aj:LH) (f25:Array Value),Jn E H aj [[(W,.cells f25 133 (0,0))]] [(0,.slice (some ⟨W,0,none⟩) ab aa),(8,iV U.1),(9,iV U.2.1)] L s (WL 133 (rP rI (rP rI (rL (rP rI (rP (rL rI) (rN .u16)))))) aj W aa ab f25 (U.2.2))) ⟨E,an,rfl,rfl,(Le.refl _),aF,hW⟩ ?_;rintro _ _ U ⟨aj,f25,rfl,rfl,aA,ak,Z⟩ aR ⟨a7,ap⟩ aS;have aq:=ap;unfold Fi at aq;refine JL.go 7 rfl ?_;refine JL.ifs (p:=U.1<U.2.1) rfl (fun ar=>?_) (fun ar=>?_)
  ·have aB:=aq;rw [if_pos ar] at aB;refine JL.go 3 rfl ?_;refine JB.draw [13,15] [W] mixed rfl ?_;refine JB.mv 0 rfl rfl ?_;refine JB.mv 1 rfl rfl ?_;refine JB.mv 2 rfl rfl ?_;refine JB.mv 3 rfl rfl ?_;refine JB.mv 4 rfl rfl ?_;refine JB.mv 5 rfl rfl ?_;obtain⟨K,al,aT⟩:=bs aB;obtain⟨_,⟨_,_,rfl,rfl,⟨_,_,rfl,rfl,⟨ae,ag,rfl,aU⟩⟩⟩,au⟩:=WL.at Z al;replace au:∀(j:Nat) w,[iV K.1,iV K.2.1,.slice ae (K.2.2).length ag][j]? =some w→f25[Int.toNat (U.2.1)*3+j]? =some w:=au;refine JB.V 6 true rfl rfl (fun ρ h s' hs=>Yl.A8 Z.2 al underlying130 (Ah type133) (h _ _ rfl) (h _ _ rfl)) ?_;refine JB.val (v:= .agg #[iV K.1,iV K.2.1,.slice ae (K.2.2).length ag]) 7 false rfl (by decide+kernel) rfl rfl rfl (fun ρ h s' hs=>have hs:=hs rfl;Yl.Bj (vs:= [iV K.1,iV K.2.1,.slice ae (K.2.2).length ag]) (Ao underlying133) (Ah type133) (h _ _ rfl) (fun q w av=>by rw [Bb rfl];exact Bd 0 ak rfl (by simp [AD]) hs (au q w av))) ?_;refine JB.mv 8 rfl rfl ?_;refine JB.mv 9 rfl rfl ?_;obtain⟨O,am,aV⟩:=bs aT;obtain⟨_,⟨_,_,rfl,rfl,⟨_,_,rfl,rfl,⟨ah,ai,rfl,aW⟩⟩⟩,aw⟩:=WL.at Z am;replace aw:∀(j:Nat) w,[iV O.1,iV O.2.1,.slice ah (O.2.2).length ai][j]? =some w→f25[Int.toNat (U.1)*3+j]? =some w:=aw;refine JB.V 10 true rfl rfl (fun ρ h s' hs=>Yl.A8 Z.2 am underlying130 (Ah type133) (h _ _ rfl) (h _ _ rfl)) ?_;refine JB.val (v:= .agg #[iV O.1,iV O.2.1,.slice ah (O.2.2).length ai]) 11 false rfl (by decide+kernel) rfl rfl rfl (fun ρ h s' hs=>have hs:=hs rfl;Yl.Bj (vs:= [iV O.1,iV O.2.1,.slice ah (O.2.2).length ai]) (Ao underlying133) (Ah type133) (h _ _ rfl) (fun q w av=>by rw [Bb rfl];exact Bd 0 ak rfl (by simp [AD]) hs (aw q w av))) ?_;refine JB.V 12 true rfl rfl (fun ρ h s' hs=>Yl.A8 Z.2 am underlying130 (Ah type133) (h _ _ rfl) (h _ _ rfl)) ?_;have aC:=WL.put (x':=K) (ws':= [iV K.1,iV K.2.1,.slice ae (K.2.2).length ag]) Z Z.2 am ⟨_,_,rfl,rfl,⟨_,_,rfl,rfl,⟨_,_,rfl,aU⟩⟩⟩;refine JB.store (v:= .agg #[iV K.1,iV K.2.1,.slice ae (K.2.2).length ag]) (off:=Int.toNat (U.1)*3) 13 0 (by decide+kernel) (by decide+kernel) rfl rfl rfl ak rfl rfl (Ah type133) (by simp [Value.cells,Bx]) rfl aC.2 fun aX=>?_;refine JB.V 14 true rfl rfl (fun ρ h s' hs=>Yl.A8 Z.2 al underlying130 (Ah type133) (h _ _ rfl) (h _ _ rfl)) ?_;have aD:=WL.put (x':=O) (ws':= [iV O.1,iV O.2.1,.slice ah (O.2.2).length ai]) aC.1 Z.2 al ⟨_,_,rfl,rfl,⟨_,_,rfl,rfl,⟨_,_,rfl,aW⟩⟩⟩;refine JB.store (v:= .agg #[iV O.1,iV O.2.1,.slice ah (O.2.2).length ai]) (off:=Int.toNat (U.2.1)*3) 15 0 (by decide+kernel) (by decide+kernel) rfl rfl rfl aX rfl rfl (Ah type133) (by simp [Value.cells,Bx]) rfl aD.2 fun aY=>?_;refine JB.fin (by decide+kernel) ?_;refine JS.norm (S':= [[(W,.cells (AN (AN f25 (Int.toNat (U.1)*3) [iV K.1,iV K.2.1,.slice ae (K.2.2).length ag]) (Int.toNat (U.2.1)*3) [iV O.1,iV O.2.1,.slice ah (O.2.2).length ai]) 133 (0,0))]]) rfl aY fun aZ=>?_;obtain⟨a0,a1,a2⟩:=bs aV;refine JL.go 3 rfl ?_;refine JL.Y rfl (fun ρ h=>Yl.A0 (h _ _ rfl) (h _ _ rfl) a1) ?_;obtain⟨a3,a4,a5⟩:=bs a2;refine JL.go 4 rfl ?_;refine JL.Y rfl (fun ρ h=>Yl.A4 (h _ _ rfl) (h _ _ rfl) a4) ?_;refine JL.go 3 rfl ?_;obtain rfl:=oi a5;exact JL.kw (aS _ _ (a0,a3,((U.2.2.set (Int.toNat U.1) K).set (Int.toNat U.2.1) O)) ⟨aj,(AN (AN f25 (Int.toNat (U.1)*3) [iV K.1,iV K.2.1,.slice ae (K.2.2).length ag]) (Int.toNat (U.2.1)*3) [iV O.1,iV O.2.1,.slice ah (O.2.2).length ai]),rfl,rfl,aA,aZ,aD.1⟩ ap) rfl
  ·have aE:=aq;rw [if_neg ar] at aE;refine JL.exit rfl ?_;obtain rfl:=oi aE;obtain rfl:=aR _ ap;exact JL.kw (aQ _ _ ⟨aj,f25,rfl,rfl,aA,ak,Z⟩) rfl
def Gd(fuel:Nat)(p2:Int)(O:Int×Int×(List (Int×Int×(List (Int×(List Int)×Nat)))))(K:Int):Option (AV (Int) (Int)):=
 Option.bind (
  if K<p2 then(
   (ix O.2.2 (K)).bind fun U=>
   (Av (K - 1)).bind fun W=>
   (ix O.2.2 (W)).bind fun Z=>
   (f134 fuel U Z).bind fun aa=>
   some (decide (¬(aa<0)))
  ) else(
   some false
  )
 ) fun ab=>
 if ab=true then(
  (Av (K+1)).bind fun ae=>
  some (.more ae)
 ) else(
  some (.done K)
 )
def MS(fuel:Nat)(K:Int×(List (Int×Int×(List (Int×(List Int)×Nat))))):Option (AV (Int×(List (Int×Int×(List (Int×(List Int)×Nat))))) ((List (Int×Int×(List (Int×(List Int)×Nat)))))):=
 if 1≤K.1 then(
  (ix K.2 (K.1)).bind fun O=>
  (Av (K.1 - 1)).bind fun Z=>
  (ix K.2 (Z)).bind fun aa=>
  (f134 fuel O aa).bind fun ab=>
  if ¬(ab<0) then(
   some (.done K.2)
  ) else(
   (Av (K.1 - 1)).bind fun U=>
   (Av (K.1 - 1)).bind fun ae=>
   (ix K.2 (ae)).bind fun W=>
   (ix (K.2.set (Int.toNat K.1) W) (U)).bind fun ah=>
   (Av (K.1 - 1)).bind fun ag=>
   some (.more (ag,((K.2.set (Int.toNat K.1) W).set (Int.toNat U) O)))
  )
 ) else(
  some (.done K.2)
 )
def ME(fuel:Nat)(p2:Int)(K:Int×(List (Int×Int×(List (Int×(List Int)×Nat))))):Option (AV (Int×(List (Int×Int×(List (Int×(List Int)×Nat))))) ((List (Int×Int×(List (Int×(List Int)×Nat)))))):=
 if K.1<p2 then(
  (ix K.2 (K.1)).bind fun O=>
  (Av (K.1 - 1)).bind fun Z=>
  (ix K.2 (Z)).bind fun aa=>
  (f134 fuel O aa).bind fun ab=>
  if ¬(ab<0) then(
   some (.done K.2)
  ) else(
   (Av (K.1 - 1)).bind fun U=>
   (Av (K.1 - 1)).bind fun ae=>
   (ix K.2 (ae)).bind fun W=>
   (ix (K.2.set (Int.toNat K.1) W) (U)).bind fun ah=>
   (Av (K.1+1)).bind fun ag=>
   some (.more (ag,((K.2.set (Int.toNat K.1) W).set (Int.toNat U) O)))
  )
 ) else(
  some (.done K.2)
 )
def Ix(fuel:Nat)(p1:Int)(p2:Int)(K:Int×Int×(List (Int×Int×(List (Int×(List Int)×Nat))))):Option (AV (Int×Int×(List (Int×Int×(List (Int×(List Int)×Nat))))) ((Bool×(List (Int×Int×(List (Int×(List Int)×Nat)))))⊕((List (Int×Int×(List (Int×(List Int)×Nat))))))):=
 if K.2.1<5 then(
  Option.bind (iter (Gd fuel p2 K) fuel K.1) fun O=>
  if O=p2 then(
   some (.done (Sum.inl (true,K.2.2)))
  ) else(
   (Av (p2 - p1)).bind fun ab=>
   if ab<50 then(
    some (.done (Sum.inl (false,K.2.2)))
   ) else(
    (Av (O - 1)).bind fun U=>
    (Av (O - 1)).bind fun ae=>
    (ix K.2.2 (ae)).bind fun W=>
    (ix K.2.2 (O)).bind fun Z=>
    (ix (K.2.2.set (Int.toNat O) W) (U)).bind fun ao=>
    (Av (O - p1)).bind fun ag=>
    Option.bind (
     if 2≤ag then(
      (Av (O - 1)).bind fun ah=>
      Option.bind (iter (MS fuel) fuel (ah,((K.2.2.set (Int.toNat O) W).set (Int.toNat U) Z))) fun ai=>
      some ai
     ) else(
      some ((K.2.2.set (Int.toNat O) W).set (Int.toNat U) Z)
     )
    ) fun aa=>
    (Av (p2 - O)).bind fun aj=>
    Option.bind (
     if 2≤aj then(
      (Av (O+1)).bind fun ak=>
      Option.bind (iter (ME fuel p2) fuel (ak,aa)) fun al=>
      some al
     ) else(
      some aa
     )
    ) fun am=>
    (Av (K.2.1+1)).bind fun an=>
    some (.more (O,an,am))
   )
  )
 ) else(
  some (.done (Sum.inr K.2.2))
 )
def f183(fuel:Nat)(p0:List (Int×Int×(List (Int×(List Int)×Nat))))(p1:Int)(p2:Int):Option (Bool×(List (Int×Int×(List (Int×(List Int)×Nat))))):=
 (Av (p1+1)).bind fun K=>
 Option.bind (iter (Ix fuel p1 p2) fuel (K,0,p0)) fun O=>
 Sum.elim (fun r=>some r) (fun U=>
 some (false,U)
 ) O
theorem Ny{K:Nat}{ab:Nat}{ae:Nat}{bj:Array Value}{p0:List (Int×Int×(List (Int×(List Int)×Nat)))}{p1:Int}{p2:Int}(hW:WL 133 (rP rI (rP rI (rL (rP rI (rP (rL rI) (rN .u16)))))) E K ab ae bj p0){fuel:Nat}{r:Bool×(List (Int×Int×(List (Int×(List Int)×Nat))))}(b6:f183 fuel p0 p1 p2=some r):Au J 183 [.slice (some ⟨K,0,none⟩) ae ab,iV p1,iV p2,(.func (.func 134) #[] #[])] E [(K,.cells bj 133 (0,0))] (fun w E' B'=>∃(b7:Array Value),w= .bool r.1∧B'= [(K,.cells b7 133 (0,0))]∧WL 133 (rP rI (rP rI (rL (rP rI (rP (rL rI) (rN .u16)))))) E' K ab ae b7 (r.2)):=by
 refine Au.en func183 rfl rfl fun Q fM cs H dj bk=>?_;unfold f183 at b6;obtain⟨dk,dl,dm⟩:=bs b6;refine JL.go 7 rfl ?_;refine JL.Y rfl (fun ρ h=>Yl.A0 (h _ _ rfl) (h _ _ rfl) dl) ?_;obtain⟨b8,dn,bl⟩:=bs dm;refine JL.go 7 rfl ?_;refine JL.join (fun L s=>∃(bm:(List (Int×Int×(List (Int×(List Int)×Nat))))) (bn:LH) (f18:Array Value),b8=Sum.inr bm∧Jn E H bn [[(K,.cells f18 133 (0,0))]] [] L s (WL 133 (rP rI (rP rI (rL (rP rI (rP (rL rI) (rN .u16)))))) bn K ab ae f18 (bm))) ?_ ?_
 ·rintro _ _ ⟨bm,bn,f18,rfl,rfl,rfl,dp,dq,dr⟩;have dt:=elim_inr bl;refine JL.go 4 rfl ?_;obtain rfl:=oi dt;refine JL.rt func183 rfl rfl ?_;exact bk _ _ _ _ dp rfl ⟨f18,rfl,(by first | rfl | simp | (simp [Value.cells])),dr⟩ dq
 ·intro du;refine JL.block ?_;refine JL.wk [(0,.slice (some ⟨K,0,none⟩) ae ab),(1,iV p1),(2,iV p2),(3,(.func (.func 134) #[] #[])),(9,iV dk),(10,iV 0)] rfl ?_;refine JL.Bi dn (fun L s ai=>∃(aK:LH) (f27:Array Value),Jn E H aK [[(K,.cells f27 133 (0,0))]] [(0,.slice (some ⟨K,0,none⟩) ae ab),(1,iV p1),(2,iV p2),(3,(.func (.func 134) #[] #[])),(9,iV ai.1),(10,iV ai.2.1)] L s (WL 133 (rP rI (rP rI (rL (rP rI (rP (rL rI) (rN .u16)))))) aK K ab ae f27 (ai.2.2))) ⟨E,bj,rfl,rfl,(Le.refl _),dj,hW⟩ ?_;rintro _ _ ai ⟨aK,f27,rfl,rfl,a3,b9,ak⟩ bo ⟨fN,aP⟩ dv;have bp:=aP;unfold Ix at bp;refine JL.go 6 rfl ?_;refine JL.ifs (p:=ai.2.1<5) rfl (fun bq=>?_) (fun bq=>?_)
  ·have ca:=bp;rw [if_pos bq] at ca;obtain⟨aj,dw,cb⟩:=bs ca;refine JL.go 4 rfl ?_;refine JL.join (fun L s=>∃(aL:LH),Jm aK H aL [[(K,.cells f27 133 (0,0))]] [(0,.slice (some ⟨K,0,none⟩) ae ab),(1,iV p1),(2,iV p2),(3,(.func (.func 134) #[] #[])),(9,iV aj),(10,iV ai.2.1)] L s) ?_ ?_
   ·rintro _ _ ⟨aL,rfl,rfl,aC,aQ⟩;refine JL.go 7 rfl ?_;refine JL.ifs (p:=aj=p2) rfl (fun br=>?_) (fun br=>?_)
    ·have cc:=cb;rw [if_pos br] at cc;refine JL.go 4 rfl ?_;obtain rfl:=oi cc;obtain rfl:=bo _ aP;have dx:=elim_inl bl;obtain rfl:=oi dx;refine JL.rt func183 rfl rfl ?_;exact bk _ _ _ _ (a3.trans aC) rfl ⟨f27,rfl,(by first | rfl | simp | (simp [Value.cells])),(ak.mono aC)⟩ aQ
    ·have cd:=cb;rw [if_neg br] at cd;obtain⟨dy,dz,ce⟩:=bs cd;refine JL.go 6 rfl ?_;refine JL.Y rfl (fun ρ h=>Yl.A4 (h _ _ rfl) (h _ _ rfl) dz) ?_;refine JL.go 2 rfl ?_;refine JL.ifs (p:=dy<50) rfl (fun bu=>?_) (fun bu=>?_)
     ·have cf:=ce;rw [if_pos bu] at cf;refine JL.go 4 rfl ?_;obtain rfl:=oi cf;obtain rfl:=bo _ aP;have dA:=elim_inl bl;obtain rfl:=oi dA;refine JL.rt func183 rfl rfl ?_;exact bk _ _ _ _ (a3.trans aC) rfl ⟨f27,rfl,(by first | rfl | simp | (simp [Value.cells])),(ak.mono aC)⟩ aQ
     ·have cg:=ce;rw [if_neg bu] at cg;refine JL.go 2 rfl ?_;refine JB.draw [15,17] [K] mixed rfl ?_;refine JB.mv 0 rfl rfl ?_;refine JB.mv 1 rfl rfl ?_;refine JB.mv 2 rfl rfl ?_;refine JB.mv 3 rfl rfl ?_;obtain⟨aR,dB,dC⟩:=bs cg;refine JB.V 4 true rfl rfl (fun ρ h s' hs=>Yl.A4 (h _ _ rfl) (h _ _ rfl) dB) ?_;refine JB.mv 5 rfl rfl ?_;refine JB.mv 6 rfl rfl ?_;obtain⟨dD,dE,dF⟩:=bs dC;refine JB.V 7 true rfl rfl (fun ρ h s' hs=>Yl.A4 (h _ _ rfl) (h _ _ rfl) dE) ?_;obtain⟨W,ci,dG⟩:=bs dF;obtain⟨_,⟨_,_,rfl,rfl,⟨_,_,rfl,rfl,⟨ap,aq,rfl,dH⟩⟩⟩,bv⟩:=WL.at (ak.mono aC) ci;replace bv:∀(j:Nat) w,[iV W.1,iV W.2.1,.slice ap (W.2.2).length aq][j]? =some w→f27[Int.toNat (dD)*3+j]? =some w:=bv;refine JB.V 8 true rfl rfl (fun ρ h s' hs=>Yl.A8 ak.2 ci underlying130 (Ah type133) (h _ _ rfl) (h _ _ rfl)) ?_;refine JB.val (v:= .agg #[iV W.1,iV W.2.1,.slice ap (W.2.2).length aq]) 9 false rfl (by decide+kernel) rfl rfl rfl (fun ρ h s' hs=>have hs:=hs rfl;Yl.Bj (vs:= [iV W.1,iV W.2.1,.slice ap (W.2.2).length aq]) (Ao underlying133) (Ah type133) (h _ _ rfl) (fun q w ah=>by rw [Bb rfl];exact Bd 0 aQ rfl (by simp [AD]) hs (bv q w ah))) ?_;refine JB.mv 10 rfl rfl ?_;refine JB.mv 11 rfl rfl ?_;obtain⟨ag,a4,dI⟩:=bs dG;obtain⟨_,⟨_,_,rfl,rfl,⟨_,_,rfl,rfl,⟨aD,aE,rfl,dJ⟩⟩⟩,bw⟩:=WL.at (ak.mono aC) a4;replace bw:∀(j:Nat) w,[iV ag.1,iV ag.2.1,.slice aD (ag.2.2).length aE][j]? =some w→f27[Int.toNat (aj)*3+j]? =some w:=bw;refine JB.V 12 true rfl rfl (fun ρ h s' hs=>Yl.A8 ak.2 a4 underlying130 (Ah type133) (h _ _ rfl) (h _ _ rfl)) ?_;refine JB.val (v:= .agg #[iV ag.1,iV ag.2.1,.slice aD (ag.2.2).length aE]) 13 false rfl (by decide+kernel) rfl rfl rfl (fun ρ h s' hs=>have hs:=hs rfl;Yl.Bj (vs:= [iV ag.1,iV ag.2.1,.slice aD (ag.2.2).length aE]) (Ao underlying133) (Ah type133) (h _ _ rfl) (fun q w ah=>by rw [Bb rfl];exact Bd 0 aQ rfl (by simp [AD]) hs (bw q w ah))) ?_;refine JB.V 14 true rfl rfl (fun ρ h s' hs=>Yl.A8 ak.2 a4 underlying130 (Ah type133) (h _ _ rfl) (h _ _ rfl)) ?_;have aS:=WL.put (x':=W) (ws':= [iV W.1,iV W.2.1,.slice ap (W.2.2).length aq]) (ak.mono aC) ak.2 a4 ⟨_,_,rfl,rfl,⟨_,_,rfl,rfl,⟨_,_,rfl,dH⟩⟩⟩;refine JB.store (v:= .agg #[iV W.1,iV W.2.1,.slice ap (W.2.2).length aq]) (off:=Int.toNat (aj)*3) 15 0 (by decide+kernel) (by decide+kernel) rfl rfl rfl aQ rfl rfl (Ah type133) (by simp [Value.cells,Bx]) rfl aS.2 fun dK=>?_;obtain⟨bx,bz,dL⟩:=bs dI;obtain⟨_,⟨_,_,rfl,rfl,⟨_,_,rfl,rfl,⟨dM,dN,rfl,fO⟩⟩⟩,ck⟩:=WL.at aS.1 bz;replace ck:∀(j:Nat) w,[iV bx.1,iV bx.2.1,.slice dM (bx.2.2).length dN][j]? =some w→(AN f27 (Int.toNat (aj)*3) [iV W.1,iV W.2.1,.slice ap (W.2.2).length aq])[Int.toNat (aR)*3+j]? =some w:=ck;refine JB.V 16 true rfl rfl (fun ρ h s' hs=>Yl.A8 (aS.1).2 bz underlying130 (Ah type133) (h _ _ rfl) (h _ _ rfl)) ?_;have bA:=WL.put (x':=ag) (ws':= [iV ag.1,iV ag.2.1,.slice aD (ag.2.2).length aE]) aS.1 (aS.1).2 bz ⟨_,_,rfl,rfl,⟨_,_,rfl,rfl,⟨_,_,rfl,dJ⟩⟩⟩;refine JB.store (v:= .agg #[iV ag.1,iV ag.2.1,.slice aD (ag.2.2).length aE]) (off:=Int.toNat (aR)*3) 17 0 (by decide+kernel) (by decide+kernel) rfl rfl rfl dK rfl rfl (Ah type133) (by simp [Value.cells,Bx]) rfl bA.2 fun dO=>?_;refine JB.fin (by decide+kernel) ?_;refine JS.norm (S':= [[(K,.cells (AN (AN f27 (Int.toNat (aj)*3) [iV W.1,iV W.2.1,.slice ap (W.2.2).length aq]) (Int.toNat (aR)*3) [iV ag.1,iV ag.2.1,.slice aD (ag.2.2).length aE]) 133 (0,0))]]) rfl dO fun cm=>?_;obtain⟨dP,dQ,dR⟩:=bs dL;refine JL.go 5 rfl ?_;refine JL.Y rfl (fun ρ h=>Yl.A4 (h _ _ rfl) (h _ _ rfl) dQ) ?_;obtain⟨dS,cn,dT⟩:=bs dR;refine JL.go 2 rfl ?_;refine JL.join (fun L s=>∃(aF:LH) (f99:Array Value),Jn aL H aF [[(K,.cells f99 133 (0,0))]] [(0,.slice (some ⟨K,0,none⟩) ae ab),(1,iV p1),(2,iV p2),(3,(.func (.func 134) #[] #[])),(9,iV aj),(10,iV ai.2.1)] L s (WL 133 (rP rI (rP rI (rL (rP rI (rP (rL rI) (rN .u16)))))) aF K ab ae f99 (dS))) ?_ ?_
      ·rintro _ _ ⟨aF,f99,rfl,rfl,dU,co,cp⟩;obtain⟨dV,dW,dX⟩:=bs dT;refine JL.go 4 rfl ?_;refine JL.Y rfl (fun ρ h=>Yl.A4 (h _ _ rfl) (h _ _ rfl) dW) ?_;obtain⟨cq,cr,dY⟩:=bs dX;refine JL.go 2 rfl ?_;refine JL.join (fun L s=>∃(a5:LH) (f109:Array Value),Jn aF H a5 [[(K,.cells f109 133 (0,0))]] [(0,.slice (some ⟨K,0,none⟩) ae ab),(1,iV p1),(2,iV p2),(3,(.func (.func 134) #[] #[])),(9,iV aj),(10,iV ai.2.1)] L s (WL 133 (rP rI (rP rI (rL (rP rI (rP (rL rI) (rN .u16)))))) a5 K ab ae f109 (cq))) ?_ ?_
       ·rintro _ _ ⟨a5,f109,rfl,rfl,dZ,ea,eb⟩;obtain⟨ec,ed,ee⟩:=bs dY;refine JL.go 3 rfl ?_;refine JL.Y rfl (fun ρ h=>Yl.A0 (h _ _ rfl) (h _ _ rfl) ed) ?_;refine JL.go 2 rfl ?_;obtain rfl:=oi ee;exact JL.kw (dv _ _ (aj,ec,cq) ⟨a5,f109,rfl,rfl,(((a3.trans aC).trans dU).trans dZ),ea,eb⟩ aP) rfl
       ·intro ct;refine JL.ifs (p:=2≤dV) rfl (fun bB=>?_) (fun bB=>?_)
        ·have cu:=cr;rw [if_pos bB] at cu;obtain⟨ef,eg,eh⟩:=bs cu;refine JL.go 3 rfl ?_;refine JL.Y rfl (fun ρ h=>Yl.A0 (h _ _ rfl) (h _ _ rfl) eg) ?_;obtain⟨ei,ej,ek⟩:=bs eh;refine JL.go 2 rfl ?_;refine JL.join (fun L s=>∃(a6:LH) (f134:Array Value),Jn aF H a6 [[(K,.cells f134 133 (0,0))]] [(0,.slice (some ⟨K,0,none⟩) ae ab),(1,iV p1),(2,iV p2),(3,(.func (.func 134) #[] #[])),(9,iV aj),(10,iV ai.2.1)] L s (WL 133 (rP rI (rP rI (rL (rP rI (rP (rL rI) (rN .u16)))))) a6 K ab ae f134 (ei))) ?_ ?_
         ·rintro _ _ ⟨a6,f134,rfl,rfl,el,em,eo⟩;obtain rfl:=oi ek;exact JL.kw (ct _ _ ⟨a6,f134,rfl,rfl,el,em,eo⟩) rfl
         ·intro cv;refine JL.block ?_;refine JL.wk [(0,.slice (some ⟨K,0,none⟩) ae ab),(1,iV p1),(2,iV p2),(3,(.func (.func 134) #[] #[])),(9,iV aj),(10,iV ai.2.1),(12,iV ef)] rfl ?_;refine JL.Bi ej (fun L s an=>∃(a7:LH) (f142:Array Value),Jn aF H a7 [[(K,.cells f142 133 (0,0))]] [(0,.slice (some ⟨K,0,none⟩) ae ab),(1,iV p1),(2,iV p2),(3,(.func (.func 134) #[] #[])),(9,iV aj),(10,iV ai.2.1),(12,iV an.1)] L s (WL 133 (rP rI (rP rI (rL (rP rI (rP (rL rI) (rN .u16)))))) a7 K ab ae f142 (an.2))) ⟨aF,f99,rfl,rfl,(Le.refl _),co,cp⟩ ?_;rintro _ _ an ⟨a7,f142,rfl,rfl,bC,aT,al⟩ cw ⟨fP,a8⟩ ep;have bD:=a8;unfold ME at bD;refine JL.go 7 rfl ?_;refine JL.ifs (p:=an.1<p2) rfl (fun bE=>?_) (fun bE=>?_)
          ·have cy:=bD;rw [if_pos bE] at cy;refine JL.go 5 rfl ?_;refine JG.B8 10 [K] ⟨⟨0,_,rfl⟩,trivial⟩ aT mixed rfl (by decide+kernel) fun ht=>?_;refine JG.mv 0 ht rfl rfl ?_;refine JG.mv 1 ht rfl rfl ?_;refine JG.mv 2 ht rfl rfl ?_;obtain⟨O,aU,eq⟩:=bs cy;obtain⟨_,⟨_,_,rfl,rfl,⟨_,_,rfl,rfl,⟨ar,au,rfl,cz⟩⟩⟩,a9⟩:=WL.at al aU;replace a9:∀(j:Nat) w,[iV O.1,iV O.2.1,.slice ar (O.2.2).length au][j]? =some w→f142[Int.toNat (an.1)*3+j]? =some w:=a9;refine JG.V 3 ht rfl rfl (fun ρ h s' hs=>Yl.A8 (al).2 aU underlying130 (Ah type133) (h _ _ rfl) (h _ _ rfl)) ?_;refine JG.V 4 ht rfl rfl (fun ρ h s' hs=>Yl.Bj (vs:= [iV O.1,iV O.2.1,.slice ar (O.2.2).length au]) (Ao underlying133) (Ah type133) (h _ _ rfl) (fun q w ah=>by rw [Bb rfl];exact Bd 0 aT rfl (by simp [AD]) hs (a9 q w ah))) ?_;refine JG.mv 5 ht rfl rfl ?_;refine JG.mv 6 ht rfl rfl ?_;obtain⟨er,et,eu⟩:=bs eq;refine JG.V 7 ht rfl rfl (fun ρ h s' hs=>Yl.A4 (h _ _ rfl) (h _ _ rfl) et) ?_;obtain⟨av,cA,ew⟩:=bs eu;obtain⟨_,⟨_,_,rfl,rfl,⟨_,_,rfl,rfl,⟨bF,bG,rfl,ex⟩⟩⟩,bH⟩:=WL.at al cA;replace bH:∀(j:Nat) w,[iV av.1,iV av.2.1,.slice bF (av.2.2).length bG][j]? =some w→f142[Int.toNat (er)*3+j]? =some w:=bH;refine JG.V 8 ht rfl rfl (fun ρ h s' hs=>Yl.A8 (al).2 cA underlying130 (Ah type133) (h _ _ rfl) (h _ _ rfl)) ?_;refine JG.V 9 ht rfl rfl (fun ρ h s' hs=>Yl.Bj (vs:= [iV av.1,iV av.2.1,.slice bF (av.2.2).length bG]) (Ao underlying133) (Ah type133) (h _ _ rfl) (fun q w ah=>by rw [Bb rfl];exact Bd 0 aT rfl (by simp [AD]) hs (bH q w ah))) ?_;refine Aw.leaf (tail:= [10,11,12]) (by decide+kernel) (fun t=>A3 (by decide+kernel) (A3 (by decide+kernel) (A3 (by decide+kernel) BL)) t) ?_;obtain⟨cB,ey,cC⟩:=bs ew;refine JS.Gj (vs:= [.agg #[iV O.1,iV O.2.1,.slice ar (O.2.2).length au],.agg #[iV av.1,iV av.2.1,.slice bF (av.2.2).length bG]]) (Eu cz ex ey) rfl rfl rfl rfl (Ay func134 rfl) rfl aT ?_;rintro _ cD _ aM ⟨rfl,rfl⟩ ba;refine JL.go 1 rfl ?_;refine JL.Y (v:= .bool (decide (¬(cB<0)))) rfl (fun ρ h=>Yl.Gm (h _ _ rfl)) ?_;refine JL.done ?_;refine JL.ifs (p:=¬(cB<0)) rfl (fun bI=>?_) (fun bI=>?_)
           ·have cE:=cC;rw [if_pos bI] at cE;refine JL.exit rfl ?_;obtain rfl:=oi cE;obtain rfl:=cw _ a8;exact JL.kw (cv _ _ ⟨cD,f142,rfl,rfl,(bC.trans aM),ba,(al.mono aM)⟩) rfl
           ·have cF:=cC;rw [if_neg bI] at cF;refine JL.skip ?_;refine JB.draw [15,17] [K] mixed rfl ?_;refine JB.mv 0 rfl rfl ?_;refine JB.mv 1 rfl rfl ?_;refine JB.mv 2 rfl rfl ?_;refine JB.mv 3 rfl rfl ?_;obtain⟨aV,ez,eA⟩:=bs cF;refine JB.V 4 true rfl rfl (fun ρ h s' hs=>Yl.A4 (h _ _ rfl) (h _ _ rfl) ez) ?_;refine JB.mv 5 rfl rfl ?_;refine JB.mv 6 rfl rfl ?_;obtain⟨eB,eC,eD⟩:=bs eA;refine JB.V 7 true rfl rfl (fun ρ h s' hs=>Yl.A4 (h _ _ rfl) (h _ _ rfl) eC) ?_;obtain⟨Z,cG,eE⟩:=bs eD;obtain⟨_,⟨_,_,rfl,rfl,⟨_,_,rfl,rfl,⟨aG,aH,rfl,eF⟩⟩⟩,bJ⟩:=WL.at (al.mono aM) cG;replace bJ:∀(j:Nat) w,[iV Z.1,iV Z.2.1,.slice aG (Z.2.2).length aH][j]? =some w→f142[Int.toNat (eB)*3+j]? =some w:=bJ;refine JB.V 8 true rfl rfl (fun ρ h s' hs=>Yl.A8 al.2 cG underlying130 (Ah type133) (h _ _ rfl) (h _ _ rfl)) ?_;refine JB.val (v:= .agg #[iV Z.1,iV Z.2.1,.slice aG (Z.2.2).length aH]) 9 false rfl (by decide+kernel) rfl rfl rfl (fun ρ h s' hs=>have hs:=hs rfl;Yl.Bj (vs:= [iV Z.1,iV Z.2.1,.slice aG (Z.2.2).length aH]) (Ao underlying133) (Ah type133) (h _ _ rfl) (fun q w ah=>by rw [Bb rfl];exact Bd 0 ba rfl (by simp [AD]) hs (bJ q w ah))) ?_;refine JB.mv 10 rfl rfl ?_;refine JB.mv 11 rfl rfl ?_;refine JB.V 12 true rfl rfl (fun ρ h s' hs=>Yl.A8 al.2 aU underlying130 (Ah type133) (h _ _ rfl) (h _ _ rfl)) ?_;refine JB.val (v:= .agg #[iV O.1,iV O.2.1,.slice ar (O.2.2).length au]) 13 false rfl (by decide+kernel) rfl rfl rfl (fun ρ h s' hs=>have hs:=hs rfl;Yl.Bj (vs:= [iV O.1,iV O.2.1,.slice ar (O.2.2).length au]) (Ao underlying133) (Ah type133) (h _ _ rfl) (fun q w ah=>by rw [Bb rfl];exact Bd 0 ba rfl (by simp [AD]) hs (a9 q w ah))) ?_;refine JB.V 14 true rfl rfl (fun ρ h s' hs=>Yl.A8 al.2 aU underlying130 (Ah type133) (h _ _ rfl) (h _ _ rfl)) ?_;have aW:=WL.put (x':=Z) (ws':= [iV Z.1,iV Z.2.1,.slice aG (Z.2.2).length aH]) (al.mono aM) al.2 aU ⟨_,_,rfl,rfl,⟨_,_,rfl,rfl,⟨_,_,rfl,eF⟩⟩⟩;refine JB.store (v:= .agg #[iV Z.1,iV Z.2.1,.slice aG (Z.2.2).length aH]) (off:=Int.toNat (an.1)*3) 15 0 (by decide+kernel) (by decide+kernel) rfl rfl rfl ba rfl rfl (Ah type133) (by simp [Value.cells,Bx]) rfl aW.2 fun eG=>?_;obtain⟨bK,bL,eH⟩:=bs eE;obtain⟨_,⟨_,_,rfl,rfl,⟨_,_,rfl,rfl,⟨eI,eJ,rfl,fQ⟩⟩⟩,cH⟩:=WL.at aW.1 bL;replace cH:∀(j:Nat) w,[iV bK.1,iV bK.2.1,.slice eI (bK.2.2).length eJ][j]? =some w→(AN f142 (Int.toNat (an.1)*3) [iV Z.1,iV Z.2.1,.slice aG (Z.2.2).length aH])[Int.toNat (aV)*3+j]? =some w:=cH;refine JB.V 16 true rfl rfl (fun ρ h s' hs=>Yl.A8 (aW.1).2 bL underlying130 (Ah type133) (h _ _ rfl) (h _ _ rfl)) ?_;have cI:=WL.put (x':=O) (ws':= [iV O.1,iV O.2.1,.slice ar (O.2.2).length au]) aW.1 (aW.1).2 bL ⟨_,_,rfl,rfl,⟨_,_,rfl,rfl,⟨_,_,rfl,(cz.mono aM)⟩⟩⟩;refine JB.store (v:= .agg #[iV O.1,iV O.2.1,.slice ar (O.2.2).length au]) (off:=Int.toNat (aV)*3) 17 0 (by decide+kernel) (by decide+kernel) rfl rfl rfl eG rfl rfl (Ah type133) (by simp [Value.cells,Bx]) rfl cI.2 fun eK=>?_;refine JB.fin (by decide+kernel) ?_;refine JS.norm (S':= [[(K,.cells (AN (AN f142 (Int.toNat (an.1)*3) [iV Z.1,iV Z.2.1,.slice aG (Z.2.2).length aH]) (Int.toNat (aV)*3) [iV O.1,iV O.2.1,.slice ar (O.2.2).length au]) 133 (0,0))],[]]) rfl eK fun eL=>?_;obtain⟨eM,eN,eO⟩:=bs eH;refine JL.go 3 rfl ?_;refine JL.Y rfl (fun ρ h=>Yl.A0 (h _ _ rfl) (h _ _ rfl) eN) ?_;refine JL.go 2 rfl ?_;obtain rfl:=oi eO;exact JL.kw (ep _ _ (eM,((an.2.set (Int.toNat an.1) Z).set (Int.toNat aV) O)) ⟨cD,(AN (AN f142 (Int.toNat (an.1)*3) [iV Z.1,iV Z.2.1,.slice aG (Z.2.2).length aH]) (Int.toNat (aV)*3) [iV O.1,iV O.2.1,.slice ar (O.2.2).length au]),rfl,rfl,(bC.trans aM),eL,cI.1⟩ a8) rfl
          ·have cJ:=bD;rw [if_neg bE] at cJ;refine JL.exit rfl ?_;obtain rfl:=oi cJ;obtain rfl:=cw _ a8;exact JL.kw (cv _ _ ⟨a7,f142,rfl,rfl,bC,aT,al⟩) rfl
        ·have cK:=cr;rw [if_neg bB] at cK;refine JL.skip ?_;obtain rfl:=oi cK;exact JL.kw (ct _ _ ⟨aF,f99,rfl,rfl,(Le.refl _),co,cp⟩) rfl
      ·intro cM;refine JL.ifs (p:=2≤dP) rfl (fun bM=>?_) (fun bM=>?_)
       ·have cN:=cn;rw [if_pos bM] at cN;obtain⟨eP,eQ,eR⟩:=bs cN;refine JL.go 3 rfl ?_;refine JL.Y rfl (fun ρ h=>Yl.A4 (h _ _ rfl) (h _ _ rfl) eQ) ?_;obtain⟨eS,eT,eU⟩:=bs eR;refine JL.go 2 rfl ?_;refine JL.join (fun L s=>∃(bb:LH) (f224:Array Value),Jn aL H bb [[(K,.cells f224 133 (0,0))]] [(0,.slice (some ⟨K,0,none⟩) ae ab),(1,iV p1),(2,iV p2),(3,(.func (.func 134) #[] #[])),(9,iV aj),(10,iV ai.2.1)] L s (WL 133 (rP rI (rP rI (rL (rP rI (rP (rL rI) (rN .u16)))))) bb K ab ae f224 (eS))) ?_ ?_
        ·rintro _ _ ⟨bb,f224,rfl,rfl,eV,eW,eX⟩;obtain rfl:=oi eU;exact JL.kw (cM _ _ ⟨bb,f224,rfl,rfl,eV,eW,eX⟩) rfl
        ·intro cO;refine JL.block ?_;refine JL.wk [(0,.slice (some ⟨K,0,none⟩) ae ab),(1,iV p1),(2,iV p2),(3,(.func (.func 134) #[] #[])),(9,iV aj),(10,iV ai.2.1),(11,iV eP)] rfl ?_;refine JL.Bi eT (fun L s ao=>∃(bc:LH) (f232:Array Value),Jn aL H bc [[(K,.cells f232 133 (0,0))]] [(0,.slice (some ⟨K,0,none⟩) ae ab),(1,iV p1),(2,iV p2),(3,(.func (.func 134) #[] #[])),(9,iV aj),(10,iV ai.2.1),(11,iV ao.1)] L s (WL 133 (rP rI (rP rI (rL (rP rI (rP (rL rI) (rN .u16)))))) bc K ab ae f232 (ao.2))) ⟨aL,(AN (AN f27 (Int.toNat (aj)*3) [iV W.1,iV W.2.1,.slice ap (W.2.2).length aq]) (Int.toNat (aR)*3) [iV ag.1,iV ag.2.1,.slice aD (ag.2.2).length aE]),rfl,rfl,(Le.refl _),cm,bA.1⟩ ?_;rintro _ _ ao ⟨bc,f232,rfl,rfl,bN,aX,am⟩ cP ⟨fR,bd⟩ eY;have bO:=bd;unfold MS at bO;refine JL.go 6 rfl ?_;refine JL.ifs (p:=1≤ao.1) rfl (fun bP=>?_) (fun bP=>?_)
         ·have cQ:=bO;rw [if_pos bP] at cQ;refine JL.go 5 rfl ?_;refine JG.B8 10 [K] ⟨⟨0,_,rfl⟩,trivial⟩ aX mixed rfl (by decide+kernel) fun ht=>?_;refine JG.mv 0 ht rfl rfl ?_;refine JG.mv 1 ht rfl rfl ?_;refine JG.mv 2 ht rfl rfl ?_;obtain⟨U,aY,eZ⟩:=bs cQ;obtain⟨_,⟨_,_,rfl,rfl,⟨_,_,rfl,rfl,⟨aw,ay,rfl,cR⟩⟩⟩,bf⟩:=WL.at am aY;replace bf:∀(j:Nat) w,[iV U.1,iV U.2.1,.slice aw (U.2.2).length ay][j]? =some w→f232[Int.toNat (ao.1)*3+j]? =some w:=bf;refine JG.V 3 ht rfl rfl (fun ρ h s' hs=>Yl.A8 (am).2 aY underlying130 (Ah type133) (h _ _ rfl) (h _ _ rfl)) ?_;refine JG.V 4 ht rfl rfl (fun ρ h s' hs=>Yl.Bj (vs:= [iV U.1,iV U.2.1,.slice aw (U.2.2).length ay]) (Ao underlying133) (Ah type133) (h _ _ rfl) (fun q w ah=>by rw [Bb rfl];exact Bd 0 aX rfl (by simp [AD]) hs (bf q w ah))) ?_;refine JG.mv 5 ht rfl rfl ?_;refine JG.mv 6 ht rfl rfl ?_;obtain⟨e0,e1,e2⟩:=bs eZ;refine JG.V 7 ht rfl rfl (fun ρ h s' hs=>Yl.A4 (h _ _ rfl) (h _ _ rfl) e1) ?_;obtain⟨az,cT,e3⟩:=bs e2;obtain⟨_,⟨_,_,rfl,rfl,⟨_,_,rfl,rfl,⟨bQ,bR,rfl,e4⟩⟩⟩,bS⟩:=WL.at am cT;replace bS:∀(j:Nat) w,[iV az.1,iV az.2.1,.slice bQ (az.2.2).length bR][j]? =some w→f232[Int.toNat (e0)*3+j]? =some w:=bS;refine JG.V 8 ht rfl rfl (fun ρ h s' hs=>Yl.A8 (am).2 cT underlying130 (Ah type133) (h _ _ rfl) (h _ _ rfl)) ?_;refine JG.V 9 ht rfl rfl (fun ρ h s' hs=>Yl.Bj (vs:= [iV az.1,iV az.2.1,.slice bQ (az.2.2).length bR]) (Ao underlying133) (Ah type133) (h _ _ rfl) (fun q w ah=>by rw [Bb rfl];exact Bd 0 aX rfl (by simp [AD]) hs (bS q w ah))) ?_;refine Aw.leaf (tail:= [10,11,12]) (by decide+kernel) (fun t=>A3 (by decide+kernel) (A3 (by decide+kernel) (A3 (by decide+kernel) BL)) t) ?_;obtain⟨cV,e5,cW⟩:=bs e3;refine JS.Gj (vs:= [.agg #[iV U.1,iV U.2.1,.slice aw (U.2.2).length ay],.agg #[iV az.1,iV az.2.1,.slice bQ (az.2.2).length bR]]) (Eu cR e4 e5) rfl rfl rfl rfl (Ay func134 rfl) rfl aX ?_;rintro _ cX _ aN ⟨rfl,rfl⟩ bg;refine JL.go 1 rfl ?_;refine JL.Y (v:= .bool (decide (¬(cV<0)))) rfl (fun ρ h=>Yl.Gm (h _ _ rfl)) ?_;refine JL.done ?_;refine JL.ifs (p:=¬(cV<0)) rfl (fun bT=>?_) (fun bT=>?_)
          ·have cY:=cW;rw [if_pos bT] at cY;refine JL.exit rfl ?_;obtain rfl:=oi cY;obtain rfl:=cP _ bd;exact JL.kw (cO _ _ ⟨cX,f232,rfl,rfl,(bN.trans aN),bg,(am.mono aN)⟩) rfl
          ·have cZ:=cW;rw [if_neg bT] at cZ;refine JL.skip ?_;refine JB.draw [15,17] [K] mixed rfl ?_;refine JB.mv 0 rfl rfl ?_;refine JB.mv 1 rfl rfl ?_;refine JB.mv 2 rfl rfl ?_;refine JB.mv 3 rfl rfl ?_;obtain⟨aZ,e6,e7⟩:=bs cZ;refine JB.V 4 true rfl rfl (fun ρ h s' hs=>Yl.A4 (h _ _ rfl) (h _ _ rfl) e6) ?_;refine JB.mv 5 rfl rfl ?_;refine JB.mv 6 rfl rfl ?_;obtain⟨e8,e9,fa⟩:=bs e7;refine JB.V 7 true rfl rfl (fun ρ h s' hs=>Yl.A4 (h _ _ rfl) (h _ _ rfl) e9) ?_;obtain⟨aa,c0,fb⟩:=bs fa;obtain⟨_,⟨_,_,rfl,rfl,⟨_,_,rfl,rfl,⟨aI,aJ,rfl,fc⟩⟩⟩,bU⟩:=WL.at (am.mono aN) c0;replace bU:∀(j:Nat) w,[iV aa.1,iV aa.2.1,.slice aI (aa.2.2).length aJ][j]? =some w→f232[Int.toNat (e8)*3+j]? =some w:=bU;refine JB.V 8 true rfl rfl (fun ρ h s' hs=>Yl.A8 am.2 c0 underlying130 (Ah type133) (h _ _ rfl) (h _ _ rfl)) ?_;refine JB.val (v:= .agg #[iV aa.1,iV aa.2.1,.slice aI (aa.2.2).length aJ]) 9 false rfl (by decide+kernel) rfl rfl rfl (fun ρ h s' hs=>have hs:=hs rfl;Yl.Bj (vs:= [iV aa.1,iV aa.2.1,.slice aI (aa.2.2).length aJ]) (Ao underlying133) (Ah type133) (h _ _ rfl) (fun q w ah=>by rw [Bb rfl];exact Bd 0 bg rfl (by simp [AD]) hs (bU q w ah))) ?_;refine JB.mv 10 rfl rfl ?_;refine JB.mv 11 rfl rfl ?_;refine JB.V 12 true rfl rfl (fun ρ h s' hs=>Yl.A8 am.2 aY underlying130 (Ah type133) (h _ _ rfl) (h _ _ rfl)) ?_;refine JB.val (v:= .agg #[iV U.1,iV U.2.1,.slice aw (U.2.2).length ay]) 13 false rfl (by decide+kernel) rfl rfl rfl (fun ρ h s' hs=>have hs:=hs rfl;Yl.Bj (vs:= [iV U.1,iV U.2.1,.slice aw (U.2.2).length ay]) (Ao underlying133) (Ah type133) (h _ _ rfl) (fun q w ah=>by rw [Bb rfl];exact Bd 0 bg rfl (by simp [AD]) hs (bf q w ah))) ?_;refine JB.V 14 true rfl rfl (fun ρ h s' hs=>Yl.A8 am.2 aY underlying130 (Ah type133) (h _ _ rfl) (h _ _ rfl)) ?_;have a0:=WL.put (x':=aa) (ws':= [iV aa.1,iV aa.2.1,.slice aI (aa.2.2).length aJ]) (am.mono aN) am.2 aY ⟨_,_,rfl,rfl,⟨_,_,rfl,rfl,⟨_,_,rfl,fc⟩⟩⟩;refine JB.store (v:= .agg #[iV aa.1,iV aa.2.1,.slice aI (aa.2.2).length aJ]) (off:=Int.toNat (ao.1)*3) 15 0 (by decide+kernel) (by decide+kernel) rfl rfl rfl bg rfl rfl (Ah type133) (by simp [Value.cells,Bx]) rfl a0.2 fun fe=>?_;obtain⟨bV,bW,ff⟩:=bs fb;obtain⟨_,⟨_,_,rfl,rfl,⟨_,_,rfl,rfl,⟨fg,fh,rfl,fS⟩⟩⟩,c1⟩:=WL.at a0.1 bW;replace c1:∀(j:Nat) w,[iV bV.1,iV bV.2.1,.slice fg (bV.2.2).length fh][j]? =some w→(AN f232 (Int.toNat (ao.1)*3) [iV aa.1,iV aa.2.1,.slice aI (aa.2.2).length aJ])[Int.toNat (aZ)*3+j]? =some w:=c1;refine JB.V 16 true rfl rfl (fun ρ h s' hs=>Yl.A8 (a0.1).2 bW underlying130 (Ah type133) (h _ _ rfl) (h _ _ rfl)) ?_;have c2:=WL.put (x':=U) (ws':= [iV U.1,iV U.2.1,.slice aw (U.2.2).length ay]) a0.1 (a0.1).2 bW ⟨_,_,rfl,rfl,⟨_,_,rfl,rfl,⟨_,_,rfl,(cR.mono aN)⟩⟩⟩;refine JB.store (v:= .agg #[iV U.1,iV U.2.1,.slice aw (U.2.2).length ay]) (off:=Int.toNat (aZ)*3) 17 0 (by decide+kernel) (by decide+kernel) rfl rfl rfl fe rfl rfl (Ah type133) (by simp [Value.cells,Bx]) rfl c2.2 fun fj=>?_;refine JB.fin (by decide+kernel) ?_;refine JS.norm (S':= [[(K,.cells (AN (AN f232 (Int.toNat (ao.1)*3) [iV aa.1,iV aa.2.1,.slice aI (aa.2.2).length aJ]) (Int.toNat (aZ)*3) [iV U.1,iV U.2.1,.slice aw (U.2.2).length ay]) 133 (0,0))],[]]) rfl fj fun fk=>?_;obtain⟨fm,fo,fp⟩:=bs ff;refine JL.go 3 rfl ?_;refine JL.Y rfl (fun ρ h=>Yl.A4 (h _ _ rfl) (h _ _ rfl) fo) ?_;refine JL.go 2 rfl ?_;obtain rfl:=oi fp;exact JL.kw (eY _ _ (fm,((ao.2.set (Int.toNat ao.1) aa).set (Int.toNat aZ) U)) ⟨cX,(AN (AN f232 (Int.toNat (ao.1)*3) [iV aa.1,iV aa.2.1,.slice aI (aa.2.2).length aJ]) (Int.toNat (aZ)*3) [iV U.1,iV U.2.1,.slice aw (U.2.2).length ay]),rfl,rfl,(bN.trans aN),fk,c2.1⟩ bd) rfl
         ·have c3:=bO;rw [if_neg bP] at c3;refine JL.exit rfl ?_;obtain rfl:=oi c3;obtain rfl:=cP _ bd;exact JL.kw (cO _ _ ⟨bc,f232,rfl,rfl,bN,aX,am⟩) rfl
       ·have c4:=cn;rw [if_neg bM] at c4;refine JL.skip ?_;obtain rfl:=oi c4;exact JL.kw (cM _ _ ⟨aL,(AN (AN f27 (Int.toNat (aj)*3) [iV W.1,iV W.2.1,.slice ap (W.2.2).length aq]) (Int.toNat (aR)*3) [iV ag.1,iV ag.2.1,.slice aD (ag.2.2).length aE]),rfl,rfl,(Le.refl _),cm,bA.1⟩) rfl
   ·intro fq;refine JL.block ?_;refine JL.wk [(0,.slice (some ⟨K,0,none⟩) ae ab),(1,iV p1),(2,iV p2),(3,(.func (.func 134) #[] #[])),(9,iV ai.1),(10,iV ai.2.1)] rfl ?_;refine JL.Bi dw (fun L s a1=>∃(bh:LH),Jm aK H bh [[(K,.cells f27 133 (0,0))]] [(0,.slice (some ⟨K,0,none⟩) ae ab),(1,iV p1),(2,iV p2),(3,(.func (.func 134) #[] #[])),(9,iV a1),(10,iV ai.2.1)] L s) ⟨aK,rfl,rfl,(Le.refl _),b9⟩ ?_;rintro _ _ a1 ⟨bh,rfl,rfl,aO,a2⟩ fs ⟨fT,bX⟩ fu;have c5:=bX;unfold Gd at c5;refine JL.go 2 rfl ?_;refine JG.B8 18 [K] ⟨⟨0,_,rfl⟩,trivial⟩ a2 mixed rfl (by decide+kernel) fun ht=>?_;refine JG.mv 0 ht rfl rfl ?_;refine JG.mv 1 ht rfl rfl ?_;refine JG.mv 2 ht rfl rfl ?_;refine JG.mv 3 ht rfl rfl ?_;obtain⟨c6,c7,c8⟩:=bs c5;refine Aw.join 0 #[true,true,true,true,true,true,true,true,true,true,true,true,true,true,true,true,true,true] (fun L s=>∃(bi:LH),Jm bh H bi [[(K,.cells f27 133 (0,0))]] [(0,.slice (some ⟨K,0,none⟩) ae ab),(1,iV p1),(2,iV p2),(3,(.func (.func 134) #[] #[])),(9,iV a1),(10,iV ai.2.1),(36,.bool c6)] L s) ?_ ?_
    ·rintro _ _ ⟨bi,rfl,rfl,c9,da⟩;refine Aw.fin (by decide+kernel) ?_;refine JL.split (t:=c6) rfl (fun bY=>?_) (fun bY=>?_)
     ·have db:=c8;rw [if_pos bY] at db;obtain⟨fv,fw,fx⟩:=bs db;refine JL.go 4 rfl ?_;refine JL.Y rfl (fun ρ h=>Yl.A0 (h _ _ rfl) (h _ _ rfl) fw) ?_;refine JL.go 3 rfl ?_;obtain rfl:=oi fx;exact JL.kw (fu _ _ fv ⟨bi,rfl,rfl,(aO.trans c9),da⟩ bX) rfl
     ·have dc:=c8;rw [if_neg (by rw [bY];exact Bool.false_ne_true)] at dc;refine JL.exit rfl ?_;obtain rfl:=oi dc;obtain rfl:=fs _ bX;exact JL.kw (fq _ _ ⟨bi,rfl,rfl,(aO.trans c9),da⟩) rfl
    ·intro dd;refine Aw.B5 (q:=a1<p2) (i:=22) rfl (fun bZ=>?_) (fun bZ=>?_)
     ·have de:=c7;rw [if_pos bZ] at de;refine JG.mv 4 ht rfl rfl ?_;refine JG.mv 5 ht rfl rfl ?_;refine JG.mv 6 ht rfl rfl ?_;obtain⟨aA,df,fy⟩:=bs de;obtain⟨_,⟨_,_,rfl,rfl,⟨_,_,rfl,rfl,⟨b0,b1,rfl,fz⟩⟩⟩,b2⟩:=WL.at (ak.mono aO) df;replace b2:∀(j:Nat) w,[iV aA.1,iV aA.2.1,.slice b0 (aA.2.2).length b1][j]? =some w→f27[Int.toNat (a1)*3+j]? =some w:=b2;refine JG.V 7 ht rfl rfl (fun ρ h s' hs=>Yl.A8 ((ak.mono aO)).2 df underlying130 (Ah type133) (h _ _ rfl) (h _ _ rfl)) ?_;refine JG.V 8 ht rfl rfl (fun ρ h s' hs=>Yl.Bj (vs:= [iV aA.1,iV aA.2.1,.slice b0 (aA.2.2).length b1]) (Ao underlying133) (Ah type133) (h _ _ rfl) (fun q w ah=>by rw [Bb rfl];exact Bd 0 a2 rfl (by simp [AD]) hs (b2 q w ah))) ?_;refine JG.mv 9 ht rfl rfl ?_;refine JG.mv 10 ht rfl rfl ?_;obtain⟨fA,fB,fC⟩:=bs fy;refine JG.V 11 ht rfl rfl (fun ρ h s' hs=>Yl.A4 (h _ _ rfl) (h _ _ rfl) fB) ?_;obtain⟨aB,dg,fD⟩:=bs fC;obtain⟨_,⟨_,_,rfl,rfl,⟨_,_,rfl,rfl,⟨b3,b4,rfl,fE⟩⟩⟩,b5⟩:=WL.at (ak.mono aO) dg;replace b5:∀(j:Nat) w,[iV aB.1,iV aB.2.1,.slice b3 (aB.2.2).length b4][j]? =some w→f27[Int.toNat (fA)*3+j]? =some w:=b5;refine JG.V 12 ht rfl rfl (fun ρ h s' hs=>Yl.A8 ((ak.mono aO)).2 dg underlying130 (Ah type133) (h _ _ rfl) (h _ _ rfl)) ?_;refine JG.V 13 ht rfl rfl (fun ρ h s' hs=>Yl.Bj (vs:= [iV aB.1,iV aB.2.1,.slice b3 (aB.2.2).length b4]) (Ao underlying133) (Ah type133) (h _ _ rfl) (fun q w ah=>by rw [Bb rfl];exact Bd 0 a2 rfl (by simp [AD]) hs (b5 q w ah))) ?_;obtain⟨fF,fG,fH⟩:=bs fD;refine JG.Fq (i:=14) ⟨⟨0,_,rfl⟩,trivial⟩ (vs:= [.agg #[iV aA.1,iV aA.2.1,.slice b0 (aA.2.2).length b1],.agg #[iV aB.1,iV aB.2.1,.slice b3 (aB.2.2).length b4]]) (Eu fz fE fG) (by decide+kernel) rfl rfl rfl rfl (Ay func134 rfl) rfl a2 ?_;rintro _ fI _ fJ ⟨rfl,rfl⟩ fK;refine JG.mv 15 ht rfl rfl ?_;refine JG.V (v:= .bool (decide (¬(fF<0)))) 16 ht rfl rfl (fun ρ h s' hs=>Yl.Gm (h _ _ rfl)) ?_;refine JG.mv 17 ht rfl rfl ?_;obtain rfl:=oi fH;refine Aw.B6 ?_ (dd _ _ ⟨fI,rfl,rfl,fJ,fK⟩);exact⟨rfl,rfl,rfl,rfl,rfl,rfl,rfl,trivial⟩
     ·have dh:=c7;rw [if_neg bZ] at dh;refine JG.mv 4 ht rfl rfl ?_;refine JG.mv 5 ht rfl rfl ?_;refine JG.mv 6 ht rfl rfl ?_;refine JG.mv 7 ht rfl rfl ?_;refine JG.mv 8 ht rfl rfl ?_;refine JG.mv 9 ht rfl rfl ?_;refine JG.mv 10 ht rfl rfl ?_;refine JG.mv 11 ht rfl rfl ?_;refine JG.mv 12 ht rfl rfl ?_;refine JG.mv 13 ht rfl rfl ?_;refine JG.mv 14 ht rfl rfl ?_;refine JG.mv 15 ht rfl rfl ?_;refine JG.mv 16 ht rfl rfl ?_;refine JG.mv 17 ht rfl rfl ?_;obtain rfl:=oi dh;refine Aw.B6 ?_ (dd _ _ ⟨bh,rfl,rfl,(Le.refl _),a2⟩);exact⟨rfl,rfl,rfl,rfl,rfl,rfl,rfl,trivial⟩
  ·have di:=bp;rw [if_neg bq] at di;refine JL.exit rfl ?_;obtain rfl:=oi di;have fL:b8=(Sum.inr ai.2.2):=(bo _ aP).symm;exact JL.kw (du _ _ ⟨ai.2.2,aK,f27,fL,rfl,rfl,a3,b9,ak⟩) rfl
def Hj(fuel:Nat)(p0:List (Int×Int×(List (Int×(List Int)×Nat))))(p1:Int)(p3:Int)(O:Int×Int×(List (Int×(List Int)×Nat)))(U:Int×Int×(List (Int×(List Int)×Nat)))(W:Int)(K:Int):Option (AV (Int) (Int)):=
 Option.bind (
  if K≤W then(
   (ix ((p0.set (Int.toNat p1) O).set (Int.toNat p3) U) (K)).bind fun Z=>
   (ix ((p0.set (Int.toNat p1) O).set (Int.toNat p3) U) (p1)).bind fun aa=>
   (f134 fuel Z aa).bind fun ab=>
   some (decide (ab<0))
  ) else(
   some false
  )
 ) fun ae=>
 if ae=true then(
  (Av (K+1)).bind fun ag=>
  some (.more ag)
 ) else(
  some (.done K)
 )
def Hk(fuel:Nat)(p0:List (Int×Int×(List (Int×(List Int)×Nat))))(p1:Int)(p3:Int)(O:Int×Int×(List (Int×(List Int)×Nat)))(U:Int×Int×(List (Int×(List Int)×Nat)))(W:Int)(K:Int):Option (AV (Int) (Int)):=
 Option.bind (
  if W≤K then(
   (ix ((p0.set (Int.toNat p1) O).set (Int.toNat p3) U) (K)).bind fun Z=>
   (ix ((p0.set (Int.toNat p1) O).set (Int.toNat p3) U) (p1)).bind fun aa=>
   (f134 fuel Z aa).bind fun ab=>
   some (decide (¬(ab<0)))
  ) else(
   some false
  )
 ) fun ae=>
 if ae=true then(
  (Av (K - 1)).bind fun ag=>
  some (.more ag)
 ) else(
  some (.done K)
 )
def GJ(fuel:Nat)(p1:Int)(O:Int×Int×(List (Int×Int×(List (Int×(List Int)×Nat)))))(K:Int):Option (AV (Int) (Int)):=
 Option.bind (
  if K≤O.2.1 then(
   (ix O.2.2 (K)).bind fun U=>
   (ix O.2.2 (p1)).bind fun W=>
   (f134 fuel U W).bind fun Z=>
   some (decide (Z<0))
  ) else(
   some false
  )
 ) fun aa=>
 if aa=true then(
  (Av (K+1)).bind fun ab=>
  some (.more ab)
 ) else(
  some (.done K)
 )
def GG(fuel:Nat)(p1:Int)(O:Int×Int×(List (Int×Int×(List (Int×(List Int)×Nat)))))(U:Int)(K:Int):Option (AV (Int) (Int)):=
 Option.bind (
  if U≤K then(
   (ix O.2.2 (K)).bind fun W=>
   (ix O.2.2 (p1)).bind fun Z=>
   (f134 fuel W Z).bind fun aa=>
   some (decide (¬(aa<0)))
  ) else(
   some false
  )
 ) fun ab=>
 if ab=true then(
  (Av (K - 1)).bind fun ae=>
  some (.more ae)
 ) else(
  some (.done K)
 )
def Gc(fuel:Nat)(p1:Int)(K:Int×Int×(List (Int×Int×(List (Int×(List Int)×Nat))))):Option (AV (Int×Int×(List (Int×Int×(List (Int×(List Int)×Nat))))) (Int×(List (Int×Int×(List (Int×(List Int)×Nat)))))):=
 Option.bind (iter (GJ fuel p1 K) fuel K.1) fun O=>
 Option.bind (iter (GG fuel p1 K O) fuel K.2.1) fun U=>
 if U<O then(
  some (.done (U,K.2.2))
 ) else(
  (ix K.2.2 (U)).bind fun W=>
  (ix K.2.2 (O)).bind fun Z=>
  (Av (O+1)).bind fun aa=>
  (Av (U - 1)).bind fun ab=>
  some (.more (aa,ab,((K.2.2.set (Int.toNat O) W).set (Int.toNat U) Z)))
 )
def f185(fuel:Nat)(p0:List (Int×Int×(List (Int×(List Int)×Nat))))(p1:Int)(p2:Int)(p3:Int):Option (Int×Bool×(List (Int×Int×(List (Int×(List Int)×Nat))))):=
 (ix p0 (p3)).bind fun K=>
 (ix p0 (p1)).bind fun O=>
 (Av (p1+1)).bind fun ab=>
 (Av (p2 - 1)).bind fun aa=>
 Option.bind (iter (Hj fuel p0 p1 p3 K O aa) fuel ab) fun Z=>
 Option.bind (iter (Hk fuel p0 p1 p3 K O Z) fuel aa) fun U=>
 if U<Z then(
  (ix ((p0.set (Int.toNat p1) K).set (Int.toNat p3) O) (p1)).bind fun ae=>
  (ix ((p0.set (Int.toNat p1) K).set (Int.toNat p3) O) (U)).bind fun ag=>
  some (U,true,((((p0.set (Int.toNat p1) K).set (Int.toNat p3) O).set (Int.toNat U) ae).set (Int.toNat p1) ag))
 ) else(
  (ix ((p0.set (Int.toNat p1) K).set (Int.toNat p3) O) (U)).bind fun ah=>
  (ix ((p0.set (Int.toNat p1) K).set (Int.toNat p3) O) (Z)).bind fun ai=>
  (Av (Z+1)).bind fun aj=>
  (Av (U - 1)).bind fun ak=>
  Option.bind (iter (Gc fuel p1) fuel (aj,ak,((((p0.set (Int.toNat p1) K).set (Int.toNat p3) O).set (Int.toNat Z) ah).set (Int.toNat U) ai))) fun W=>
  (ix W.2 (p1)).bind fun al=>
  (ix W.2 (W.1)).bind fun am=>
  some (W.1,false,((W.2.set (Int.toNat W.1) al).set (Int.toNat p1) am))
 )
theorem M7{U:Nat}{aa:Nat}{ab:Nat}{ai:Array Value}{p0:List (Int×Int×(List (Int×(List Int)×Nat)))}{p1:Int}{p2:Int}{p3:Int}(hW:WL 133 (rP rI (rP rI (rL (rP rI (rP (rL rI) (rN .u16)))))) E U aa ab ai p0){fuel:Nat}{r:Int×Bool×(List (Int×Int×(List (Int×(List Int)×Nat))))}(cF:f185 fuel p0 p1 p2 p3=some r):Au J 185 [.slice (some ⟨U,0,none⟩) ab aa,iV p1,iV p2,iV p3,(.func (.func 134) #[] #[])] E [(U,.cells ai 133 (0,0))] (fun w E' B'=>∃(cG:Array Value),w= .tuple #[iV r.1,.bool r.2.1]∧B'= [(U,.cells cG 133 (0,0))]∧WL 133 (rP rI (rP rI (rL (rP rI (rP (rL rI) (rN .u16)))))) E' U aa ab cG (r.2.2)):=by
 refine Au.en func185 rfl rfl fun Q gv cs H bJ cH=>?_;unfold f185 at cF;refine JL.go 6 rfl ?_;refine JB.draw [13,15] [U] mixed rfl ?_;refine JB.mv 0 rfl rfl ?_;refine JB.mv 1 rfl rfl ?_;refine JB.mv 2 rfl rfl ?_;refine JB.mv 3 rfl rfl ?_;refine JB.mv 4 rfl rfl ?_;refine JB.mv 5 rfl rfl ?_;obtain⟨K,bo,dV⟩:=bs cF;obtain⟨_,⟨_,_,rfl,rfl,⟨_,_,rfl,rfl,⟨ae,c4,rfl,dW⟩⟩⟩,bK⟩:=WL.at hW bo;replace bK:∀(j:Nat) w,[iV K.1,iV K.2.1,.slice ae (K.2.2).length c4][j]? =some w→ai[Int.toNat (p3)*3+j]? =some w:=bK;refine JB.V 6 true rfl rfl (fun ρ h s' hs=>Yl.A8 hW.2 bo underlying130 (Ah type133) (h _ _ rfl) (h _ _ rfl)) ?_;refine JB.val (v:= .agg #[iV K.1,iV K.2.1,.slice ae (K.2.2).length c4]) 7 false rfl (by decide+kernel) rfl rfl rfl (fun ρ h s' hs=>have hs:=hs rfl;Yl.Bj (vs:= [iV K.1,iV K.2.1,.slice ae (K.2.2).length c4]) (Ao underlying133) (Ah type133) (h _ _ rfl) (fun q w W=>by rw [Bb rfl];exact Bd 0 bJ rfl (by simp [AD]) hs (bK q w W))) ?_;refine JB.mv 8 rfl rfl ?_;refine JB.mv 9 rfl rfl ?_;obtain⟨O,bb,dX⟩:=bs dV;obtain⟨_,⟨_,_,rfl,rfl,⟨_,_,rfl,rfl,⟨ag,ah,rfl,dY⟩⟩⟩,bL⟩:=WL.at hW bb;replace bL:∀(j:Nat) w,[iV O.1,iV O.2.1,.slice ag (O.2.2).length ah][j]? =some w→ai[Int.toNat (p1)*3+j]? =some w:=bL;refine JB.V 10 true rfl rfl (fun ρ h s' hs=>Yl.A8 hW.2 bb underlying130 (Ah type133) (h _ _ rfl) (h _ _ rfl)) ?_;refine JB.val (v:= .agg #[iV O.1,iV O.2.1,.slice ag (O.2.2).length ah]) 11 false rfl (by decide+kernel) rfl rfl rfl (fun ρ h s' hs=>have hs:=hs rfl;Yl.Bj (vs:= [iV O.1,iV O.2.1,.slice ag (O.2.2).length ah]) (Ao underlying133) (Ah type133) (h _ _ rfl) (fun q w W=>by rw [Bb rfl];exact Bd 0 bJ rfl (by simp [AD]) hs (bL q w W))) ?_;refine JB.V 12 true rfl rfl (fun ρ h s' hs=>Yl.A8 hW.2 bb underlying130 (Ah type133) (h _ _ rfl) (h _ _ rfl)) ?_;have cI:=WL.put (x':=K) (ws':= [iV K.1,iV K.2.1,.slice ae (K.2.2).length c4]) hW hW.2 bb ⟨_,_,rfl,rfl,⟨_,_,rfl,rfl,⟨_,_,rfl,dW⟩⟩⟩;refine JB.store (v:= .agg #[iV K.1,iV K.2.1,.slice ae (K.2.2).length c4]) (off:=Int.toNat (p1)*3) 13 0 (by decide+kernel) (by decide+kernel) rfl rfl rfl bJ rfl rfl (Ah type133) (by simp [Value.cells,Bx]) rfl cI.2 fun dZ=>?_;refine JB.V 14 true rfl rfl (fun ρ h s' hs=>Yl.A8 hW.2 bo underlying130 (Ah type133) (h _ _ rfl) (h _ _ rfl)) ?_;have Z:=WL.put (x':=O) (ws':= [iV O.1,iV O.2.1,.slice ag (O.2.2).length ah]) cI.1 hW.2 bo ⟨_,_,rfl,rfl,⟨_,_,rfl,rfl,⟨_,_,rfl,dY⟩⟩⟩;refine JB.store (v:= .agg #[iV O.1,iV O.2.1,.slice ag (O.2.2).length ah]) (off:=Int.toNat (p3)*3) 15 0 (by decide+kernel) (by decide+kernel) rfl rfl rfl dZ rfl rfl (Ah type133) (by simp [Value.cells,Bx]) rfl Z.2 fun ea=>?_;refine JB.fin (by decide+kernel) ?_;refine JS.norm (S':= [[(U,.cells (AN (AN ai (Int.toNat (p1)*3) [iV K.1,iV K.2.1,.slice ae (K.2.2).length c4]) (Int.toNat (p3)*3) [iV O.1,iV O.2.1,.slice ag (O.2.2).length ah]) 133 (0,0))]]) rfl ea fun eb=>?_;obtain⟨ec,ed,ee⟩:=bs dX;refine JL.go 3 rfl ?_;refine JL.Y rfl (fun ρ h=>Yl.A0 (h _ _ rfl) (h _ _ rfl) ed) ?_;obtain⟨a2,ef,eg⟩:=bs ee;refine JL.go 1 rfl ?_;refine JL.Y rfl (fun ρ h=>Yl.A4 (h _ _ rfl) (h _ _ rfl) ef) ?_;obtain⟨ay,eh,ei⟩:=bs eg;refine JL.go 4 rfl ?_;refine JL.join (fun L s=>∃(bc:LH),Jm E H bc [[(U,.cells (AN (AN ai (Int.toNat (p1)*3) [iV K.1,iV K.2.1,.slice ae (K.2.2).length c4]) (Int.toNat (p3)*3) [iV O.1,iV O.2.1,.slice ag (O.2.2).length ah]) 133 (0,0))]] [(0,.slice (some ⟨U,0,none⟩) ab aa),(1,iV p1),(4,(.func (.func 134) #[] #[])),(12,iV ay),(13,iV a2)] L s) ?_ ?_
 ·rintro _ _ ⟨bc,rfl,rfl,au,ej⟩;obtain⟨az,ek,cJ⟩:=bs ei;refine JL.seq ?_;refine JL.join (fun L s=>∃(bd:LH),Jm bc H bd [[(U,.cells (AN (AN ai (Int.toNat (p1)*3) [iV K.1,iV K.2.1,.slice ae (K.2.2).length c4]) (Int.toNat (p3)*3) [iV O.1,iV O.2.1,.slice ag (O.2.2).length ah]) 133 (0,0))]] [(0,.slice (some ⟨U,0,none⟩) ab aa),(1,iV p1),(4,(.func (.func 134) #[] #[])),(12,iV ay),(13,iV az)] L s) ?_ ?_
  ·rintro _ _ ⟨bd,rfl,rfl,aK,a3⟩;refine JL.go 7 rfl ?_;refine JL.ifs (p:=az<ay) rfl (fun bM=>?_) (fun bM=>?_)
   ·have cK:=cJ;rw [if_pos bM] at cK;refine JL.seq ?_;refine JB.draw [13,15] [U] mixed rfl ?_;refine JB.mv 0 rfl rfl ?_;refine JB.mv 1 rfl rfl ?_;refine JB.mv 2 rfl rfl ?_;refine JB.mv 3 rfl rfl ?_;refine JB.mv 4 rfl rfl ?_;refine JB.mv 5 rfl rfl ?_;refine JB.V 6 true rfl rfl (fun ρ h s' hs=>Yl.A8 hW.2 bb underlying130 (Ah type133) (h _ _ rfl) (h _ _ rfl)) ?_;obtain⟨al,bN,el⟩:=bs cK;obtain⟨_,⟨_,_,rfl,rfl,⟨_,_,rfl,rfl,⟨aL,aM,rfl,em⟩⟩⟩,bO⟩:=WL.at (Z.1.mono (au.trans aK)) bN;replace bO:∀(j:Nat) w,[iV al.1,iV al.2.1,.slice aL (al.2.2).length aM][j]? =some w→(AN (AN ai (Int.toNat (p1)*3) [iV K.1,iV K.2.1,.slice ae (K.2.2).length c4]) (Int.toNat (p3)*3) [iV O.1,iV O.2.1,.slice ag (O.2.2).length ah])[Int.toNat (p1)*3+j]? =some w:=bO;refine JB.val (v:= .agg #[iV al.1,iV al.2.1,.slice aL (al.2.2).length aM]) 7 false rfl (by decide+kernel) rfl rfl rfl (fun ρ h s' hs=>have hs:=hs rfl;Yl.Bj (vs:= [iV al.1,iV al.2.1,.slice aL (al.2.2).length aM]) (Ao underlying133) (Ah type133) (h _ _ rfl) (fun q w W=>by rw [Bb rfl];exact Bd 0 a3 rfl (by simp [AD]) hs (bO q w W))) ?_;refine JB.mv 8 rfl rfl ?_;refine JB.mv 9 rfl rfl ?_;obtain⟨am,bp,eo⟩:=bs el;obtain⟨_,⟨_,_,rfl,rfl,⟨_,_,rfl,rfl,⟨aN,aO,rfl,ep⟩⟩⟩,bP⟩:=WL.at (Z.1.mono (au.trans aK)) bp;replace bP:∀(j:Nat) w,[iV am.1,iV am.2.1,.slice aN (am.2.2).length aO][j]? =some w→(AN (AN ai (Int.toNat (p1)*3) [iV K.1,iV K.2.1,.slice ae (K.2.2).length c4]) (Int.toNat (p3)*3) [iV O.1,iV O.2.1,.slice ag (O.2.2).length ah])[Int.toNat (az)*3+j]? =some w:=bP;refine JB.V 10 true rfl rfl (fun ρ h s' hs=>Yl.A8 (Z.1).2 bp underlying130 (Ah type133) (h _ _ rfl) (h _ _ rfl)) ?_;refine JB.val (v:= .agg #[iV am.1,iV am.2.1,.slice aN (am.2.2).length aO]) 11 false rfl (by decide+kernel) rfl rfl rfl (fun ρ h s' hs=>have hs:=hs rfl;Yl.Bj (vs:= [iV am.1,iV am.2.1,.slice aN (am.2.2).length aO]) (Ao underlying133) (Ah type133) (h _ _ rfl) (fun q w W=>by rw [Bb rfl];exact Bd 0 a3 rfl (by simp [AD]) hs (bP q w W))) ?_;refine JB.V 12 true rfl rfl (fun ρ h s' hs=>Yl.A8 (Z.1).2 bp underlying130 (Ah type133) (h _ _ rfl) (h _ _ rfl)) ?_;have cM:=WL.put (x':=al) (ws':= [iV al.1,iV al.2.1,.slice aL (al.2.2).length aM]) (Z.1.mono (au.trans aK)) (Z.1).2 bp ⟨_,_,rfl,rfl,⟨_,_,rfl,rfl,⟨_,_,rfl,em⟩⟩⟩;refine JB.store (v:= .agg #[iV al.1,iV al.2.1,.slice aL (al.2.2).length aM]) (off:=Int.toNat (az)*3) 13 0 (by decide+kernel) (by decide+kernel) rfl rfl rfl a3 rfl rfl (Ah type133) (by simp [Value.cells,Bx]) rfl cM.2 fun eq=>?_;refine JB.V 14 true rfl rfl (fun ρ h s' hs=>Yl.A8 (Z.1).2 bN underlying130 (Ah type133) (h _ _ rfl) (h _ _ rfl)) ?_;have cN:=WL.put (x':=am) (ws':= [iV am.1,iV am.2.1,.slice aN (am.2.2).length aO]) cM.1 (Z.1).2 bN ⟨_,_,rfl,rfl,⟨_,_,rfl,rfl,⟨_,_,rfl,ep⟩⟩⟩;refine JB.store (v:= .agg #[iV am.1,iV am.2.1,.slice aN (am.2.2).length aO]) (off:=Int.toNat (p1)*3) 15 0 (by decide+kernel) (by decide+kernel) rfl rfl rfl eq rfl rfl (Ah type133) (by simp [Value.cells,Bx]) rfl cN.2 fun er=>?_;refine JB.fin (by decide+kernel) ?_;refine JS.norm (S':= [[(U,.cells (AN (AN (AN (AN ai (Int.toNat (p1)*3) [iV K.1,iV K.2.1,.slice ae (K.2.2).length c4]) (Int.toNat (p3)*3) [iV O.1,iV O.2.1,.slice ag (O.2.2).length ah]) (Int.toNat (az)*3) [iV al.1,iV al.2.1,.slice aL (al.2.2).length aM]) (Int.toNat (p1)*3) [iV am.1,iV am.2.1,.slice aN (am.2.2).length aO]) 133 (0,0))]]) rfl er fun et=>?_;refine JL.go 6 rfl ?_;obtain rfl:=oi eo;refine JL.rt func185 rfl rfl ?_;exact cH _ _ _ _ (au.trans aK) rfl ⟨(AN (AN (AN (AN ai (Int.toNat (p1)*3) [iV K.1,iV K.2.1,.slice ae (K.2.2).length c4]) (Int.toNat (p3)*3) [iV O.1,iV O.2.1,.slice ag (O.2.2).length ah]) (Int.toNat (az)*3) [iV al.1,iV al.2.1,.slice aL (al.2.2).length aM]) (Int.toNat (p1)*3) [iV am.1,iV am.2.1,.slice aN (am.2.2).length aO]),rfl,(by first | rfl | simp | (simp [Value.cells])),cN.1⟩ et
   ·have cO:=cJ;rw [if_neg bM] at cO;refine JL.go 2 rfl ?_;refine JB.draw [13,15] [U] mixed rfl ?_;refine JB.mv 0 rfl rfl ?_;refine JB.mv 1 rfl rfl ?_;refine JB.mv 2 rfl rfl ?_;refine JB.mv 3 rfl rfl ?_;refine JB.mv 4 rfl rfl ?_;refine JB.mv 5 rfl rfl ?_;obtain⟨an,bq,eu⟩:=bs cO;obtain⟨_,⟨_,_,rfl,rfl,⟨_,_,rfl,rfl,⟨aP,aQ,rfl,ew⟩⟩⟩,bQ⟩:=WL.at (Z.1.mono (au.trans aK)) bq;replace bQ:∀(j:Nat) w,[iV an.1,iV an.2.1,.slice aP (an.2.2).length aQ][j]? =some w→(AN (AN ai (Int.toNat (p1)*3) [iV K.1,iV K.2.1,.slice ae (K.2.2).length c4]) (Int.toNat (p3)*3) [iV O.1,iV O.2.1,.slice ag (O.2.2).length ah])[Int.toNat (az)*3+j]? =some w:=bQ;refine JB.V 6 true rfl rfl (fun ρ h s' hs=>Yl.A8 (Z.1).2 bq underlying130 (Ah type133) (h _ _ rfl) (h _ _ rfl)) ?_;refine JB.val (v:= .agg #[iV an.1,iV an.2.1,.slice aP (an.2.2).length aQ]) 7 false rfl (by decide+kernel) rfl rfl rfl (fun ρ h s' hs=>have hs:=hs rfl;Yl.Bj (vs:= [iV an.1,iV an.2.1,.slice aP (an.2.2).length aQ]) (Ao underlying133) (Ah type133) (h _ _ rfl) (fun q w W=>by rw [Bb rfl];exact Bd 0 a3 rfl (by simp [AD]) hs (bQ q w W))) ?_;refine JB.mv 8 rfl rfl ?_;refine JB.mv 9 rfl rfl ?_;obtain⟨ao,br,ex⟩:=bs eu;obtain⟨_,⟨_,_,rfl,rfl,⟨_,_,rfl,rfl,⟨aR,aS,rfl,ey⟩⟩⟩,bR⟩:=WL.at (Z.1.mono (au.trans aK)) br;replace bR:∀(j:Nat) w,[iV ao.1,iV ao.2.1,.slice aR (ao.2.2).length aS][j]? =some w→(AN (AN ai (Int.toNat (p1)*3) [iV K.1,iV K.2.1,.slice ae (K.2.2).length c4]) (Int.toNat (p3)*3) [iV O.1,iV O.2.1,.slice ag (O.2.2).length ah])[Int.toNat (ay)*3+j]? =some w:=bR;refine JB.V 10 true rfl rfl (fun ρ h s' hs=>Yl.A8 (Z.1).2 br underlying130 (Ah type133) (h _ _ rfl) (h _ _ rfl)) ?_;refine JB.val (v:= .agg #[iV ao.1,iV ao.2.1,.slice aR (ao.2.2).length aS]) 11 false rfl (by decide+kernel) rfl rfl rfl (fun ρ h s' hs=>have hs:=hs rfl;Yl.Bj (vs:= [iV ao.1,iV ao.2.1,.slice aR (ao.2.2).length aS]) (Ao underlying133) (Ah type133) (h _ _ rfl) (fun q w W=>by rw [Bb rfl];exact Bd 0 a3 rfl (by simp [AD]) hs (bR q w W))) ?_;refine JB.V 12 true rfl rfl (fun ρ h s' hs=>Yl.A8 (Z.1).2 br underlying130 (Ah type133) (h _ _ rfl) (h _ _ rfl)) ?_;have cP:=WL.put (x':=an) (ws':= [iV an.1,iV an.2.1,.slice aP (an.2.2).length aQ]) (Z.1.mono (au.trans aK)) (Z.1).2 br ⟨_,_,rfl,rfl,⟨_,_,rfl,rfl,⟨_,_,rfl,ew⟩⟩⟩;refine JB.store (v:= .agg #[iV an.1,iV an.2.1,.slice aP (an.2.2).length aQ]) (off:=Int.toNat (ay)*3) 13 0 (by decide+kernel) (by decide+kernel) rfl rfl rfl a3 rfl rfl (Ah type133) (by simp [Value.cells,Bx]) rfl cP.2 fun ez=>?_;refine JB.V 14 true rfl rfl (fun ρ h s' hs=>Yl.A8 (Z.1).2 bq underlying130 (Ah type133) (h _ _ rfl) (h _ _ rfl)) ?_;have cQ:=WL.put (x':=ao) (ws':= [iV ao.1,iV ao.2.1,.slice aR (ao.2.2).length aS]) cP.1 (Z.1).2 bq ⟨_,_,rfl,rfl,⟨_,_,rfl,rfl,⟨_,_,rfl,ey⟩⟩⟩;refine JB.store (v:= .agg #[iV ao.1,iV ao.2.1,.slice aR (ao.2.2).length aS]) (off:=Int.toNat (az)*3) 15 0 (by decide+kernel) (by decide+kernel) rfl rfl rfl ez rfl rfl (Ah type133) (by simp [Value.cells,Bx]) rfl cQ.2 fun eA=>?_;refine JB.fin (by decide+kernel) ?_;refine JS.norm (S':= [[(U,.cells (AN (AN (AN (AN ai (Int.toNat (p1)*3) [iV K.1,iV K.2.1,.slice ae (K.2.2).length c4]) (Int.toNat (p3)*3) [iV O.1,iV O.2.1,.slice ag (O.2.2).length ah]) (Int.toNat (ay)*3) [iV an.1,iV an.2.1,.slice aP (an.2.2).length aQ]) (Int.toNat (az)*3) [iV ao.1,iV ao.2.1,.slice aR (ao.2.2).length aS]) 133 (0,0))]]) rfl eA fun eB=>?_;obtain⟨eC,eD,eE⟩:=bs ex;refine JL.go 3 rfl ?_;refine JL.Y rfl (fun ρ h=>Yl.A0 (h _ _ rfl) (h _ _ rfl) eD) ?_;obtain⟨eF,eG,eH⟩:=bs eE;refine JL.go 5 rfl ?_;refine JL.Y rfl (fun ρ h=>Yl.A4 (h _ _ rfl) (h _ _ rfl) eG) ?_;obtain⟨a4,eI,eJ⟩:=bs eH;refine JL.go 3 rfl ?_;refine JL.join (fun L s=>∃(bS:LH) (f102:Array Value),Jn bd H bS [[(U,.cells f102 133 (0,0))]] [(0,.slice (some ⟨U,0,none⟩) ab aa),(1,iV p1),(13,iV a4.1)] L s (WL 133 (rP rI (rP rI (rL (rP rI (rP (rL rI) (rN .u16)))))) bS U aa ab f102 (a4.2))) ?_ ?_
    ·rintro _ _ ⟨bS,f102,rfl,rfl,eK,bT,aB⟩;refine JL.seq ?_;refine JB.draw [13,15] [U] mixed rfl ?_;refine JB.mv 0 rfl rfl ?_;refine JB.mv 1 rfl rfl ?_;refine JB.mv 2 rfl rfl ?_;refine JB.mv 3 rfl rfl ?_;refine JB.mv 4 rfl rfl ?_;refine JB.mv 5 rfl rfl ?_;obtain⟨ap,bu,eL⟩:=bs eJ;obtain⟨_,⟨_,_,rfl,rfl,⟨_,_,rfl,rfl,⟨aT,aU,rfl,eM⟩⟩⟩,bU⟩:=WL.at aB bu;replace bU:∀(j:Nat) w,[iV ap.1,iV ap.2.1,.slice aT (ap.2.2).length aU][j]? =some w→f102[Int.toNat (p1)*3+j]? =some w:=bU;refine JB.V 6 true rfl rfl (fun ρ h s' hs=>Yl.A8 aB.2 bu underlying130 (Ah type133) (h _ _ rfl) (h _ _ rfl)) ?_;refine JB.val (v:= .agg #[iV ap.1,iV ap.2.1,.slice aT (ap.2.2).length aU]) 7 false rfl (by decide+kernel) rfl rfl rfl (fun ρ h s' hs=>have hs:=hs rfl;Yl.Bj (vs:= [iV ap.1,iV ap.2.1,.slice aT (ap.2.2).length aU]) (Ao underlying133) (Ah type133) (h _ _ rfl) (fun q w W=>by rw [Bb rfl];exact Bd 0 bT rfl (by simp [AD]) hs (bU q w W))) ?_;refine JB.mv 8 rfl rfl ?_;refine JB.mv 9 rfl rfl ?_;obtain⟨aq,bv,eN⟩:=bs eL;obtain⟨_,⟨_,_,rfl,rfl,⟨_,_,rfl,rfl,⟨aV,aW,rfl,eO⟩⟩⟩,bV⟩:=WL.at aB bv;replace bV:∀(j:Nat) w,[iV aq.1,iV aq.2.1,.slice aV (aq.2.2).length aW][j]? =some w→f102[Int.toNat (a4.1)*3+j]? =some w:=bV;refine JB.V 10 true rfl rfl (fun ρ h s' hs=>Yl.A8 aB.2 bv underlying130 (Ah type133) (h _ _ rfl) (h _ _ rfl)) ?_;refine JB.val (v:= .agg #[iV aq.1,iV aq.2.1,.slice aV (aq.2.2).length aW]) 11 false rfl (by decide+kernel) rfl rfl rfl (fun ρ h s' hs=>have hs:=hs rfl;Yl.Bj (vs:= [iV aq.1,iV aq.2.1,.slice aV (aq.2.2).length aW]) (Ao underlying133) (Ah type133) (h _ _ rfl) (fun q w W=>by rw [Bb rfl];exact Bd 0 bT rfl (by simp [AD]) hs (bV q w W))) ?_;refine JB.V 12 true rfl rfl (fun ρ h s' hs=>Yl.A8 aB.2 bv underlying130 (Ah type133) (h _ _ rfl) (h _ _ rfl)) ?_;have cR:=WL.put (x':=ap) (ws':= [iV ap.1,iV ap.2.1,.slice aT (ap.2.2).length aU]) aB aB.2 bv ⟨_,_,rfl,rfl,⟨_,_,rfl,rfl,⟨_,_,rfl,eM⟩⟩⟩;refine JB.store (v:= .agg #[iV ap.1,iV ap.2.1,.slice aT (ap.2.2).length aU]) (off:=Int.toNat (a4.1)*3) 13 0 (by decide+kernel) (by decide+kernel) rfl rfl rfl bT rfl rfl (Ah type133) (by simp [Value.cells,Bx]) rfl cR.2 fun eP=>?_;refine JB.V 14 true rfl rfl (fun ρ h s' hs=>Yl.A8 aB.2 bu underlying130 (Ah type133) (h _ _ rfl) (h _ _ rfl)) ?_;have cT:=WL.put (x':=aq) (ws':= [iV aq.1,iV aq.2.1,.slice aV (aq.2.2).length aW]) cR.1 aB.2 bu ⟨_,_,rfl,rfl,⟨_,_,rfl,rfl,⟨_,_,rfl,eO⟩⟩⟩;refine JB.store (v:= .agg #[iV aq.1,iV aq.2.1,.slice aV (aq.2.2).length aW]) (off:=Int.toNat (p1)*3) 15 0 (by decide+kernel) (by decide+kernel) rfl rfl rfl eP rfl rfl (Ah type133) (by simp [Value.cells,Bx]) rfl cT.2 fun eQ=>?_;refine JB.fin (by decide+kernel) ?_;refine JS.norm (S':= [[(U,.cells (AN (AN f102 (Int.toNat (a4.1)*3) [iV ap.1,iV ap.2.1,.slice aT (ap.2.2).length aU]) (Int.toNat (p1)*3) [iV aq.1,iV aq.2.1,.slice aV (aq.2.2).length aW]) 133 (0,0))]]) rfl eQ fun eR=>?_;refine JL.go 6 rfl ?_;obtain rfl:=oi eN;refine JL.rt func185 rfl rfl ?_;exact cH _ _ _ _ ((au.trans aK).trans eK) rfl ⟨(AN (AN f102 (Int.toNat (a4.1)*3) [iV ap.1,iV ap.2.1,.slice aT (ap.2.2).length aU]) (Int.toNat (p1)*3) [iV aq.1,iV aq.2.1,.slice aV (aq.2.2).length aW]),rfl,(by first | rfl | simp | (simp [Value.cells])),cT.1⟩ eR
    ·intro eS;refine JL.block ?_;refine JL.wk [(0,.slice (some ⟨U,0,none⟩) ab aa),(1,iV p1),(4,(.func (.func 134) #[] #[])),(12,iV eC),(13,iV eF)] rfl ?_;refine JL.Bi eI (fun L s av=>∃(a5:LH) (f127:Array Value),Jn bd H a5 [[(U,.cells f127 133 (0,0))]] [(0,.slice (some ⟨U,0,none⟩) ab aa),(1,iV p1),(4,(.func (.func 134) #[] #[])),(12,iV av.1),(13,iV av.2.1)] L s (WL 133 (rP rI (rP rI (rL (rP rI (rP (rL rI) (rN .u16)))))) a5 U aa ab f127 (av.2.2))) ⟨bd,(AN (AN (AN (AN ai (Int.toNat (p1)*3) [iV K.1,iV K.2.1,.slice ae (K.2.2).length c4]) (Int.toNat (p3)*3) [iV O.1,iV O.2.1,.slice ag (O.2.2).length ah]) (Int.toNat (ay)*3) [iV an.1,iV an.2.1,.slice aP (an.2.2).length aQ]) (Int.toNat (az)*3) [iV ao.1,iV ao.2.1,.slice aR (ao.2.2).length aS]),rfl,rfl,(Le.refl _),eB,cQ.1⟩ ?_;rintro _ _ av ⟨a5,f127,rfl,rfl,cV,eT,ar⟩ eU ⟨gw,bW⟩ eV;have cW:=bW;unfold Gc at cW;obtain⟨aw,eW,eX⟩:=bs cW;refine JL.go 2 rfl ?_;refine JL.join (fun L s=>∃(bf:LH),Jm a5 H bf [[(U,.cells f127 133 (0,0))]] [(0,.slice (some ⟨U,0,none⟩) ab aa),(1,iV p1),(4,(.func (.func 134) #[] #[])),(12,iV aw),(13,iV av.2.1)] L s) ?_ ?_
     ·rintro _ _ ⟨bf,rfl,rfl,aA,eY⟩;obtain⟨aX,eZ,cX⟩:=bs eX;refine JL.seq ?_;refine JL.join (fun L s=>∃(bw:LH),Jm bf H bw [[(U,.cells f127 133 (0,0))]] [(0,.slice (some ⟨U,0,none⟩) ab aa),(1,iV p1),(4,(.func (.func 134) #[] #[])),(12,iV aw),(13,iV aX)] L s) ?_ ?_
      ·rintro _ _ ⟨bw,rfl,rfl,a6,bx⟩;refine JL.go 7 rfl ?_;refine JL.ifs (p:=aX<aw) rfl (fun bX=>?_) (fun bX=>?_)
       ·have cY:=cX;rw [if_pos bX] at cY;refine JL.exit rfl ?_;obtain rfl:=oi cY;obtain rfl:=eU _ bW;exact JL.kw (eS _ _ ⟨bw,f127,rfl,rfl,((cV.trans aA).trans a6),bx,(ar.mono (aA.trans a6))⟩) rfl
       ·have cZ:=cX;rw [if_neg bX] at cZ;refine JL.go 2 rfl ?_;refine JB.draw [13,15] [U] mixed rfl ?_;refine JB.mv 0 rfl rfl ?_;refine JB.mv 1 rfl rfl ?_;refine JB.mv 2 rfl rfl ?_;refine JB.mv 3 rfl rfl ?_;refine JB.mv 4 rfl rfl ?_;refine JB.mv 5 rfl rfl ?_;obtain⟨aj,bz,e0⟩:=bs cZ;obtain⟨_,⟨_,_,rfl,rfl,⟨_,_,rfl,rfl,⟨aY,aZ,rfl,e1⟩⟩⟩,bY⟩:=WL.at (ar.mono (aA.trans a6)) bz;replace bY:∀(j:Nat) w,[iV aj.1,iV aj.2.1,.slice aY (aj.2.2).length aZ][j]? =some w→f127[Int.toNat (aX)*3+j]? =some w:=bY;refine JB.V 6 true rfl rfl (fun ρ h s' hs=>Yl.A8 ar.2 bz underlying130 (Ah type133) (h _ _ rfl) (h _ _ rfl)) ?_;refine JB.val (v:= .agg #[iV aj.1,iV aj.2.1,.slice aY (aj.2.2).length aZ]) 7 false rfl (by decide+kernel) rfl rfl rfl (fun ρ h s' hs=>have hs:=hs rfl;Yl.Bj (vs:= [iV aj.1,iV aj.2.1,.slice aY (aj.2.2).length aZ]) (Ao underlying133) (Ah type133) (h _ _ rfl) (fun q w W=>by rw [Bb rfl];exact Bd 0 bx rfl (by simp [AD]) hs (bY q w W))) ?_;refine JB.mv 8 rfl rfl ?_;refine JB.mv 9 rfl rfl ?_;obtain⟨ak,bA,e2⟩:=bs e0;obtain⟨_,⟨_,_,rfl,rfl,⟨_,_,rfl,rfl,⟨a0,a1,rfl,e3⟩⟩⟩,bZ⟩:=WL.at (ar.mono (aA.trans a6)) bA;replace bZ:∀(j:Nat) w,[iV ak.1,iV ak.2.1,.slice a0 (ak.2.2).length a1][j]? =some w→f127[Int.toNat (aw)*3+j]? =some w:=bZ;refine JB.V 10 true rfl rfl (fun ρ h s' hs=>Yl.A8 ar.2 bA underlying130 (Ah type133) (h _ _ rfl) (h _ _ rfl)) ?_;refine JB.val (v:= .agg #[iV ak.1,iV ak.2.1,.slice a0 (ak.2.2).length a1]) 11 false rfl (by decide+kernel) rfl rfl rfl (fun ρ h s' hs=>have hs:=hs rfl;Yl.Bj (vs:= [iV ak.1,iV ak.2.1,.slice a0 (ak.2.2).length a1]) (Ao underlying133) (Ah type133) (h _ _ rfl) (fun q w W=>by rw [Bb rfl];exact Bd 0 bx rfl (by simp [AD]) hs (bZ q w W))) ?_;refine JB.V 12 true rfl rfl (fun ρ h s' hs=>Yl.A8 ar.2 bA underlying130 (Ah type133) (h _ _ rfl) (h _ _ rfl)) ?_;have c0:=WL.put (x':=aj) (ws':= [iV aj.1,iV aj.2.1,.slice aY (aj.2.2).length aZ]) (ar.mono (aA.trans a6)) ar.2 bA ⟨_,_,rfl,rfl,⟨_,_,rfl,rfl,⟨_,_,rfl,e1⟩⟩⟩;refine JB.store (v:= .agg #[iV aj.1,iV aj.2.1,.slice aY (aj.2.2).length aZ]) (off:=Int.toNat (aw)*3) 13 0 (by decide+kernel) (by decide+kernel) rfl rfl rfl bx rfl rfl (Ah type133) (by simp [Value.cells,Bx]) rfl c0.2 fun e4=>?_;refine JB.V 14 true rfl rfl (fun ρ h s' hs=>Yl.A8 ar.2 bz underlying130 (Ah type133) (h _ _ rfl) (h _ _ rfl)) ?_;have c1:=WL.put (x':=ak) (ws':= [iV ak.1,iV ak.2.1,.slice a0 (ak.2.2).length a1]) c0.1 ar.2 bz ⟨_,_,rfl,rfl,⟨_,_,rfl,rfl,⟨_,_,rfl,e3⟩⟩⟩;refine JB.store (v:= .agg #[iV ak.1,iV ak.2.1,.slice a0 (ak.2.2).length a1]) (off:=Int.toNat (aX)*3) 15 0 (by decide+kernel) (by decide+kernel) rfl rfl rfl e4 rfl rfl (Ah type133) (by simp [Value.cells,Bx]) rfl c1.2 fun e5=>?_;refine JB.fin (by decide+kernel) ?_;refine JS.norm (S':= [[(U,.cells (AN (AN f127 (Int.toNat (aw)*3) [iV aj.1,iV aj.2.1,.slice aY (aj.2.2).length aZ]) (Int.toNat (aX)*3) [iV ak.1,iV ak.2.1,.slice a0 (ak.2.2).length a1]) 133 (0,0))]]) rfl e5 fun e6=>?_;obtain⟨e7,e8,e9⟩:=bs e2;refine JL.go 3 rfl ?_;refine JL.Y rfl (fun ρ h=>Yl.A0 (h _ _ rfl) (h _ _ rfl) e8) ?_;obtain⟨fa,fb,fc⟩:=bs e9;refine JL.go 4 rfl ?_;refine JL.Y rfl (fun ρ h=>Yl.A4 (h _ _ rfl) (h _ _ rfl) fb) ?_;refine JL.go 3 rfl ?_;obtain rfl:=oi fc;exact JL.kw (eV _ _ (e7,fa,((av.2.2.set (Int.toNat aw) aj).set (Int.toNat aX) ak)) ⟨bw,(AN (AN f127 (Int.toNat (aw)*3) [iV aj.1,iV aj.2.1,.slice aY (aj.2.2).length aZ]) (Int.toNat (aX)*3) [iV ak.1,iV ak.2.1,.slice a0 (ak.2.2).length a1]),rfl,rfl,((cV.trans aA).trans a6),e6,c1.1⟩ bW) rfl
      ·intro fe;refine JL.block ?_;refine JL.wk [(0,.slice (some ⟨U,0,none⟩) ab aa),(1,iV p1),(4,(.func (.func 134) #[] #[])),(12,iV aw),(13,iV av.2.1)] rfl ?_;refine JL.Bi eZ (fun L s bg=>∃(bB:LH),Jm bf H bB [[(U,.cells f127 133 (0,0))]] [(0,.slice (some ⟨U,0,none⟩) ab aa),(1,iV p1),(4,(.func (.func 134) #[] #[])),(12,iV aw),(13,iV bg)] L s) ⟨bf,rfl,rfl,(Le.refl _),eY⟩ ?_;rintro _ _ bg ⟨bB,rfl,rfl,a7,bh⟩ ff ⟨gx,b0⟩ fg;have c2:=b0;unfold GG at c2;refine JL.go 2 rfl ?_;refine JG.B8 17 [U] ⟨⟨0,_,rfl⟩,trivial⟩ bh mixed rfl (by decide+kernel) fun ht=>?_;refine JG.mv 0 ht rfl rfl ?_;refine JG.mv 1 ht rfl rfl ?_;refine JG.mv 2 ht rfl rfl ?_;refine JG.mv 3 ht rfl rfl ?_;obtain⟨c3,c5,c6⟩:=bs c2;refine Aw.join 0 #[true,true,true,true,true,true,true,true,true,true,true,true,true,true,true,true,true] (fun L s=>∃(bC:LH),Jm bB H bC [[(U,.cells f127 133 (0,0))]] [(0,.slice (some ⟨U,0,none⟩) ab aa),(1,iV p1),(4,(.func (.func 134) #[] #[])),(12,iV aw),(13,iV bg),(139,.bool c3)] L s) ?_ ?_
       ·rintro _ _ ⟨bC,rfl,rfl,c7,c8⟩;refine Aw.fin (by decide+kernel) ?_;refine JL.split (t:=c3) rfl (fun b1=>?_) (fun b1=>?_)
        ·have c9:=c6;rw [if_pos b1] at c9;obtain⟨fh,fj,fk⟩:=bs c9;refine JL.go 4 rfl ?_;refine JL.Y rfl (fun ρ h=>Yl.A4 (h _ _ rfl) (h _ _ rfl) fj) ?_;refine JL.go 3 rfl ?_;obtain rfl:=oi fk;exact JL.kw (fg _ _ fh ⟨bC,rfl,rfl,(a7.trans c7),c8⟩ b0) rfl
        ·have da:=c6;rw [if_neg (by rw [b1];exact Bool.false_ne_true)] at da;refine JL.exit rfl ?_;obtain rfl:=oi da;obtain rfl:=ff _ b0;exact JL.kw (fe _ _ ⟨bC,rfl,rfl,(a7.trans c7),c8⟩) rfl
       ·intro db;refine Aw.B5 (q:=aw≤bg) (i:=126) rfl (fun b2=>?_) (fun b2=>?_)
        ·have dc:=c5;rw [if_pos b2] at dc;refine JG.mv 4 ht rfl rfl ?_;refine JG.mv 5 ht rfl rfl ?_;refine JG.mv 6 ht rfl rfl ?_;obtain⟨aC,dd,fm⟩:=bs dc;obtain⟨_,⟨_,_,rfl,rfl,⟨_,_,rfl,rfl,⟨b3,b4,rfl,fo⟩⟩⟩,b5⟩:=WL.at (ar.mono (aA.trans a7)) dd;replace b5:∀(j:Nat) w,[iV aC.1,iV aC.2.1,.slice b3 (aC.2.2).length b4][j]? =some w→f127[Int.toNat (bg)*3+j]? =some w:=b5;refine JG.V 7 ht rfl rfl (fun ρ h s' hs=>Yl.A8 ((ar.mono (aA.trans a7))).2 dd underlying130 (Ah type133) (h _ _ rfl) (h _ _ rfl)) ?_;refine JG.V 8 ht rfl rfl (fun ρ h s' hs=>Yl.Bj (vs:= [iV aC.1,iV aC.2.1,.slice b3 (aC.2.2).length b4]) (Ao underlying133) (Ah type133) (h _ _ rfl) (fun q w W=>by rw [Bb rfl];exact Bd 0 bh rfl (by simp [AD]) hs (b5 q w W))) ?_;refine JG.mv 9 ht rfl rfl ?_;refine JG.mv 10 ht rfl rfl ?_;obtain⟨aD,de,fp⟩:=bs fm;obtain⟨_,⟨_,_,rfl,rfl,⟨_,_,rfl,rfl,⟨b6,b7,rfl,fq⟩⟩⟩,b8⟩:=WL.at (ar.mono (aA.trans a7)) de;replace b8:∀(j:Nat) w,[iV aD.1,iV aD.2.1,.slice b6 (aD.2.2).length b7][j]? =some w→f127[Int.toNat (p1)*3+j]? =some w:=b8;refine JG.V 11 ht rfl rfl (fun ρ h s' hs=>Yl.A8 ((ar.mono (aA.trans a7))).2 de underlying130 (Ah type133) (h _ _ rfl) (h _ _ rfl)) ?_;refine JG.V 12 ht rfl rfl (fun ρ h s' hs=>Yl.Bj (vs:= [iV aD.1,iV aD.2.1,.slice b6 (aD.2.2).length b7]) (Ao underlying133) (Ah type133) (h _ _ rfl) (fun q w W=>by rw [Bb rfl];exact Bd 0 bh rfl (by simp [AD]) hs (b8 q w W))) ?_;obtain⟨fs,fu,fv⟩:=bs fp;refine JG.Fq (i:=13) ⟨⟨0,_,rfl⟩,trivial⟩ (vs:= [.agg #[iV aC.1,iV aC.2.1,.slice b3 (aC.2.2).length b4],.agg #[iV aD.1,iV aD.2.1,.slice b6 (aD.2.2).length b7]]) (Eu fo fq fu) (by decide+kernel) rfl rfl rfl rfl (Ay func134 rfl) rfl bh ?_;rintro _ fw _ fx ⟨rfl,rfl⟩ fy;refine JG.mv 14 ht rfl rfl ?_;refine JG.V (v:= .bool (decide (¬(fs<0)))) 15 ht rfl rfl (fun ρ h s' hs=>Yl.Gm (h _ _ rfl)) ?_;refine JG.mv 16 ht rfl rfl ?_;obtain rfl:=oi fv;refine Aw.B6 ?_ (db _ _ ⟨fw,rfl,rfl,fx,fy⟩);exact⟨rfl,rfl,rfl,rfl,rfl,rfl,trivial⟩
        ·have df:=c5;rw [if_neg b2] at df;refine JG.mv 4 ht rfl rfl ?_;refine JG.mv 5 ht rfl rfl ?_;refine JG.mv 6 ht rfl rfl ?_;refine JG.mv 7 ht rfl rfl ?_;refine JG.mv 8 ht rfl rfl ?_;refine JG.mv 9 ht rfl rfl ?_;refine JG.mv 10 ht rfl rfl ?_;refine JG.mv 11 ht rfl rfl ?_;refine JG.mv 12 ht rfl rfl ?_;refine JG.mv 13 ht rfl rfl ?_;refine JG.mv 14 ht rfl rfl ?_;refine JG.mv 15 ht rfl rfl ?_;refine JG.mv 16 ht rfl rfl ?_;obtain rfl:=oi df;refine Aw.B6 ?_ (db _ _ ⟨bB,rfl,rfl,(Le.refl _),bh⟩);exact⟨rfl,rfl,rfl,rfl,rfl,rfl,trivial⟩
     ·intro fz;refine JL.block ?_;refine JL.wk [(0,.slice (some ⟨U,0,none⟩) ab aa),(1,iV p1),(4,(.func (.func 134) #[] #[])),(12,iV av.1),(13,iV av.2.1)] rfl ?_;refine JL.Bi eW (fun L s bi=>∃(bD:LH),Jm a5 H bD [[(U,.cells f127 133 (0,0))]] [(0,.slice (some ⟨U,0,none⟩) ab aa),(1,iV p1),(4,(.func (.func 134) #[] #[])),(12,iV bi),(13,iV av.2.1)] L s) ⟨a5,rfl,rfl,(Le.refl _),eT⟩ ?_;rintro _ _ bi ⟨bD,rfl,rfl,a8,bj⟩ fA ⟨gy,b9⟩ fB;have dg:=b9;unfold GJ at dg;refine JL.go 2 rfl ?_;refine JG.B8 16 [U] ⟨⟨0,_,rfl⟩,trivial⟩ bj mixed rfl (by decide+kernel) fun ht=>?_;refine JG.mv 0 ht rfl rfl ?_;refine JG.mv 1 ht rfl rfl ?_;refine JG.mv 2 ht rfl rfl ?_;refine JG.mv 3 ht rfl rfl ?_;obtain⟨dh,di,dj⟩:=bs dg;refine Aw.join 0 #[true,true,true,true,true,true,true,true,true,true,true,true,true,true,true,true] (fun L s=>∃(bE:LH),Jm bD H bE [[(U,.cells f127 133 (0,0))]] [(0,.slice (some ⟨U,0,none⟩) ab aa),(1,iV p1),(4,(.func (.func 134) #[] #[])),(12,iV bi),(13,iV av.2.1),(120,.bool dh)] L s) ?_ ?_
      ·rintro _ _ ⟨bE,rfl,rfl,dk,dl⟩;refine Aw.fin (by decide+kernel) ?_;refine JL.split (t:=dh) rfl (fun ca=>?_) (fun ca=>?_)
       ·have dm:=dj;rw [if_pos ca] at dm;obtain⟨fC,fD,fE⟩:=bs dm;refine JL.go 4 rfl ?_;refine JL.Y rfl (fun ρ h=>Yl.A0 (h _ _ rfl) (h _ _ rfl) fD) ?_;refine JL.go 3 rfl ?_;obtain rfl:=oi fE;exact JL.kw (fB _ _ fC ⟨bE,rfl,rfl,(a8.trans dk),dl⟩ b9) rfl
       ·have dn:=dj;rw [if_neg (by rw [ca];exact Bool.false_ne_true)] at dn;refine JL.exit rfl ?_;obtain rfl:=oi dn;obtain rfl:=fA _ b9;exact JL.kw (fz _ _ ⟨bE,rfl,rfl,(a8.trans dk),dl⟩) rfl
      ·intro dp;refine Aw.B5 (q:=bi≤av.2.1) (i:=108) rfl (fun cb=>?_) (fun cb=>?_)
       ·have dq:=di;rw [if_pos cb] at dq;refine JG.mv 4 ht rfl rfl ?_;refine JG.mv 5 ht rfl rfl ?_;refine JG.mv 6 ht rfl rfl ?_;obtain⟨aE,dr,fF⟩:=bs dq;obtain⟨_,⟨_,_,rfl,rfl,⟨_,_,rfl,rfl,⟨cc,cd,rfl,fG⟩⟩⟩,ce⟩:=WL.at (ar.mono a8) dr;replace ce:∀(j:Nat) w,[iV aE.1,iV aE.2.1,.slice cc (aE.2.2).length cd][j]? =some w→f127[Int.toNat (bi)*3+j]? =some w:=ce;refine JG.V 7 ht rfl rfl (fun ρ h s' hs=>Yl.A8 ((ar.mono a8)).2 dr underlying130 (Ah type133) (h _ _ rfl) (h _ _ rfl)) ?_;refine JG.V 8 ht rfl rfl (fun ρ h s' hs=>Yl.Bj (vs:= [iV aE.1,iV aE.2.1,.slice cc (aE.2.2).length cd]) (Ao underlying133) (Ah type133) (h _ _ rfl) (fun q w W=>by rw [Bb rfl];exact Bd 0 bj rfl (by simp [AD]) hs (ce q w W))) ?_;refine JG.mv 9 ht rfl rfl ?_;refine JG.mv 10 ht rfl rfl ?_;obtain⟨aF,dt,fH⟩:=bs fF;obtain⟨_,⟨_,_,rfl,rfl,⟨_,_,rfl,rfl,⟨cf,cg,rfl,fI⟩⟩⟩,ci⟩:=WL.at (ar.mono a8) dt;replace ci:∀(j:Nat) w,[iV aF.1,iV aF.2.1,.slice cf (aF.2.2).length cg][j]? =some w→f127[Int.toNat (p1)*3+j]? =some w:=ci;refine JG.V 11 ht rfl rfl (fun ρ h s' hs=>Yl.A8 ((ar.mono a8)).2 dt underlying130 (Ah type133) (h _ _ rfl) (h _ _ rfl)) ?_;refine JG.V 12 ht rfl rfl (fun ρ h s' hs=>Yl.Bj (vs:= [iV aF.1,iV aF.2.1,.slice cf (aF.2.2).length cg]) (Ao underlying133) (Ah type133) (h _ _ rfl) (fun q w W=>by rw [Bb rfl];exact Bd 0 bj rfl (by simp [AD]) hs (ci q w W))) ?_;obtain⟨gz,fJ,fK⟩:=bs fH;refine JG.Fq (i:=13) ⟨⟨0,_,rfl⟩,trivial⟩ (vs:= [.agg #[iV aE.1,iV aE.2.1,.slice cc (aE.2.2).length cd],.agg #[iV aF.1,iV aF.2.1,.slice cf (aF.2.2).length cg]]) (Eu fG fI fJ) (by decide+kernel) rfl rfl rfl rfl (Ay func134 rfl) rfl bj ?_;rintro _ fL _ fM ⟨rfl,rfl⟩ fN;refine JG.mv 14 ht rfl rfl ?_;refine JG.mv 15 ht rfl rfl ?_;obtain rfl:=oi fK;refine Aw.B6 ?_ (dp _ _ ⟨fL,rfl,rfl,fM,fN⟩);exact⟨rfl,rfl,rfl,rfl,rfl,rfl,trivial⟩
       ·have du:=di;rw [if_neg cb] at du;refine JG.mv 4 ht rfl rfl ?_;refine JG.mv 5 ht rfl rfl ?_;refine JG.mv 6 ht rfl rfl ?_;refine JG.mv 7 ht rfl rfl ?_;refine JG.mv 8 ht rfl rfl ?_;refine JG.mv 9 ht rfl rfl ?_;refine JG.mv 10 ht rfl rfl ?_;refine JG.mv 11 ht rfl rfl ?_;refine JG.mv 12 ht rfl rfl ?_;refine JG.mv 13 ht rfl rfl ?_;refine JG.mv 14 ht rfl rfl ?_;refine JG.mv 15 ht rfl rfl ?_;obtain rfl:=oi du;refine Aw.B6 ?_ (dp _ _ ⟨bD,rfl,rfl,(Le.refl _),bj⟩);exact⟨rfl,rfl,rfl,rfl,rfl,rfl,trivial⟩
  ·intro fO;refine JL.block ?_;refine JL.wk [(0,.slice (some ⟨U,0,none⟩) ab aa),(1,iV p1),(4,(.func (.func 134) #[] #[])),(12,iV ay),(13,iV a2)] rfl ?_;refine JL.Bi ek (fun L s bk=>∃(bF:LH),Jm bc H bF [[(U,.cells (AN (AN ai (Int.toNat (p1)*3) [iV K.1,iV K.2.1,.slice ae (K.2.2).length c4]) (Int.toNat (p3)*3) [iV O.1,iV O.2.1,.slice ag (O.2.2).length ah]) 133 (0,0))]] [(0,.slice (some ⟨U,0,none⟩) ab aa),(1,iV p1),(4,(.func (.func 134) #[] #[])),(12,iV ay),(13,iV bk)] L s) ⟨bc,rfl,rfl,(Le.refl _),ej⟩ ?_;rintro _ _ bk ⟨bF,rfl,rfl,a9,bl⟩ fP ⟨gA,ck⟩ fQ;have dv:=ck;unfold Hk at dv;refine JL.go 2 rfl ?_;refine JG.B8 17 [U] ⟨⟨0,_,rfl⟩,trivial⟩ bl mixed rfl (by decide+kernel) fun ht=>?_;refine JG.mv 0 ht rfl rfl ?_;refine JG.mv 1 ht rfl rfl ?_;refine JG.mv 2 ht rfl rfl ?_;refine JG.mv 3 ht rfl rfl ?_;obtain⟨dw,dx,dy⟩:=bs dv;refine Aw.join 0 #[true,true,true,true,true,true,true,true,true,true,true,true,true,true,true,true,true] (fun L s=>∃(bG:LH),Jm bF H bG [[(U,.cells (AN (AN ai (Int.toNat (p1)*3) [iV K.1,iV K.2.1,.slice ae (K.2.2).length c4]) (Int.toNat (p3)*3) [iV O.1,iV O.2.1,.slice ag (O.2.2).length ah]) 133 (0,0))]] [(0,.slice (some ⟨U,0,none⟩) ab aa),(1,iV p1),(4,(.func (.func 134) #[] #[])),(12,iV ay),(13,iV bk),(66,.bool dw)] L s) ?_ ?_
   ·rintro _ _ ⟨bG,rfl,rfl,dz,dA⟩;refine Aw.fin (by decide+kernel) ?_;refine JL.split (t:=dw) rfl (fun cm=>?_) (fun cm=>?_)
    ·have dB:=dy;rw [if_pos cm] at dB;obtain⟨fR,fS,fT⟩:=bs dB;refine JL.go 4 rfl ?_;refine JL.Y rfl (fun ρ h=>Yl.A4 (h _ _ rfl) (h _ _ rfl) fS) ?_;refine JL.go 3 rfl ?_;obtain rfl:=oi fT;exact JL.kw (fQ _ _ fR ⟨bG,rfl,rfl,(a9.trans dz),dA⟩ ck) rfl
    ·have dC:=dy;rw [if_neg (by rw [cm];exact Bool.false_ne_true)] at dC;refine JL.exit rfl ?_;obtain rfl:=oi dC;obtain rfl:=fP _ ck;exact JL.kw (fO _ _ ⟨bG,rfl,rfl,(a9.trans dz),dA⟩) rfl
   ·intro dD;refine Aw.B5 (q:=ay≤bk) (i:=53) rfl (fun cn=>?_) (fun cn=>?_)
    ·have dE:=dx;rw [if_pos cn] at dE;refine JG.mv 4 ht rfl rfl ?_;refine JG.mv 5 ht rfl rfl ?_;refine JG.mv 6 ht rfl rfl ?_;obtain⟨aG,dF,fU⟩:=bs dE;obtain⟨_,⟨_,_,rfl,rfl,⟨_,_,rfl,rfl,⟨co,cp,rfl,fV⟩⟩⟩,cq⟩:=WL.at (Z.1.mono (au.trans a9)) dF;replace cq:∀(j:Nat) w,[iV aG.1,iV aG.2.1,.slice co (aG.2.2).length cp][j]? =some w→(AN (AN ai (Int.toNat (p1)*3) [iV K.1,iV K.2.1,.slice ae (K.2.2).length c4]) (Int.toNat (p3)*3) [iV O.1,iV O.2.1,.slice ag (O.2.2).length ah])[Int.toNat (bk)*3+j]? =some w:=cq;refine JG.V 7 ht rfl rfl (fun ρ h s' hs=>Yl.A8 ((Z.1.mono (au.trans a9))).2 dF underlying130 (Ah type133) (h _ _ rfl) (h _ _ rfl)) ?_;refine JG.V 8 ht rfl rfl (fun ρ h s' hs=>Yl.Bj (vs:= [iV aG.1,iV aG.2.1,.slice co (aG.2.2).length cp]) (Ao underlying133) (Ah type133) (h _ _ rfl) (fun q w W=>by rw [Bb rfl];exact Bd 0 bl rfl (by simp [AD]) hs (cq q w W))) ?_;refine JG.mv 9 ht rfl rfl ?_;refine JG.mv 10 ht rfl rfl ?_;obtain⟨aH,dG,fW⟩:=bs fU;obtain⟨_,⟨_,_,rfl,rfl,⟨_,_,rfl,rfl,⟨cr,ct,rfl,fX⟩⟩⟩,cu⟩:=WL.at (Z.1.mono (au.trans a9)) dG;replace cu:∀(j:Nat) w,[iV aH.1,iV aH.2.1,.slice cr (aH.2.2).length ct][j]? =some w→(AN (AN ai (Int.toNat (p1)*3) [iV K.1,iV K.2.1,.slice ae (K.2.2).length c4]) (Int.toNat (p3)*3) [iV O.1,iV O.2.1,.slice ag (O.2.2).length ah])[Int.toNat (p1)*3+j]? =some w:=cu;refine JG.V 11 ht rfl rfl (fun ρ h s' hs=>Yl.A8 ((Z.1.mono (au.trans a9))).2 dG underlying130 (Ah type133) (h _ _ rfl) (h _ _ rfl)) ?_;refine JG.V 12 ht rfl rfl (fun ρ h s' hs=>Yl.Bj (vs:= [iV aH.1,iV aH.2.1,.slice cr (aH.2.2).length ct]) (Ao underlying133) (Ah type133) (h _ _ rfl) (fun q w W=>by rw [Bb rfl];exact Bd 0 bl rfl (by simp [AD]) hs (cu q w W))) ?_;obtain⟨fY,fZ,ga⟩:=bs fW;refine JG.Fq (i:=13) ⟨⟨0,_,rfl⟩,trivial⟩ (vs:= [.agg #[iV aG.1,iV aG.2.1,.slice co (aG.2.2).length cp],.agg #[iV aH.1,iV aH.2.1,.slice cr (aH.2.2).length ct]]) (Eu fV fX fZ) (by decide+kernel) rfl rfl rfl rfl (Ay func134 rfl) rfl bl ?_;rintro _ gb _ gc ⟨rfl,rfl⟩ gd;refine JG.mv 14 ht rfl rfl ?_;refine JG.V (v:= .bool (decide (¬(fY<0)))) 15 ht rfl rfl (fun ρ h s' hs=>Yl.Gm (h _ _ rfl)) ?_;refine JG.mv 16 ht rfl rfl ?_;obtain rfl:=oi ga;refine Aw.B6 ?_ (dD _ _ ⟨gb,rfl,rfl,gc,gd⟩);exact⟨rfl,rfl,rfl,rfl,rfl,rfl,trivial⟩
    ·have dH:=dx;rw [if_neg cn] at dH;refine JG.mv 4 ht rfl rfl ?_;refine JG.mv 5 ht rfl rfl ?_;refine JG.mv 6 ht rfl rfl ?_;refine JG.mv 7 ht rfl rfl ?_;refine JG.mv 8 ht rfl rfl ?_;refine JG.mv 9 ht rfl rfl ?_;refine JG.mv 10 ht rfl rfl ?_;refine JG.mv 11 ht rfl rfl ?_;refine JG.mv 12 ht rfl rfl ?_;refine JG.mv 13 ht rfl rfl ?_;refine JG.mv 14 ht rfl rfl ?_;refine JG.mv 15 ht rfl rfl ?_;refine JG.mv 16 ht rfl rfl ?_;obtain rfl:=oi dH;refine Aw.B6 ?_ (dD _ _ ⟨bF,rfl,rfl,(Le.refl _),bl⟩);exact⟨rfl,rfl,rfl,rfl,rfl,rfl,trivial⟩
 ·intro ge;refine JL.block ?_;refine JL.wk [(0,.slice (some ⟨U,0,none⟩) ab aa),(1,iV p1),(4,(.func (.func 134) #[] #[])),(12,iV ec),(13,iV a2)] rfl ?_;refine JL.Bi eh (fun L s bm=>∃(bH:LH),Jm E H bH [[(U,.cells (AN (AN ai (Int.toNat (p1)*3) [iV K.1,iV K.2.1,.slice ae (K.2.2).length c4]) (Int.toNat (p3)*3) [iV O.1,iV O.2.1,.slice ag (O.2.2).length ah]) 133 (0,0))]] [(0,.slice (some ⟨U,0,none⟩) ab aa),(1,iV p1),(4,(.func (.func 134) #[] #[])),(12,iV bm),(13,iV a2)] L s) ⟨E,rfl,rfl,(Le.refl _),eb⟩ ?_;rintro _ _ bm ⟨bH,rfl,rfl,ba,bn⟩ gf ⟨gB,cv⟩ gg;have dI:=cv;unfold Hj at dI;refine JL.go 2 rfl ?_;refine JG.B8 16 [U] ⟨⟨0,_,rfl⟩,trivial⟩ bn mixed rfl (by decide+kernel) fun ht=>?_;refine JG.mv 0 ht rfl rfl ?_;refine JG.mv 1 ht rfl rfl ?_;refine JG.mv 2 ht rfl rfl ?_;refine JG.mv 3 ht rfl rfl ?_;obtain⟨dJ,dK,dL⟩:=bs dI;refine Aw.join 0 #[true,true,true,true,true,true,true,true,true,true,true,true,true,true,true,true] (fun L s=>∃(bI:LH),Jm bH H bI [[(U,.cells (AN (AN ai (Int.toNat (p1)*3) [iV K.1,iV K.2.1,.slice ae (K.2.2).length c4]) (Int.toNat (p3)*3) [iV O.1,iV O.2.1,.slice ag (O.2.2).length ah]) 133 (0,0))]] [(0,.slice (some ⟨U,0,none⟩) ab aa),(1,iV p1),(4,(.func (.func 134) #[] #[])),(12,iV bm),(13,iV a2),(47,.bool dJ)] L s) ?_ ?_
  ·rintro _ _ ⟨bI,rfl,rfl,dM,dN⟩;refine Aw.fin (by decide+kernel) ?_;refine JL.split (t:=dJ) rfl (fun cw=>?_) (fun cw=>?_)
   ·have dO:=dL;rw [if_pos cw] at dO;obtain⟨gh,gi,gj⟩:=bs dO;refine JL.go 4 rfl ?_;refine JL.Y rfl (fun ρ h=>Yl.A0 (h _ _ rfl) (h _ _ rfl) gi) ?_;refine JL.go 3 rfl ?_;obtain rfl:=oi gj;exact JL.kw (gg _ _ gh ⟨bI,rfl,rfl,(ba.trans dM),dN⟩ cv) rfl
   ·have dP:=dL;rw [if_neg (by rw [cw];exact Bool.false_ne_true)] at dP;refine JL.exit rfl ?_;obtain rfl:=oi dP;obtain rfl:=gf _ cv;exact JL.kw (ge _ _ ⟨bI,rfl,rfl,(ba.trans dM),dN⟩) rfl
  ·intro dQ;refine Aw.B5 (q:=bm≤a2) (i:=35) rfl (fun cy=>?_) (fun cy=>?_)
   ·have dR:=dK;rw [if_pos cy] at dR;refine JG.mv 4 ht rfl rfl ?_;refine JG.mv 5 ht rfl rfl ?_;refine JG.mv 6 ht rfl rfl ?_;obtain⟨aI,dS,gk⟩:=bs dR;obtain⟨_,⟨_,_,rfl,rfl,⟨_,_,rfl,rfl,⟨cz,cA,rfl,gl⟩⟩⟩,cB⟩:=WL.at (Z.1.mono ba) dS;replace cB:∀(j:Nat) w,[iV aI.1,iV aI.2.1,.slice cz (aI.2.2).length cA][j]? =some w→(AN (AN ai (Int.toNat (p1)*3) [iV K.1,iV K.2.1,.slice ae (K.2.2).length c4]) (Int.toNat (p3)*3) [iV O.1,iV O.2.1,.slice ag (O.2.2).length ah])[Int.toNat (bm)*3+j]? =some w:=cB;refine JG.V 7 ht rfl rfl (fun ρ h s' hs=>Yl.A8 ((Z.1.mono ba)).2 dS underlying130 (Ah type133) (h _ _ rfl) (h _ _ rfl)) ?_;refine JG.V 8 ht rfl rfl (fun ρ h s' hs=>Yl.Bj (vs:= [iV aI.1,iV aI.2.1,.slice cz (aI.2.2).length cA]) (Ao underlying133) (Ah type133) (h _ _ rfl) (fun q w W=>by rw [Bb rfl];exact Bd 0 bn rfl (by simp [AD]) hs (cB q w W))) ?_;refine JG.mv 9 ht rfl rfl ?_;refine JG.mv 10 ht rfl rfl ?_;obtain⟨aJ,dT,gm⟩:=bs gk;obtain⟨_,⟨_,_,rfl,rfl,⟨_,_,rfl,rfl,⟨cC,cD,rfl,gn⟩⟩⟩,cE⟩:=WL.at (Z.1.mono ba) dT;replace cE:∀(j:Nat) w,[iV aJ.1,iV aJ.2.1,.slice cC (aJ.2.2).length cD][j]? =some w→(AN (AN ai (Int.toNat (p1)*3) [iV K.1,iV K.2.1,.slice ae (K.2.2).length c4]) (Int.toNat (p3)*3) [iV O.1,iV O.2.1,.slice ag (O.2.2).length ah])[Int.toNat (p1)*3+j]? =some w:=cE;refine JG.V 11 ht rfl rfl (fun ρ h s' hs=>Yl.A8 ((Z.1.mono ba)).2 dT underlying130 (Ah type133) (h _ _ rfl) (h _ _ rfl)) ?_;refine JG.V 12 ht rfl rfl (fun ρ h s' hs=>Yl.Bj (vs:= [iV aJ.1,iV aJ.2.1,.slice cC (aJ.2.2).length cD]) (Ao underlying133) (Ah type133) (h _ _ rfl) (fun q w W=>by rw [Bb rfl];exact Bd 0 bn rfl (by simp [AD]) hs (cE q w W))) ?_;obtain⟨gC,gp,gq⟩:=bs gm;refine JG.Fq (i:=13) ⟨⟨0,_,rfl⟩,trivial⟩ (vs:= [.agg #[iV aI.1,iV aI.2.1,.slice cz (aI.2.2).length cA],.agg #[iV aJ.1,iV aJ.2.1,.slice cC (aJ.2.2).length cD]]) (Eu gl gn gp) (by decide+kernel) rfl rfl rfl rfl (Ay func134 rfl) rfl bn ?_;rintro _ gr _ gt ⟨rfl,rfl⟩ gu;refine JG.mv 14 ht rfl rfl ?_;refine JG.mv 15 ht rfl rfl ?_;obtain rfl:=oi gq;refine Aw.B6 ?_ (dQ _ _ ⟨gr,rfl,rfl,gt,gu⟩);exact⟨rfl,rfl,rfl,rfl,rfl,rfl,trivial⟩
   ·have dU:=dK;rw [if_neg cy] at dU;refine JG.mv 4 ht rfl rfl ?_;refine JG.mv 5 ht rfl rfl ?_;refine JG.mv 6 ht rfl rfl ?_;refine JG.mv 7 ht rfl rfl ?_;refine JG.mv 8 ht rfl rfl ?_;refine JG.mv 9 ht rfl rfl ?_;refine JG.mv 10 ht rfl rfl ?_;refine JG.mv 11 ht rfl rfl ?_;refine JG.mv 12 ht rfl rfl ?_;refine JG.mv 13 ht rfl rfl ?_;refine JG.mv 14 ht rfl rfl ?_;refine JG.mv 15 ht rfl rfl ?_;obtain rfl:=oi dU;refine Aw.B6 ?_ (dQ _ _ ⟨bH,rfl,rfl,(Le.refl _),bn⟩);exact⟨rfl,rfl,rfl,rfl,rfl,rfl,trivial⟩
end Pal
namespace Pal
open Go Go.Conc Go.Proofs
open Go.Proofs.Tryz
variable {J:Judge Tryz.prog}{E:LH}
def Ic(fuel:Nat)(p0:List (Int×Int×(List (Int×(List Int)×Nat))))(p1:Int)(p2:Int)(p3:Int)(ar:Unit):Option (AV (Unit) (((List (Int×Int×(List (Int×(List Int)×Nat)))))⊕(Unit))):=
 (Av (p2 - p1)).bind fun aa=>
 if aa≤12 then(
  (f178 fuel p0 p1 p2).bind fun ab=>
  some (.done (Sum.inl ab))
 ) else(
  if p3=0 then(
   none
  ) else(
   (f181 fuel p0 p1 p2).bind fun O=>
   Option.bind (
    if O.2=2 then(
     (f182 fuel p0 p1 p2).bind fun ae=>
     (Av (p2 - 1)).bind fun ag=>
     (Av (O.1 - p1)).bind fun ah=>
     (Av (ag - ah)).bind fun ai=>
     some (ai,1,ae)
    ) else(
     some (O.1,O.2,p0)
    )
   ) fun K=>
   Option.bind (
    if K.2.1=1 then(
     (f183 fuel K.2.2 p1 p2).bind fun U=>
     if U.1=true then(
      some (Sum.inl U.2)
     ) else(
      some (Sum.inr U.2)
     )
    ) else(
     some (Sum.inr K.2.2)
    )
   ) fun aj=>Sum.elim (fun r=>some (.done (Sum.inl r))) (fun W=>
   Option.bind (
    if 0<p1 then(
     (Av (p1 - 1)).bind fun ak=>
     (ix W (ak)).bind fun al=>
     (ix W (K.1)).bind fun am=>
     (f134 fuel al am).bind fun an=>
     some (decide (¬(an<0)))
    ) else(
     some false
    )
   ) fun ao=>
   if ao=true then(
    none
   ) else(
    (f185 fuel W p1 p2 K.1).bind fun Z=>
    (Av (Z.1 - p1)).bind fun ap=>
    (Av (p2 - Z.1)).bind fun aq=>
    (EY (aa) (8)).bind fun au=>
    if ap<aq then(
     none
    ) else(
     (Av (Z.1+1)).bind fun av=>
     none
    )
   )
   ) aj
  )
 )
def FU(fuel:Nat)(p0:List (Int×Int×(List (Int×(List Int)×Nat))))(p1:Int)(p2:Int)(p3:Int):Option ((List (Int×Int×(List (Int×(List Int)×Nat))))):=
 Option.bind (iter (Ic fuel p0 p1 p2 p3) fuel ()) fun K=>
 Sum.elim (fun r=>some r) (fun O=>
 none
 ) K
theorem MA{K:Nat}{O:Nat}{U:Nat}{ae:Array Value}{p0:List (Int×Int×(List (Int×(List Int)×Nat)))}{p1:Int}{p2:Int}{p3:Int}(hW:WL 133 (rP rI (rP rI (rL (rP rI (rP (rL rI) (rN .u16)))))) E K O U ae p0){fuel:Nat}{r:(List (Int×Int×(List (Int×(List Int)×Nat))))}(aH:FU fuel p0 p1 p2 p3=some r):Au J 162 [.slice (some ⟨K,0,none⟩) U O,iV p1,iV p2,iV p3,(.func (.func 134) #[] #[])] E [(K,.cells ae 133 (0,0))] (fun w E' B'=>∃(aI:Array Value),w= .tuple #[]∧B'= [(K,.cells aI 133 (0,0))]∧WL 133 (rP rI (rP rI (rL (rP rI (rP (rL rI) (rN .u16)))))) E' K O U aI (r)):=by
 refine Au.en func162 rfl rfl fun Q cE cs H bu aJ=>?_;unfold FU at aH;obtain⟨cF,bv,aK⟩:=bs aH;refine JL.go 8 rfl ?_;refine JL.join (fun L s=>False) ?_ ?_
 ·intro _ _ bw;exact bw.elim
 ·intro cG;refine JL.block ?_;refine JL.wk [(0,.slice (some ⟨K,0,none⟩) U O),(1,iV p1),(2,iV p2),(3,iV p3),(4,(.func (.func 134) #[] #[])),(10,.bool true),(11,.bool true)] rfl ?_;refine JL.Bi bv (fun L s bx=>∃(aL:LH),Jm E H aL [[(K,.cells ae 133 (0,0))]] [(0,.slice (some ⟨K,0,none⟩) U O),(1,iV p1),(2,iV p2),(3,iV p3),(4,(.func (.func 134) #[] #[])),(10,.bool true),(11,.bool true)] L s) ⟨E,rfl,rfl,(Le.refl _),bu⟩ ?_;rintro _ _ bx ⟨aL,rfl,rfl,ab,aM⟩ aN ⟨cH,al⟩ cI;have aO:=al;unfold Ic at aO;obtain⟨ak,bz,aP⟩:=bs aO;refine JL.go 5 rfl ?_;refine JL.Y rfl (fun ρ h=>Yl.A4 (h _ _ rfl) (h _ _ rfl) bz) ?_;refine JL.go 8 rfl ?_;refine JL.ifs (p:=ak≤12) rfl (fun am=>?_) (fun am=>?_)
  ·have aQ:=aP;rw [if_pos am] at aQ;obtain⟨cJ,bA,bB⟩:=bs aQ;refine JL.go 6 rfl ?_;refine JS.Bv 0 (M0 (hW.mono ab) bA) rfl rfl (Ay func178 rfl) aM rfl ?_;rintro _ cK _ bC ⟨f32,rfl,rfl,bD⟩ bE;refine JS.norm (S':= [[(K,.cells f32 133 (0,0))]]) rfl bE fun bF=>?_;refine JL.done ?_;obtain rfl:=oi bB;obtain rfl:=aN _ al;have bG:=elim_inl aK;obtain rfl:=oi bG;refine JL.rt func162 rfl rfl ?_;exact aJ _ _ _ _ (ab.trans bC) rfl ⟨f32,rfl,(by first | rfl | simp | (simp [Value.cells])),bD⟩ bF
  ·have an:=aP;rw [if_neg am] at an;refine JL.go 7 rfl ?_;refine JL.ifs (p:=p3=0) rfl (fun ao=>?_) (fun ao=>?_)
   ·have aR:=an;rw [if_pos ao] at aR;refine JL.go 6 rfl ?_;cases aR
   ·have aS:=an;rw [if_neg ao] at aS;refine JL.go 5 rfl ?_;refine JL.Y (v:= .bool false) rfl (fun ρ h=>Yl.not (c:=true) (h _ _ rfl)) ?_;obtain⟨bH,bI,bJ⟩:=bs aS;refine JL.go 9 rfl ?_;refine JS.Bv 0 (Nr (hW.mono ab) bI) rfl rfl (Ay func181 rfl) aM rfl ?_;rintro _ aT _ ap ⟨rfl,rfl⟩ bK;refine JS.norm (S':= [[(K,.cells ae 133 (0,0))]]) rfl bK fun aU=>?_;obtain⟨aa,aV,bL⟩:=bs bJ;refine JL.go 12 rfl ?_;refine JL.join (fun L s=>∃(ag:LH) (f56:Array Value),Jn aT H ag [[(K,.cells f56 133 (0,0))]] [(0,.slice (some ⟨K,0,none⟩) U O),(1,iV p1),(2,iV p2),(3,iV p3),(4,(.func (.func 134) #[] #[])),(10,.bool true),(11,.bool true),(12,iV ak),(13,iV aa.1),(14,iV aa.2.1)] L s (WL 133 (rP rI (rP rI (rL (rP rI (rP (rL rI) (rN .u16)))))) ag K O U f56 (aa.2.2))) ?_ ?_
    ·rintro _ _ ⟨ag,f56,rfl,rfl,bM,aW,aX⟩;obtain⟨bN,aY,aZ⟩:=bs bL;refine JL.go 12 rfl ?_;refine JL.join (fun L s=>∃(aq:(List (Int×Int×(List (Int×(List Int)×Nat))))) (ah:LH) (f65:Array Value),bN=Sum.inr aq∧Jn ag H ah [[(K,.cells f65 133 (0,0))]] [(0,.slice (some ⟨K,0,none⟩) U O),(1,iV p1),(2,iV p2),(3,iV p3),(4,(.func (.func 134) #[] #[])),(10,.bool true),(11,.bool true),(12,iV ak),(13,iV aa.1)] L s (WL 133 (rP rI (rP rI (rL (rP rI (rP (rL rI) (rN .u16)))))) ah K O U f65 (aq))) ?_ ?_
     ·rintro _ _ ⟨aq,ah,f65,rfl,rfl,rfl,cM,ai,aj⟩;have bO:=elim_inr aZ;refine JL.go 2 rfl ?_;refine JG.B8 17 [K] ⟨⟨0,_,rfl⟩,trivial⟩ ai mixed rfl (by decide+kernel) fun ht=>?_;refine JG.mv 0 ht rfl rfl ?_;refine JG.mv 1 ht rfl rfl ?_;refine JG.mv 2 ht rfl rfl ?_;obtain⟨a0,a1,a2⟩:=bs bO;refine Aw.join 0 #[true,true,true,true,true,true,true,true,true,true,true,true,true,true,true,true,true] (fun L s=>∃(a3:LH),Jm ah H a3 [[(K,.cells f65 133 (0,0))]] [(0,.slice (some ⟨K,0,none⟩) U O),(1,iV p1),(2,iV p2),(3,iV p3),(4,(.func (.func 134) #[] #[])),(10,.bool true),(11,.bool true),(12,iV ak),(13,iV aa.1),(97,.bool a0)] L s) ?_ ?_
      ·rintro _ _ ⟨a3,rfl,rfl,bP,bQ⟩;refine Aw.fin (by decide+kernel) ?_;refine JL.split (t:=a0) rfl (fun ar=>?_) (fun ar=>?_)
       ·have a4:=a2;rw [if_pos ar] at a4;refine JL.go 7 rfl ?_;cases a4
       ·have a5:=a2;rw [if_neg (by rw [ar];exact Bool.false_ne_true)] at a5;obtain⟨cN,bR,bS⟩:=bs a5;refine JL.go 8 rfl ?_;refine JS.Bv 0 (M7 (aj.mono bP) bR) rfl rfl (Ay func185 rfl) bQ rfl ?_;rintro _ cO _ cP ⟨f83,rfl,rfl,cQ⟩ bT;refine JS.norm (S':= [[(K,.cells f83 133 (0,0))]]) rfl bT fun cR=>?_;obtain⟨bU,bV,bW⟩:=bs bS;refine JL.go 15 rfl ?_;refine JL.Y rfl (fun ρ h=>Yl.A4 (h _ _ rfl) (h _ _ rfl) bV) ?_;obtain⟨bX,bY,bZ⟩:=bs bW;refine JL.go 2 rfl ?_;refine JL.Y rfl (fun ρ h=>Yl.A4 (h _ _ rfl) (h _ _ rfl) bY) ?_;obtain⟨b0,b1,a6⟩:=bs bZ;refine JL.go 6 rfl ?_;refine JL.Y (v:=iV b0) rfl (fun ρ h=>Yl.HG (h _ _ rfl) (h _ _ rfl) b1) ?_;refine JL.go 8 rfl ?_;refine JL.ifs (p:=bU<bX) rfl (fun au=>?_) (fun au=>?_)
        ·have a7:=a6;rw [if_pos au] at a7;refine JL.go 14 rfl ?_;cases a7
        ·have a8:=a6;rw [if_neg au] at a8;obtain⟨cT,b2,b3⟩:=bs a8;refine JL.go 11 rfl ?_;refine JL.Y rfl (fun ρ h=>Yl.A0 (h _ _ rfl) (h _ _ rfl) b2) ?_;refine JL.go 3 rfl ?_;cases b3
      ·intro a9;refine Aw.B5 (q:=0<p1) (i:=83) rfl (fun av=>?_) (fun av=>?_)
       ·have ba:=a1;rw [if_pos av] at ba;refine JG.mv 3 ht rfl rfl ?_;refine JG.mv 4 ht rfl rfl ?_;refine JG.mv 5 ht rfl rfl ?_;obtain⟨b4,b5,b6⟩:=bs ba;refine JG.V 6 ht rfl rfl (fun ρ h s' hs=>Yl.A4 (h _ _ rfl) (h _ _ rfl) b5) ?_;obtain⟨W,bb,b7⟩:=bs b6;obtain⟨_,⟨_,_,rfl,rfl,⟨_,_,rfl,rfl,⟨aw,ay,rfl,b8⟩⟩⟩,az⟩:=WL.at aj bb;replace az:∀(j:Nat) w,[iV W.1,iV W.2.1,.slice aw (W.2.2).length ay][j]? =some w→f65[Int.toNat (b4)*3+j]? =some w:=az;refine JG.V 7 ht rfl rfl (fun ρ h s' hs=>Yl.A8 (aj).2 bb underlying130 (Ah type133) (h _ _ rfl) (h _ _ rfl)) ?_;refine JG.V 8 ht rfl rfl (fun ρ h s' hs=>Yl.Bj (vs:= [iV W.1,iV W.2.1,.slice aw (W.2.2).length ay]) (Ao underlying133) (Ah type133) (h _ _ rfl) (fun q w aA=>by rw [Bb rfl];exact Bd 0 ai rfl (by simp [AD]) hs (az q w aA))) ?_;refine JG.mv 9 ht rfl rfl ?_;refine JG.mv 10 ht rfl rfl ?_;obtain⟨Z,bc,b9⟩:=bs b7;obtain⟨_,⟨_,_,rfl,rfl,⟨_,_,rfl,rfl,⟨aB,aC,rfl,ca⟩⟩⟩,aD⟩:=WL.at aj bc;replace aD:∀(j:Nat) w,[iV Z.1,iV Z.2.1,.slice aB (Z.2.2).length aC][j]? =some w→f65[Int.toNat (aa.1)*3+j]? =some w:=aD;refine JG.V 11 ht rfl rfl (fun ρ h s' hs=>Yl.A8 (aj).2 bc underlying130 (Ah type133) (h _ _ rfl) (h _ _ rfl)) ?_;refine JG.V 12 ht rfl rfl (fun ρ h s' hs=>Yl.Bj (vs:= [iV Z.1,iV Z.2.1,.slice aB (Z.2.2).length aC]) (Ao underlying133) (Ah type133) (h _ _ rfl) (fun q w aA=>by rw [Bb rfl];exact Bd 0 ai rfl (by simp [AD]) hs (aD q w aA))) ?_;obtain⟨cb,cc,cd⟩:=bs b9;refine JG.Fq (i:=13) ⟨⟨0,_,rfl⟩,trivial⟩ (vs:= [.agg #[iV W.1,iV W.2.1,.slice aw (W.2.2).length ay],.agg #[iV Z.1,iV Z.2.1,.slice aB (Z.2.2).length aC]]) (Eu b8 ca cc) (by decide+kernel) rfl rfl rfl rfl (Ay func134 rfl) rfl ai ?_;rintro _ ce _ cf ⟨rfl,rfl⟩ cg;refine JG.mv 14 ht rfl rfl ?_;refine JG.V (v:= .bool (decide (¬(cb<0)))) 15 ht rfl rfl (fun ρ h s' hs=>Yl.Gm (h _ _ rfl)) ?_;refine JG.mv 16 ht rfl rfl ?_;obtain rfl:=oi cd;refine Aw.B6 ?_ (a9 _ _ ⟨ce,rfl,rfl,cf,cg⟩);exact⟨rfl,rfl,rfl,rfl,rfl,rfl,rfl,rfl,rfl,rfl,trivial⟩
       ·have bd:=a1;rw [if_neg av] at bd;refine JG.mv 3 ht rfl rfl ?_;refine JG.mv 4 ht rfl rfl ?_;refine JG.mv 5 ht rfl rfl ?_;refine JG.mv 6 ht rfl rfl ?_;refine JG.mv 7 ht rfl rfl ?_;refine JG.mv 8 ht rfl rfl ?_;refine JG.mv 9 ht rfl rfl ?_;refine JG.mv 10 ht rfl rfl ?_;refine JG.mv 11 ht rfl rfl ?_;refine JG.mv 12 ht rfl rfl ?_;refine JG.mv 13 ht rfl rfl ?_;refine JG.mv 14 ht rfl rfl ?_;refine JG.mv 15 ht rfl rfl ?_;refine JG.mv 16 ht rfl rfl ?_;obtain rfl:=oi bd;refine Aw.B6 ?_ (a9 _ _ ⟨ah,rfl,rfl,(Le.refl _),ai⟩);exact⟨rfl,rfl,rfl,rfl,rfl,rfl,rfl,rfl,rfl,rfl,trivial⟩
     ·intro bf;refine JL.ifs (p:=aa.2.1=1) rfl (fun aE=>?_) (fun aE=>?_)
      ·have bg:=aY;rw [if_pos aE] at bg;obtain⟨bh,ci,bi⟩:=bs bg;refine JL.go 6 rfl ?_;refine JS.Bv 0 (Ny aX ci) rfl rfl (Ay func183 rfl) aW rfl ?_;rintro _ ck _ bj ⟨f133,rfl,rfl,bk⟩ cm;refine JS.norm (S':= [[(K,.cells f133 133 (0,0))]]) rfl cm fun bl=>?_;refine JL.done ?_;refine JL.split (t:=bh.1) rfl (fun aF=>?_) (fun aF=>?_)
       ·have bm:=bi;rw [if_pos aF] at bm;obtain rfl:=oi bm;have cn:=elim_inl aZ;obtain rfl:=oi cn;obtain rfl:=aN _ al;have co:=elim_inl aK;obtain rfl:=oi co;refine JL.rt func162 rfl rfl ?_;exact aJ _ _ _ _ (((ab.trans ap).trans bM).trans bj) rfl ⟨f133,rfl,(by first | rfl | simp | (simp [Value.cells])),bk⟩ bl
       ·have bn:=bi;rw [if_neg (by rw [aF];exact Bool.false_ne_true)] at bn;refine JL.skip ?_;exact JL.kw (bf _ _ ⟨bh.2,ck,f133,(Option.some.inj bn).symm,rfl,rfl,bj,bl,bk⟩) rfl
      ·have bo:=aY;rw [if_neg aE] at bo;refine JL.skip ?_;exact JL.kw (bf _ _ ⟨aa.2.2,ag,f56,(Option.some.inj bo).symm,rfl,rfl,(Le.refl _),aW,aX⟩) rfl
    ·intro bp;refine JL.ifs (p:=bH.2=2) rfl (fun aG=>?_) (fun aG=>?_)
     ·have bq:=aV;rw [if_pos aG] at bq;obtain⟨cV,cp,cq⟩:=bs bq;refine JL.go 6 rfl ?_;refine JS.Bv 0 (M4 (hW.mono (ab.trans ap)) cp) rfl rfl (Ay func182 rfl) aU rfl ?_;rintro _ cr _ ct ⟨f156,rfl,rfl,cu⟩ cv;refine JS.norm (S':= [[(K,.cells f156 133 (0,0))]]) rfl cv fun cw=>?_;obtain⟨cW,cy,cz⟩:=bs cq;refine JL.go 4 rfl ?_;refine JL.Y rfl (fun ρ h=>Yl.A4 (h _ _ rfl) (h _ _ rfl) cy) ?_;obtain⟨cX,cA,cB⟩:=bs cz;refine JL.go 2 rfl ?_;refine JL.Y rfl (fun ρ h=>Yl.A4 (h _ _ rfl) (h _ _ rfl) cA) ?_;obtain⟨cY,cC,cD⟩:=bs cB;refine JL.Y rfl (fun ρ h=>Yl.A4 (h _ _ rfl) (h _ _ rfl) cC) ?_;refine JL.go 5 rfl ?_;obtain rfl:=oi cD;exact JL.kw (bp _ _ ⟨cr,f156,rfl,rfl,ct,cw,cu⟩) rfl
     ·have br:=aV;rw [if_neg aG] at br;refine JL.skip ?_;obtain rfl:=oi br;exact JL.kw (bp _ _ ⟨aT,ae,rfl,rfl,(Le.refl _),aU,(hW.mono (ab.trans ap))⟩) rfl
def EN(fuel:Nat)(p3:Int)(K:Int×Int×Bool×Bool×(List (Int×Int×(List (Int×(List Int)×Nat))))):Option (AV (Int×Int×Bool×Bool×(List (Int×Int×(List (Int×(List Int)×Nat))))) (((List (Int×Int×(List (Int×(List Int)×Nat)))))⊕(Unit))):=
 Option.bind (
  (Av (K.2.1 - K.1)).bind fun ae=>
  if ae≤12 then(
   (f178 fuel K.2.2.2.2 K.1 K.2.1).bind fun aj=>
   some (Sum.inl aj)
  ) else(
   if p3=0 then(
    none
   ) else(
    Option.bind (
     if(!K.2.2.1)=true then(
      none
     ) else(
      some ()
     )
    ) fun aF=>
    (f181 fuel K.2.2.2.2 K.1 K.2.1).bind fun W=>
    Option.bind (
     if W.2=2 then(
      (f182 fuel K.2.2.2.2 K.1 K.2.1).bind fun ak=>
      (Av (K.2.1 - 1)).bind fun al=>
      (Av (W.1 - K.1)).bind fun am=>
      (Av (al - am)).bind fun an=>
      some (an,1,ak)
     ) else(
      some (W.1,W.2,K.2.2.2.2)
     )
    ) fun U=>
    Option.bind (
     if K.2.2.1=true then(
      some K.2.2.2.1
     ) else(
      some false
     )
    ) fun ao=>
    Option.bind (
     if ao=true then(
      some (decide (U.2.1=1))
     ) else(
      some false
     )
    ) fun ap=>
    Option.bind (
     if ap=true then(
      (f183 fuel U.2.2 K.1 K.2.1).bind fun aa=>
      if aa.1=true then(
       some (Sum.inl aa.2)
      ) else(
       some (Sum.inr aa.2)
      )
     ) else(
      some (Sum.inr U.2.2)
     )
    ) fun aq=>Sum.elim (fun r=>some (Sum.inl r)) (fun ab=>
    Option.bind (
     if 0<K.1 then(
      (Av (K.1 - 1)).bind fun ar=>
      (ix ab (ar)).bind fun au=>
      (ix ab (U.1)).bind fun av=>
      (f134 fuel au av).bind fun aw=>
      some (decide (¬(aw<0)))
     ) else(
      some false
     )
    ) fun ay=>
    if ay=true then(
     none
    ) else(
     (f185 fuel ab K.1 K.2.1 U.1).bind fun O=>
     (Av (O.1 - K.1)).bind fun ag=>
     (Av (K.2.1 - O.1)).bind fun ah=>
     (EY (ae) (8)).bind fun ai=>
     Option.bind (
      if ag<ah then(
       (FU fuel O.2.2 K.1 O.1 p3).bind fun az=>
       (Av (O.1+1)).bind fun aA=>
       some (aA,K.2.1,decide (ai≤ag),az)
      ) else(
       (Av (O.1+1)).bind fun aB=>
       (FU fuel O.2.2 aB K.2.1 p3).bind fun aC=>
       some (K.1,O.1,decide (ai≤ah),aC)
      )
     ) fun Z=>
     some (Sum.inr (Z.1,Z.2.1,Z.2.2.1,O.2.1,Z.2.2.2))
    )
    ) aq
   )
  )
 ) fun aD=>Sum.elim (fun r=>some (.done (Sum.inl r))) (fun aE=>
 some (.more aE)
 ) aD
def f162(fuel:Nat)(p0:List (Int×Int×(List (Int×(List Int)×Nat))))(p1:Int)(p2:Int)(p3:Int):Option ((List (Int×Int×(List (Int×(List Int)×Nat))))):=
 Option.bind (iter (EN fuel p3) fuel (p1,p2,true,true,p0)) fun K=>
 Sum.elim (fun r=>some r) (fun O=>
 none
 ) K
theorem RZ{K:Nat}{U:Nat}{W:Nat}{aA:Array Value}{p0:List (Int×Int×(List (Int×(List Int)×Nat)))}{p1:Int}{p2:Int}{p3:Int}(hW:WL 133 (rP rI (rP rI (rL (rP rI (rP (rL rI) (rN .u16)))))) E K U W aA p0){fuel:Nat}{r:(List (Int×Int×(List (Int×(List Int)×Nat))))}(aX:f162 fuel p0 p1 p2 p3=some r):Au J 162 [.slice (some ⟨K,0,none⟩) W U,iV p1,iV p2,iV p3,(.func (.func 134) #[] #[])] E [(K,.cells aA 133 (0,0))] (fun w E' B'=>∃(aY:Array Value),w= .tuple #[]∧B'= [(K,.cells aY 133 (0,0))]∧WL 133 (rP rI (rP rI (rL (rP rI (rP (rL rI) (rN .u16)))))) E' K U W aY (r)):=by
 refine Au.en func162 rfl rfl fun Q dV cs H b7 aZ=>?_;unfold f162 at aX;obtain⟨dW,b8,a0⟩:=bs aX;refine JL.go 8 rfl ?_;refine JL.join (fun L s=>False) ?_ ?_
 ·intro _ _ b9;exact b9.elim
 ·intro dX;refine JL.block ?_;refine JL.wk [(0,.slice (some ⟨K,0,none⟩) W U),(1,iV p1),(2,iV p2),(3,iV p3),(4,(.func (.func 134) #[] #[])),(10,.bool true),(11,.bool true)] rfl ?_;refine JL.Bi b8 (fun L s O=>∃(ai:LH) (f22:Array Value),Jn E H ai [[(K,.cells f22 133 (0,0))]] [(0,.slice (some ⟨K,0,none⟩) W U),(1,iV O.1),(2,iV O.2.1),(3,iV p3),(4,(.func (.func 134) #[] #[])),(10,.bool O.2.2.1),(11,.bool O.2.2.2.1)] L s (WL 133 (rP rI (rP rI (rL (rP rI (rP (rL rI) (rN .u16)))))) ai K U W f22 (O.2.2.2.2))) ⟨E,aA,rfl,rfl,(Le.refl _),b7,hW⟩ ?_;rintro _ _ O ⟨ai,f22,rfl,rfl,aB,a1,ap⟩ a2 ⟨dY,aq⟩ ca;have a3:=aq;unfold EN at a3;obtain⟨cb,cc,aC⟩:=bs a3;refine JL.join (fun L s=>∃(ae:Int×Int×Bool×Bool×(List (Int×Int×(List (Int×(List Int)×Nat))))) (ar:LH) (f36:Array Value),cb=Sum.inr ae∧Jn ai H ar [[(K,.cells f36 133 (0,0))]] [(0,.slice (some ⟨K,0,none⟩) W U),(1,iV ae.1),(2,iV ae.2.1),(3,iV p3),(4,(.func (.func 134) #[] #[])),(10,.bool ae.2.2.1),(11,.bool ae.2.2.2.1)] L s (WL 133 (rP rI (rP rI (rL (rP rI (rP (rL rI) (rN .u16)))))) ar K U W f36 (ae.2.2.2.2))) ?_ ?_
  ·rintro _ _ ⟨ae,ar,f36,rfl,rfl,rfl,cd,ce,cf⟩;have cg:=elim_inr aC;obtain rfl:=oi cg;exact JL.kw (ca _ _ ae ⟨ar,f36,rfl,rfl,(aB.trans cd),ce,cf⟩ aq) rfl
  ·intro ci;obtain⟨ah,ck,a4⟩:=bs cc;refine JL.go 5 rfl ?_;refine JL.Y rfl (fun ρ h=>Yl.A4 (h _ _ rfl) (h _ _ rfl) ck) ?_;refine JL.go 8 rfl ?_;refine JL.ifs (p:=ah≤12) rfl (fun aD=>?_) (fun aD=>?_)
   ·have a5:=a4;rw [if_pos aD] at a5;obtain⟨dZ,cm,cn⟩:=bs a5;refine JL.go 6 rfl ?_;refine JS.Bv 0 (M0 ap cm) rfl rfl (Ay func178 rfl) a1 rfl ?_;rintro _ ea _ co ⟨f52,rfl,rfl,cp⟩ cq;refine JS.norm (S':= [[(K,.cells f52 133 (0,0))]]) rfl cq fun cr=>?_;refine JL.done ?_;obtain rfl:=oi cn;have ct:=elim_inl aC;obtain rfl:=oi ct;obtain rfl:=a2 _ aq;have cu:=elim_inl a0;obtain rfl:=oi cu;refine JL.rt func162 rfl rfl ?_;exact aZ _ _ _ _ (aB.trans co) rfl ⟨f52,rfl,(by first | rfl | simp | (simp [Value.cells])),cp⟩ cr
   ·have aE:=a4;rw [if_neg aD] at aE;refine JL.go 7 rfl ?_;refine JL.ifs (p:=p3=0) rfl (fun aF=>?_) (fun aF=>?_)
    ·have a6:=aE;rw [if_pos aF] at a6;refine JL.go 6 rfl ?_;cases a6
    ·have a7:=aE;rw [if_neg aF] at a7;refine JL.go 5 rfl ?_;refine JL.Y (v:= .bool (!O.2.2.1)) rfl (fun ρ h=>Yl.not (h _ _ rfl)) ?_;obtain⟨eb,a8,cv⟩:=bs a7;refine JL.done ?_;refine JL.join (fun L s=>∃(a9:LH),Jm ai H a9 [[(K,.cells f22 133 (0,0))]] [(0,.slice (some ⟨K,0,none⟩) W U),(1,iV O.1),(2,iV O.2.1),(3,iV p3),(4,(.func (.func 134) #[] #[])),(10,.bool O.2.2.1),(11,.bool O.2.2.2.1),(12,iV ah)] L s) ?_ ?_
     ·rintro _ _ ⟨a9,rfl,rfl,ak,cw⟩;obtain⟨cy,cz,cA⟩:=bs cv;refine JL.go 6 rfl ?_;refine JS.Bv 0 (Nr (ap.mono ak) cz) rfl rfl (Ay func181 rfl) cw rfl ?_;rintro _ ba _ au ⟨rfl,rfl⟩ cB;refine JS.norm (S':= [[(K,.cells f22 133 (0,0))]]) rfl cB fun bb=>?_;obtain⟨Z,bc,cC⟩:=bs cA;refine JL.go 12 rfl ?_;refine JL.join (fun L s=>∃(aj:LH) (f84:Array Value),Jn ba H aj [[(K,.cells f84 133 (0,0))]] [(0,.slice (some ⟨K,0,none⟩) W U),(1,iV O.1),(2,iV O.2.1),(3,iV p3),(4,(.func (.func 134) #[] #[])),(10,.bool O.2.2.1),(11,.bool O.2.2.2.1),(12,iV ah),(13,iV Z.1),(14,iV Z.2.1)] L s (WL 133 (rP rI (rP rI (rL (rP rI (rP (rL rI) (rN .u16)))))) aj K U W f84 (Z.2.2))) ?_ ?_
      ·rintro _ _ ⟨aj,f84,rfl,rfl,bd,bf,bg⟩;obtain⟨bh,bi,cD⟩:=bs cC;refine JL.go 5 rfl ?_;refine JL.BA [4,5,6,7] (fun L s=>∃(al:LH),Jm aj H al [[(K,.cells f84 133 (0,0))]] [(0,.slice (some ⟨K,0,none⟩) W U),(1,iV O.1),(2,iV O.2.1),(3,iV p3),(4,(.func (.func 134) #[] #[])),(10,.bool O.2.2.1),(11,.bool O.2.2.2.1),(12,iV ah),(13,iV Z.1),(14,iV Z.2.1),(71,.bool bh)] L s) ?_ ?_
       ·rintro _ _ ⟨al,rfl,rfl,av,bj⟩;obtain⟨bk,bl,cE⟩:=bs cD;refine JL.go 1 rfl ?_;refine JL.BA [] (fun L s=>∃(aw:LH),Jm al H aw [[(K,.cells f84 133 (0,0))]] [(0,.slice (some ⟨K,0,none⟩) W U),(1,iV O.1),(2,iV O.2.1),(3,iV p3),(4,(.func (.func 134) #[] #[])),(10,.bool O.2.2.1),(11,.bool O.2.2.2.1),(12,iV ah),(13,iV Z.1),(75,.bool bk)] L s) ?_ ?_
        ·rintro _ _ ⟨aw,rfl,rfl,ay,bm⟩;obtain⟨cF,bn,bo⟩:=bs cE;refine JL.done ?_;refine JL.join (fun L s=>∃(aG:(List (Int×Int×(List (Int×(List Int)×Nat))))) (am:LH) (f105:Array Value),cF=Sum.inr aG∧Jn aw H am [[(K,.cells f105 133 (0,0))]] [(0,.slice (some ⟨K,0,none⟩) W U),(1,iV O.1),(2,iV O.2.1),(3,iV p3),(4,(.func (.func 134) #[] #[])),(10,.bool O.2.2.1),(11,.bool O.2.2.2.1),(12,iV ah),(13,iV Z.1)] L s (WL 133 (rP rI (rP rI (rL (rP rI (rP (rL rI) (rN .u16)))))) am K U W f105 (aG))) ?_ ?_
         ·rintro _ _ ⟨aG,am,f105,rfl,rfl,rfl,cG,an,ao⟩;have cH:=elim_inr bo;refine JL.go 2 rfl ?_;refine JG.B8 17 [K] ⟨⟨0,_,rfl⟩,trivial⟩ an mixed rfl (by decide+kernel) fun ht=>?_;refine JG.mv 0 ht rfl rfl ?_;refine JG.mv 1 ht rfl rfl ?_;refine JG.mv 2 ht rfl rfl ?_;obtain⟨bp,bq,br⟩:=bs cH;refine Aw.join 0 #[true,true,true,true,true,true,true,true,true,true,true,true,true,true,true,true,true] (fun L s=>∃(bu:LH),Jm am H bu [[(K,.cells f105 133 (0,0))]] [(0,.slice (some ⟨K,0,none⟩) W U),(1,iV O.1),(2,iV O.2.1),(3,iV p3),(4,(.func (.func 134) #[] #[])),(10,.bool O.2.2.1),(11,.bool O.2.2.2.1),(12,iV ah),(13,iV Z.1),(97,.bool bp)] L s) ?_ ?_
          ·rintro _ _ ⟨bu,rfl,rfl,bv,cI⟩;refine Aw.fin (by decide+kernel) ?_;refine JL.split (t:=bp) rfl (fun aH=>?_) (fun aH=>?_)
           ·have bw:=br;rw [if_pos aH] at bw;refine JL.go 7 rfl ?_;cases bw
           ·have bx:=br;rw [if_neg (by rw [aH];exact Bool.false_ne_true)] at bx;obtain⟨bz,cJ,cK⟩:=bs bx;refine JL.go 8 rfl ?_;refine JS.Bv 0 (M7 (ao.mono bv) cJ) rfl rfl (Ay func185 rfl) cI rfl ?_;rintro _ cM _ cN ⟨f123,rfl,rfl,bA⟩ cO;refine JS.norm (S':= [[(K,.cells f123 133 (0,0))]]) rfl cO fun bB=>?_;obtain⟨cP,cQ,cR⟩:=bs cK;refine JL.go 15 rfl ?_;refine JL.Y rfl (fun ρ h=>Yl.A4 (h _ _ rfl) (h _ _ rfl) cQ) ?_;obtain⟨cT,cV,cW⟩:=bs cR;refine JL.go 2 rfl ?_;refine JL.Y rfl (fun ρ h=>Yl.A4 (h _ _ rfl) (h _ _ rfl) cV) ?_;obtain⟨cX,cY,cZ⟩:=bs cW;refine JL.go 6 rfl ?_;refine JL.Y (v:=iV cX) rfl (fun ρ h=>Yl.HG (h _ _ rfl) (h _ _ rfl) cY) ?_;obtain⟨ag,bC,c0⟩:=bs cZ;refine JL.go 8 rfl ?_;refine JL.join (fun L s=>∃(az:LH) (f138:Array Value),Jn cM H az [[(K,.cells f138 133 (0,0))]] [(0,.slice (some ⟨K,0,none⟩) W U),(1,iV ag.1),(2,iV ag.2.1),(3,iV p3),(4,(.func (.func 134) #[] #[])),(10,.bool ag.2.2.1),(11,.bool bz.2.1)] L s (WL 133 (rP rI (rP rI (rL (rP rI (rP (rL rI) (rN .u16)))))) az K U W f138 (ag.2.2.2))) ?_ ?_
            ·rintro _ _ ⟨az,f138,rfl,rfl,c1,c2,c3⟩;refine JL.outBlock ?_;exact JL.kw (ci _ _ ⟨(ag.1,ag.2.1,ag.2.2.1,bz.2.1,ag.2.2.2),az,f138,(Option.some.inj c0).symm,rfl,rfl,((((((((ak.trans au).trans bd).trans av).trans ay).trans cG).trans bv).trans cN).trans c1),c2,c3⟩) rfl
            ·intro bD;refine JL.ifs (p:=cP<cT) rfl (fun aI=>?_) (fun aI=>?_)
             ·have bE:=bC;rw [if_pos aI] at bE;obtain⟨ec,c4,c5⟩:=bs bE;refine JL.go 14 rfl ?_;refine JS.Bv 0 (MA bA c4) rfl rfl (Ay func162 rfl) bB rfl ?_;rintro _ c6 _ c7 ⟨f150,rfl,rfl,c8⟩ c9;refine JS.norm (S':= [[(K,.cells f150 133 (0,0))]]) rfl c9 fun da=>?_;obtain⟨ed,db,dc⟩:=bs c5;refine JL.go 3 rfl ?_;refine JL.Y rfl (fun ρ h=>Yl.A0 (h _ _ rfl) (h _ _ rfl) db) ?_;refine JL.go 2 rfl ?_;obtain rfl:=oi dc;exact JL.kw (bD _ _ ⟨c6,f150,rfl,rfl,c7,da,c8⟩) rfl
             ·have bF:=bC;rw [if_neg aI] at bF;obtain⟨ee,dd,de⟩:=bs bF;refine JL.go 11 rfl ?_;refine JL.Y rfl (fun ρ h=>Yl.A0 (h _ _ rfl) (h _ _ rfl) dd) ?_;obtain⟨ef,df,dg⟩:=bs de;refine JL.go 3 rfl ?_;refine JS.Bv 0 (MA bA df) rfl rfl (Ay func162 rfl) bB rfl ?_;rintro _ dh _ di ⟨f165,rfl,rfl,dj⟩ dk;refine JS.norm (S':= [[(K,.cells f165 133 (0,0))]]) rfl dk fun dl=>?_;refine JL.go 5 rfl ?_;obtain rfl:=oi dg;exact JL.kw (bD _ _ ⟨dh,f165,rfl,rfl,di,dl,dj⟩) rfl
          ·intro bG;refine Aw.B5 (q:=0<O.1) (i:=83) rfl (fun aJ=>?_) (fun aJ=>?_)
           ·have bH:=bq;rw [if_pos aJ] at bH;refine JG.mv 3 ht rfl rfl ?_;refine JG.mv 4 ht rfl rfl ?_;refine JG.mv 5 ht rfl rfl ?_;obtain⟨dm,dn,dp⟩:=bs bH;refine JG.V 6 ht rfl rfl (fun ρ h s' hs=>Yl.A4 (h _ _ rfl) (h _ _ rfl) dn) ?_;obtain⟨aa,bI,dq⟩:=bs dp;obtain⟨_,⟨_,_,rfl,rfl,⟨_,_,rfl,rfl,⟨aK,aL,rfl,dr⟩⟩⟩,aM⟩:=WL.at ao bI;replace aM:∀(j:Nat) w,[iV aa.1,iV aa.2.1,.slice aK (aa.2.2).length aL][j]? =some w→f105[Int.toNat (dm)*3+j]? =some w:=aM;refine JG.V 7 ht rfl rfl (fun ρ h s' hs=>Yl.A8 (ao).2 bI underlying130 (Ah type133) (h _ _ rfl) (h _ _ rfl)) ?_;refine JG.V 8 ht rfl rfl (fun ρ h s' hs=>Yl.Bj (vs:= [iV aa.1,iV aa.2.1,.slice aK (aa.2.2).length aL]) (Ao underlying133) (Ah type133) (h _ _ rfl) (fun q w aN=>by rw [Bb rfl];exact Bd 0 an rfl (by simp [AD]) hs (aM q w aN))) ?_;refine JG.mv 9 ht rfl rfl ?_;refine JG.mv 10 ht rfl rfl ?_;obtain⟨ab,bJ,dt⟩:=bs dq;obtain⟨_,⟨_,_,rfl,rfl,⟨_,_,rfl,rfl,⟨aO,aP,rfl,du⟩⟩⟩,aQ⟩:=WL.at ao bJ;replace aQ:∀(j:Nat) w,[iV ab.1,iV ab.2.1,.slice aO (ab.2.2).length aP][j]? =some w→f105[Int.toNat (Z.1)*3+j]? =some w:=aQ;refine JG.V 11 ht rfl rfl (fun ρ h s' hs=>Yl.A8 (ao).2 bJ underlying130 (Ah type133) (h _ _ rfl) (h _ _ rfl)) ?_;refine JG.V 12 ht rfl rfl (fun ρ h s' hs=>Yl.Bj (vs:= [iV ab.1,iV ab.2.1,.slice aO (ab.2.2).length aP]) (Ao underlying133) (Ah type133) (h _ _ rfl) (fun q w aN=>by rw [Bb rfl];exact Bd 0 an rfl (by simp [AD]) hs (aQ q w aN))) ?_;obtain⟨dv,dw,dx⟩:=bs dt;refine JG.Fq (i:=13) ⟨⟨0,_,rfl⟩,trivial⟩ (vs:= [.agg #[iV aa.1,iV aa.2.1,.slice aK (aa.2.2).length aL],.agg #[iV ab.1,iV ab.2.1,.slice aO (ab.2.2).length aP]]) (Eu dr du dw) (by decide+kernel) rfl rfl rfl rfl (Ay func134 rfl) rfl an ?_;rintro _ dy _ dz ⟨rfl,rfl⟩ dA;refine JG.mv 14 ht rfl rfl ?_;refine JG.V (v:= .bool (decide (¬(dv<0)))) 15 ht rfl rfl (fun ρ h s' hs=>Yl.Gm (h _ _ rfl)) ?_;refine JG.mv 16 ht rfl rfl ?_;obtain rfl:=oi dx;refine Aw.B6 ?_ (bG _ _ ⟨dy,rfl,rfl,dz,dA⟩);exact⟨rfl,rfl,rfl,rfl,rfl,rfl,rfl,rfl,rfl,rfl,trivial⟩
           ·have bK:=bq;rw [if_neg aJ] at bK;refine JG.mv 3 ht rfl rfl ?_;refine JG.mv 4 ht rfl rfl ?_;refine JG.mv 5 ht rfl rfl ?_;refine JG.mv 6 ht rfl rfl ?_;refine JG.mv 7 ht rfl rfl ?_;refine JG.mv 8 ht rfl rfl ?_;refine JG.mv 9 ht rfl rfl ?_;refine JG.mv 10 ht rfl rfl ?_;refine JG.mv 11 ht rfl rfl ?_;refine JG.mv 12 ht rfl rfl ?_;refine JG.mv 13 ht rfl rfl ?_;refine JG.mv 14 ht rfl rfl ?_;refine JG.mv 15 ht rfl rfl ?_;refine JG.mv 16 ht rfl rfl ?_;obtain rfl:=oi bK;refine Aw.B6 ?_ (bG _ _ ⟨am,rfl,rfl,(Le.refl _),an⟩);exact⟨rfl,rfl,rfl,rfl,rfl,rfl,rfl,rfl,rfl,rfl,trivial⟩
         ·intro bL;refine JL.split (t:=bk) rfl (fun aR=>?_) (fun aR=>?_)
          ·have bM:=bn;rw [if_pos aR] at bM;obtain⟨bN,dB,bO⟩:=bs bM;refine JL.go 6 rfl ?_;refine JS.Bv 0 (Ny (bg.mono (av.trans ay)) dB) rfl rfl (Ay func183 rfl) bm rfl ?_;rintro _ dC _ bP ⟨f205,rfl,rfl,bQ⟩ dD;refine JS.norm (S':= [[(K,.cells f205 133 (0,0))]]) rfl dD fun bR=>?_;refine JL.done ?_;refine JL.split (t:=bN.1) rfl (fun aS=>?_) (fun aS=>?_)
           ·have bS:=bO;rw [if_pos aS] at bS;obtain rfl:=oi bS;have dE:=elim_inl bo;obtain rfl:=oi dE;have dF:=elim_inl aC;obtain rfl:=oi dF;obtain rfl:=a2 _ aq;have dG:=elim_inl a0;obtain rfl:=oi dG;refine JL.rt func162 rfl rfl ?_;exact aZ _ _ _ _ ((((((aB.trans ak).trans au).trans bd).trans av).trans ay).trans bP) rfl ⟨f205,rfl,(by first | rfl | simp | (simp [Value.cells])),bQ⟩ bR
           ·have bT:=bO;rw [if_neg (by rw [aS];exact Bool.false_ne_true)] at bT;refine JL.skip ?_;exact JL.kw (bL _ _ ⟨bN.2,dC,f205,(Option.some.inj bT).symm,rfl,rfl,bP,bR,bQ⟩) rfl
          ·have bU:=bn;rw [if_neg (by rw [aR];exact Bool.false_ne_true)] at bU;refine JL.skip ?_;exact JL.kw (bL _ _ ⟨Z.2.2,aw,f84,(Option.some.inj bU).symm,rfl,rfl,(Le.refl _),bm,(bg.mono (av.trans ay))⟩) rfl
        ·intro bV;refine JL.Cg (c:=bh) (i:=72) rfl (fun aT=>?_) (fun aT=>?_)
         ·have bW:=bl;rw [if_pos aT] at bW;refine JL.go 3 rfl ?_;obtain rfl:=oi bW;exact JL.kw (bV _ _ ⟨al,rfl,rfl,(Le.refl _),bj⟩) rfl
         ·have bX:=bl;rw [if_neg (by rw [aT];exact Bool.false_ne_true)] at bX;refine JL.go 3 rfl ?_;obtain rfl:=oi bX;exact JL.kw (bV _ _ ⟨al,rfl,rfl,(Le.refl _),bj⟩) rfl
       ·intro bY;refine JL.Cg (c:=O.2.2.1) (i:=69) rfl (fun aU=>?_) (fun aU=>?_)
        ·have bZ:=bi;rw [if_pos aU] at bZ;refine JL.go 2 rfl ?_;obtain rfl:=oi bZ;exact JL.kw (bY _ _ ⟨aj,rfl,rfl,(Le.refl _),bf⟩) rfl
        ·have b0:=bi;rw [if_neg (by rw [aU];exact Bool.false_ne_true)] at b0;refine JL.go 2 rfl ?_;obtain rfl:=oi b0;exact JL.kw (bY _ _ ⟨aj,rfl,rfl,(Le.refl _),bf⟩) rfl
      ·intro b1;refine JL.ifs (p:=cy.2=2) rfl (fun aV=>?_) (fun aV=>?_)
       ·have b2:=bc;rw [if_pos aV] at b2;obtain⟨eg,dH,dI⟩:=bs b2;refine JL.go 6 rfl ?_;refine JS.Bv 0 (M4 (ap.mono (ak.trans au)) dH) rfl rfl (Ay func182 rfl) bb rfl ?_;rintro _ dJ _ dK ⟨b3,rfl,rfl,dL⟩ dM;refine JS.norm (S':= [[(K,.cells b3 133 (0,0))]]) rfl dM fun dN=>?_;obtain⟨eh,dO,dP⟩:=bs dI;refine JL.go 4 rfl ?_;refine JL.Y rfl (fun ρ h=>Yl.A4 (h _ _ rfl) (h _ _ rfl) dO) ?_;obtain⟨ei,dQ,dR⟩:=bs dP;refine JL.go 2 rfl ?_;refine JL.Y rfl (fun ρ h=>Yl.A4 (h _ _ rfl) (h _ _ rfl) dQ) ?_;obtain⟨ej,dS,dT⟩:=bs dR;refine JL.Y rfl (fun ρ h=>Yl.A4 (h _ _ rfl) (h _ _ rfl) dS) ?_;refine JL.go 5 rfl ?_;obtain rfl:=oi dT;exact JL.kw (b1 _ _ ⟨dJ,b3,rfl,rfl,dK,dN,dL⟩) rfl
       ·have b4:=bc;rw [if_neg aV] at b4;refine JL.skip ?_;obtain rfl:=oi b4;exact JL.kw (b1 _ _ ⟨ba,f22,rfl,rfl,(Le.refl _),bb,(ap.mono (ak.trans au))⟩) rfl
     ·intro dU;refine JL.split (t:=(!O.2.2.1)) rfl (fun aW=>?_) (fun aW=>?_)
      ·have b5:=a8;rw [if_pos aW] at b5;refine JL.go 6 rfl ?_;cases b5
      ·have b6:=a8;rw [if_neg (by rw [aW];exact Bool.false_ne_true)] at b6;refine JL.skip ?_;obtain rfl:=oi b6;exact JL.kw (dU _ _ ⟨ai,rfl,rfl,(Le.refl _),a1⟩) rfl
def f133(fuel:Nat)(p0:List (Int×Int×(List (Int×(List Int)×Nat)))):Option ((List (Int×Int×(List (Int×(List Int)×Nat))))):=
 (f163 fuel (BV ((p0).length:Int))).bind fun K=>
 (f162 fuel p0 0 ((p0).length:Int) K).bind fun O=>
 some O
theorem Rl{K:Nat}{O:Nat}{U:Nat}{W:Array Value}{p0:List (Int×Int×(List (Int×(List Int)×Nat)))}(hW:WL 133 (rP rI (rP rI (rL (rP rI (rP (rL rI) (rN .u16)))))) E K O U W p0){fuel:Nat}{r:(List (Int×Int×(List (Int×(List Int)×Nat))))}(Z:f133 fuel p0=some r):Au J 133 [.slice (some ⟨K,0,none⟩) U O,(.func (.func 134) #[] #[])] E [(K,.cells W 133 (0,0))] (fun w E' B'=>∃(aa:Array Value),w= .tuple #[]∧B'= [(K,.cells aa 133 (0,0))]∧WL 133 (rP rI (rP rI (rL (rP rI (rP (rL rI) (rN .u16)))))) E' K O U aa (r)):=by
 refine Au.en func133 rfl rfl fun Q aq cs H ae ag=>?_;unfold f133 at Z;refine JL.go 3 rfl ?_;refine JL.Y (v:=iV ((p0).length:Int)) rfl (fun ρ h=>Yl.N4 (hW).2 rfl underlying130 (h _ _ rfl)) ?_;refine JL.go 6 rfl ?_;refine JL.Y (v:= .int .u64 ((BV ((p0).length:Int):Nat):Int)) rfl (fun ρ h=>Yl.BV underlying3 underlying156 (h _ _ rfl)) ?_;obtain⟨ar,ah,ai⟩:=bs Z;refine JS.cl (Nm ah) rfl rfl (Ay func163 rfl) ae ?_;rintro _ au _ ab ⟨rfl,rfl⟩ aj;obtain⟨av,ak,al⟩:=bs ai;refine JL.go 1 rfl ?_;refine JS.Bv 0 (RZ (hW.mono ab) ak) rfl rfl (Ay func162 rfl) aj rfl ?_;rintro _ aw _ am ⟨f12,rfl,rfl,an⟩ ao;refine JS.norm (S':= [[(K,.cells f12 133 (0,0))],[]]) rfl ao fun ap=>?_;refine JL.done ?_;obtain rfl:=oi al;refine JL.fin (v:= .tuple #[]) rfl rfl (Bm.list func133 rfl (vs:= []) trivial) ?_;exact ag _ _ _ _ (ab.trans am) rfl ⟨f12,rfl,(by first | rfl | simp | (simp [Value.cells])),an⟩ ap
end Pal
namespace Pal
def Ac{α:Type}(o:Option α)(Q:α→Prop):Prop:=∃a,o=some a∧Q a
section
variable {α β:Type}{Q R:α→Prop}
theorem Ac.intro{a:α}(h:Q a):Ac (some a) Q:=⟨a,rfl,h⟩
theorem Ac.mono{o:Option α}(h:Ac o R)(k:∀a,R a→Q a):Ac o Q:=let ⟨a,K,O⟩:=h;⟨a,K,k a O⟩
theorem Ac.of_eq{o:Option α}{a:α}(h:o=some a)(k:Q a):Ac o Q:=⟨a,h,k⟩
theorem Ac.b{o:Option β}{f:β→Option α}{S:β→Prop}(h:Ac o S)(k:∀b,S b→Ac (f b) Q):Ac (o.bind f) Q:=by
 obtain⟨b,rfl,hb⟩:=h;obtain⟨a,K,O⟩:=k b hb;exact⟨a,K,O⟩
theorem Ac.be{o:Option β}{f:β→Option α}{b:β}(h:o=some b)(k:Ac (f b) Q):Ac (o.bind f) Q:=by subst h;exact k
theorem Ac.TC{f:Int→Option α}{x:Int}(K: -9223372036854775808≤x)(O:x≤9223372036854775807)(k:Ac (f x) Q):Ac ((Av x).bind f) Q:=Ac.be (if_pos ⟨K,O⟩) k
theorem ET{xs:List β}{i:Int}{m:Nat}{b:β}(h:i=(m:Int))(hb:xs[m]? =some b):ix xs i=some b:=by subst h;simpa [ix] using hb
theorem Ac.Bq{f:β→Option α}{xs:List β}{i:Int}{m:Nat}(h:i=(m:Int))(hm:m<xs.length)(k:Ac (f xs[m]) Q):Ac ((ix xs i).bind f) Q:=Ac.be (ET h (List.getElem?_eq_getElem hm)) k
theorem Ac.IZ{f:List β→Option α}{xs:List β}{x:β}(h:xs.length+1≤2 ^ 40)(k:Ac (f (xs++ [x])) Q):Ac ((room xs x).bind f) Q:=Ac.be (if_pos h) k
theorem Ac.ite{c:Prop} [Decidable c] {x y:Option α}(K:c→Ac x Q)(O:¬c→Ac y Q):Ac (if c then x else y) Q:=by
 by_cases h:c
 ·rw [if_pos h];exact K h
 ·rw [if_neg h];exact O h
theorem Ac.pos{c:Prop} [Decidable c] {x y:Option α}(h:c)(k:Ac x Q):Ac (if c then x else y) Q:=by rw [if_pos h];exact k
theorem Ac.neg{c:Prop} [Decidable c] {x y:Option α}(h:¬c)(k:Ac y Q):Ac (if c then x else y) Q:=by rw [if_neg h];exact k
def AV.sat{S A:Type}(I:S→Prop)(Q:A→Prop):AV S A→Prop
 | .more s=>I s
 | .done a=>Q a
theorem Ac.iter{S:Type}{body:S→Option (AV S α)}(I:Nat→S→Prop)(round:∀m s,I m s→Ac (body s) (AV.sat (fun s'=>∃m',m'<m∧I m' s') Q)):
  ∀{m fuel:Nat} {s:S},I m s→m<fuel→Ac (iter body fuel s) Q:=by
 intro m
 induction m using Nat.strongRecOn with
 | _ m O=>
  intro fuel s U ab;obtain⟨fuel,rfl⟩:∃k,fuel=k+1:=⟨fuel - 1,by omega⟩;obtain⟨st,W,K⟩:=round m s U;unfold Pal.iter;rw [W];cases st with
  | more s'=>
   obtain⟨m',Z,aa⟩:=K;exact O m' Z aa (by omega)
  | done a=>exact⟨a,rfl,K⟩
end
end Pal
namespace Pal
open Go.Sort
abbrev PT:=Int×Int×(List (Int×(List Int)×Nat))
def AI(x y:PT):Bool:=decide (x.1<y.1)
theorem Ik:SWO AI:=⟨fun x=>by simp [AI],fun x y z K O=>by simp [AI] at*;omega,fun x y z K O=>by simp [AI] at*;omega⟩
def KO(xs:List PT):Prop:=∀x∈xs,0≤x.1∧x.1≤1000
theorem Hi{fuel:Nat}{x y:PT}(K:0≤x.1∧x.1≤1000)(O:0≤y.1∧y.1≤1000):f134 fuel x y=some (x.1 - y.1):=by
 unfold f134;rw [show Av (x.1 - y.1)=some (x.1 - y.1) from if_pos (by omega)];rfl
theorem GI(x y:PT):decide (x.1 - y.1<0)=AI x y:=by unfold AI;congr 1;apply propext;omega
theorem KO.get{xs:List PT}(h:KO xs){i:Nat}(hi:i<xs.length):0≤xs[i].1∧xs[i].1≤1000:=h _ (List.getElem_mem hi)
theorem KO.set{xs:List PT}(h:KO xs){i:Nat}{x:PT}(K:0≤x.1∧x.1≤1000):KO (xs.set i x):=fun y O=>by
 rcases List.mem_or_eq_of_mem_set O with q | q
 ·exact h y q
 ·subst q;exact K
theorem Gb{xs:List PT}{i j:Nat}(hi:i<xs.length)(K:j<xs.length):((xs.set i xs[j]).set j xs[i]).toArray=swp xs.toArray i j:=by
 unfold swp;rw [show xs.toArray[j]! =xs[j] by simp [getElem!_pos,K],show xs.toArray[i]! =xs[i] by simp [getElem!_pos,hi]];simp
theorem Ed{xs:List PT}{i:Nat}(hi:i<xs.length):xs.toArray[i]! =xs[i]:=by simp [getElem!_pos,hi]
section
variable {α:Type}{Q:α→Prop}
theorem Ac.AZ{f:Int→Option α}{x:Int}(y:Int)(h:x=y)(K: -9223372036854775808≤y)(O:y≤9223372036854775807)(k:Ac (f y) Q):Ac ((Av x).bind f) Q:=by subst h;exact Ac.TC K O k
end
theorem Qt{F:Nat}(a:Nat):∀(j fuel:Nat) (xs:List PT),j<fuel→j<xs.length→xs.length<1000→KO xs→
  Ac (iter (GH F (a:Int)) fuel ((j:Int),xs)) (fun ys=>ys.toArray=insInner AI a j xs.toArray∧KO ys∧ys.length=xs.length):=by
 intro j
 induction j with
 | zero=>
  intro fuel xs ae U aa K;obtain⟨fuel,rfl⟩:∃k,fuel=k+1:=⟨fuel - 1,by omega⟩;refine⟨xs,?_,rfl,K,rfl⟩;have ag:¬((a:Int)<0):=by omega
  simp [iter,GH,ag]
 | succ j ah=>
  intro fuel xs ae U aa K;obtain⟨fuel,rfl⟩:∃k,fuel=k+1:=⟨fuel - 1,by omega⟩;have O:j<xs.length:=by omega
  have ai:Ac (GH F (a:Int) (((j+1:Nat):Int),xs)) (fun st=>st=if(decide (j+1>a)&&AI xs[j+1] xs[j])=true then .more ((j:Int),(xs.set (j+1) xs[j]).set j xs[j+1]) else .done xs):=by
   unfold GH;refine Ac.b (S:=fun c=>c=(decide (j+1>a)&&AI xs[j+1] xs[j])) ?_ ?_
   ·refine Ac.ite (fun h=>?_) (fun h=>?_)
    ·have Z:a<j+1:=by simp at h;omega
     refine Ac.Bq (m:=j+1) rfl U ?_;refine Ac.AZ (j:Int) (by simp) (by omega) (by omega) ?_;refine Ac.Bq (m:=j) rfl O ?_;refine Ac.be (Hi (K.get U) (K.get O)) ?_;refine Ac.intro ?_;rw [GI];simp [Z]
    ·have Z:¬a<j+1:=by simp at h;omega
     refine Ac.intro ?_;simp [Z]
   ·rintro c rfl;refine Ac.ite (fun h=>?_) (fun h=>?_)
    ·refine Ac.AZ (j:Int) (by simp) (by omega) (by omega) ?_;refine Ac.AZ (j:Int) (by simp) (by omega) (by omega) ?_;refine Ac.Bq (m:=j) rfl O ?_;refine Ac.Bq (m:=j+1) rfl U ?_;refine Ac.be (b:=(xs.set (j+1) xs[j])[j]'(by simpa using O)) (ET rfl (List.getElem?_eq_getElem _)) ?_;refine Ac.AZ (j:Int) (by simp) (by omega) (by omega) ?_;refine Ac.intro ?_;rw [if_pos h];simp
    ·refine Ac.intro ?_;rw [if_neg h]
  obtain⟨st,aj,rfl⟩:=ai;unfold iter;rw [aj];have W:insInner AI a (j+1) xs.toArray=if(decide (j+1>a)&&AI xs[j+1] xs[j])=true then insInner AI a j (swp xs.toArray (j+1) j) else xs.toArray:=by
   rw [insInner,Ed U,Ed O]
  by_cases ab:(decide (j+1>a)&&AI xs[j+1] xs[j])=true
  ·rw [if_pos ab] at W ⊢;have ak:KO ((xs.set (j+1) xs[j]).set j xs[j+1]):=(K.set (K.get O)).set (K.get U);refine(ah fuel ((xs.set (j+1) xs[j]).set j xs[j+1]) (by omega) (by simpa using O) (by simpa using aa) ak).mono ?_;rintro ys ⟨al,am,an⟩;refine⟨?_,am,by simpa using an⟩;rw [al,Gb U O,W]
  ·rw [if_neg ab] at W ⊢;exact⟨xs,rfl,W.symm,K,rfl⟩
theorem Pw{F:Nat}(a b:Nat)(ai:2000<F):∀(m i fuel:Nat) (xs:List PT),b - i=m→m<fuel→b≤xs.length→xs.length<1000→KO xs→
  Ac (iter (Ge F (a:Int) (b:Int)) fuel ((i:Int),xs)) (fun ys=>ys.toArray=insOuter AI a b i xs.toArray∧KO ys∧ys.length=xs.length):=by
 intro m
 induction m with
 | zero=>
  intro i fuel xs hm Z hb W O;obtain⟨fuel,rfl⟩:∃k,fuel=k+1:=⟨fuel - 1,by omega⟩;have U:¬i<b:=by omega
  have K:Ac (Ge F (a:Int) (b:Int) ((i:Int),xs)) (fun st=>st= .done xs):=by
   unfold Ge;exact Ac.neg (show ¬(i:Int)<(b:Int) by omega) (Ac.intro rfl)
  obtain⟨st,K,rfl⟩:=K;unfold iter;rw [K];refine⟨xs,rfl,?_,O,rfl⟩;rw [insOuter,if_neg U]
 | succ m aa=>
  intro i fuel xs hm Z hb W O;obtain⟨fuel,rfl⟩:∃k,fuel=k+1:=⟨fuel - 1,by omega⟩;have U:i<b:=by omega
  obtain⟨ys,ab,ae,ag,aj⟩:=Qt (F:=F) a i F xs (by omega) (by omega) W O;have K:Ac (Ge F (a:Int) (b:Int) ((i:Int),xs)) (fun st=>st= .more (((i+1:Nat):Int),ys)):=by
   unfold Ge;refine Ac.pos (show(i:Int)<(b:Int) by omega) ?_;refine Ac.be ab ?_;refine Ac.AZ ((i+1:Nat):Int) (by simp) (by omega) (by omega) ?_;exact Ac.intro rfl
  obtain⟨st,K,rfl⟩:=K;unfold iter;rw [K];refine(aa (i+1) fuel ys (by omega) (by omega) (by omega) (by omega) ag).mono ?_;rintro ak ⟨k1,ah,al⟩;refine⟨?_,ah,by omega⟩;rw [k1,ae,insOuter.eq_def AI a b i,if_pos U]
theorem Ml{F a b:Nat}{xs:List PT}(K:2000<F)(hb:b≤xs.length)(O:xs.length<1000)(U:KO xs)(ab:a≤b):
  Ac (f178 F xs (a:Int) (b:Int)) (fun ys=>ys.toArray=insertionSort AI xs.toArray a b∧KO ys∧ys.length=xs.length):=by
 unfold f178;refine Ac.AZ ((a+1:Nat):Int) (by simp) (by omega) (by omega) ?_;refine Ac.b (Pw (F:=F) a b K (b - (a+1)) (a+1) F xs rfl (by omega) hb O U) ?_;rintro ys ⟨W,Z,aa⟩;exact⟨ys,rfl,W,Z,aa⟩
end Pal
namespace Pal
open Go.Sort
theorem JU{F a b sw:Nat}{xs:List PT}(O:a<xs.length)(hb:b<xs.length)(hs:sw<1000)(W:xs.length<1000)(U:KO xs):
  f200 F xs (a:Int) (b:Int) (sw:Int)=some ((((order2 AI xs.toArray a b sw).1:Nat):Int),(((order2 AI xs.toArray a b sw).2.1:Nat):Int),(((order2 AI xs.toArray a b sw).2.2:Nat):Int)):=by
 have h:Ac (f200 F xs (a:Int) (b:Int) (sw:Int)) (fun r=>r=((((order2 AI xs.toArray a b sw).1:Nat):Int),(((order2 AI xs.toArray a b sw).2.1:Nat):Int),(((order2 AI xs.toArray a b sw).2.2:Nat):Int))):=by
  unfold f200;refine Ac.Bq (m:=b) rfl hb ?_;refine Ac.Bq (m:=a) rfl O ?_;refine Ac.be (Hi (U.get hb) (U.get O)) ?_;have e:order2 AI xs.toArray a b sw=if AI xs[b] xs[a] then(b,a,sw+1) else(a,b,sw):=by unfold order2;rw [Ed O,Ed hb]
  refine Ac.ite (fun h=>?_) (fun h=>?_)
  ·have K:AI xs[b] xs[a]=true:=by rw [← GI];exact decide_eq_true h
   refine Ac.AZ ((sw+1:Nat):Int) (by simp) (by omega) (by omega) ?_;refine Ac.intro ?_;rw [e,if_pos K]
  ·have K:¬AI xs[b] xs[a]=true:=by rw [← GI];simpa using h
   refine Ac.intro ?_;rw [e,if_neg K]
 obtain⟨r,K,rfl⟩:=h;exact K
theorem Lw{n a b sw:Nat}{d:Array PT}(K:a<n)(hb:b<n):(order2 AI d a b sw).1<n∧(order2 AI d a b sw).2.1<n∧(order2 AI d a b sw).2.2≤sw+1:=by
 unfold order2;split
 ·exact⟨hb,K,Nat.le_refl _⟩
 ·exact⟨K,hb,Nat.le_succ _⟩
theorem Rc{F a b c sw:Nat}{xs:List PT}(U:a<xs.length)(hb:b<xs.length)(W:c<xs.length)(hs:sw<900)(K:xs.length<1000)(O:KO xs):
  f197 F xs (a:Int) (b:Int) (c:Int) (sw:Int)=some ((((median AI xs.toArray a b c sw).1:Nat):Int),(((median AI xs.toArray a b c sw).2:Nat):Int)):=by
 unfold f197 median;obtain⟨aa,Z,ae⟩:=Lw (sw:=sw) (d:=xs.toArray) U hb;rw [JU U hb (by omega) K O];simp only [Option.bind_some];obtain⟨ab,ag,ah⟩:=Lw (sw:=(order2 AI xs.toArray a b sw).2.2) (d:=xs.toArray) Z W;rw [JU Z W (by omega) K O];simp only [Option.bind_some];rw [JU aa ab (by omega) K O];simp only [Option.bind_some]
def FV:Hint→Int | .unknown=>0 | .increasing=>1 | .decreasing=>2
theorem Ac.quo{α:Type}{Q:α→Prop}{f:Int→Option α}{x:Int}(m k:Nat)(K:x=(m:Int))(hm:m<1000)(O:0<k)(h:Ac (f ((m / k:Nat):Int)) Q):Ac ((EY x (k:Int)).bind f) Q:=by
 subst K;refine Ac.be ?_ h;unfold EY;rw [if_neg (by omega)];have e:((m:Int).tdiv (k:Int))=((m / k:Nat):Int):=by rw [Int.tdiv_eq_ediv_of_nonneg (by omega)];rfl
 have hle:m / k≤m:=Nat.div_le_self _ _;rw [e];generalize m / k=z at hle ⊢;exact if_pos (by omega)
theorem Qp{F a b:Nat}{xs:List PT}(ai:a+8≤b)(aj:b<a+50)(hb:b≤xs.length)(aa:xs.length<1000)(ab:KO xs):
  f181 F xs (a:Int) (b:Int)=some ((((choosePivot AI xs.toArray a b).1:Nat):Int),FV (choosePivot AI xs.toArray a b).2):=by
 have h:Ac (f181 F xs (a:Int) (b:Int)) (fun r=>r=((((choosePivot AI xs.toArray a b).1:Nat):Int),FV (choosePivot AI xs.toArray a b).2)):=by
  unfold f181;have ak:(b - a) / 4≤b - a:=Nat.div_le_self _ _;have al:(b - a) / 4*3<b - a:=by omega
  refine Ac.AZ ((b - a:Nat):Int) (by omega) (by omega) (by omega) ?_;refine Ac.quo (b - a) 4 rfl (by omega) (by omega) ?_;refine Ac.AZ (((b - a) / 4*1:Nat):Int) (by push_cast;rfl) (by omega) (by omega) ?_;refine Ac.AZ ((a+(b - a) / 4*1:Nat):Int) (by push_cast;rfl) (by omega) (by omega) ?_;refine Ac.quo (b - a) 4 rfl (by omega) (by omega) ?_;refine Ac.AZ (((b - a) / 4*2:Nat):Int) (by push_cast;rfl) (by omega) (by omega) ?_;refine Ac.AZ ((a+(b - a) / 4*2:Nat):Int) (by push_cast;rfl) (by omega) (by omega) ?_;refine Ac.quo (b - a) 4 rfl (by omega) (by omega) ?_;refine Ac.AZ (((b - a) / 4*3:Nat):Int) (by push_cast;rfl) (by omega) (by omega) ?_;refine Ac.AZ ((a+(b - a) / 4*3:Nat):Int) (by push_cast;rfl) (by omega) (by omega) ?_;have ae:choosePivot AI xs.toArray a b=((median AI xs.toArray (a+(b - a) / 4*1) (a+(b - a) / 4*2) (a+(b - a) / 4*3) 0).1,if(median AI xs.toArray (a+(b - a) / 4*1) (a+(b - a) / 4*2) (a+(b - a) / 4*3) 0).2=0 then .increasing else if(median AI xs.toArray (a+(b - a) / 4*1) (a+(b - a) / 4*2) (a+(b - a) / 4*3) 0).2=12 then .decreasing else .unknown):=by
   unfold choosePivot;simp only;rw [if_pos (by omega),if_neg (by omega)]
  rw [ae];generalize ag:median AI xs.toArray (a+(b - a) / 4*1) (a+(b - a) / 4*2) (a+(b - a) / 4*3) 0=K;refine Ac.b (S:=fun r=>r=(((K.1:Nat):Int),((K.2:Nat):Int))) ?_ ?_
  ·refine Ac.pos (by omega) ?_;refine Ac.b (S:=fun _=>True) (Ac.neg (by omega) (Ac.intro trivial)) fun _ _=>?_;have Z:=Rc (F:=F) (a:=a+(b - a) / 4*1) (b:=a+(b - a) / 4*2) (c:=a+(b - a) / 4*3) (sw:=0) (xs:=xs) (by omega) (by omega) (by omega) (by omega) aa ab;rw [ag] at Z;exact Ac.be Z (Ac.intro rfl)
  ·rintro r rfl;refine Ac.ite (fun h=>?_) (fun h=>?_)
   ·have O:K.2=0:=by simp at h;omega
    rw [if_pos O];exact Ac.intro rfl
   ·have O:¬K.2=0:=by simp at h;omega
    rw [if_neg O];refine Ac.ite (fun U=>?_) (fun U=>?_)
    ·have W:K.2=12:=by simp at U;omega
     rw [if_pos W];exact Ac.intro rfl
    ·have W:¬K.2=12:=by simp at U;omega
     rw [if_neg W];exact Ac.intro rfl
 obtain⟨r,ah,rfl⟩:=h;exact ah
theorem Qr{F:Nat}:∀(m i j fuel:Nat) (xs:List PT),j - i≤m→m<fuel→(i<j→j<xs.length)→i≤xs.length→j≤xs.length→xs.length<1000→KO xs→
  Ac (iter (Fi F) fuel ((i:Int),(j:Int),xs)) (fun ys=>ys.toArray=reverseLoop i j xs.toArray∧KO ys∧ys.length=xs.length):=by
 intro m
 induction m with
 | zero=>
  intro i j fuel xs hm ae aa hi ag ab K;obtain⟨fuel,rfl⟩:∃k,fuel=k+1:=⟨fuel - 1,by omega⟩;have O:¬i<j:=by omega
  have U:Ac (Fi F ((i:Int),(j:Int),xs)) (fun st=>st= .done xs):=by
   unfold Fi;exact Ac.neg (show ¬(i:Int)<(j:Int) by omega) (Ac.intro rfl)
  obtain⟨st,hb,rfl⟩:=U;unfold iter;rw [hb];refine⟨xs,rfl,?_,K,rfl⟩;rw [reverseLoop,if_neg O]
 | succ m ah=>
  intro i j fuel xs hm ae aa hi ag ab K;obtain⟨fuel,rfl⟩:∃k,fuel=k+1:=⟨fuel - 1,by omega⟩;by_cases O:i<j
  ·have W:=aa O;have Z:i<xs.length:=by omega
   have U:Ac (Fi F ((i:Int),(j:Int),xs)) (fun st=>st= .more (((i+1:Nat):Int),((j - 1:Nat):Int),(xs.set i xs[j]).set j xs[i])):=by
    unfold Fi;refine Ac.pos (show(i:Int)<(j:Int) by omega) ?_;refine Ac.Bq (m:=j) rfl W ?_;refine Ac.Bq (m:=i) rfl Z ?_;refine Ac.AZ ((i+1:Nat):Int) (by simp) (by omega) (by omega) ?_;refine Ac.AZ ((j - 1:Nat):Int) (by simp;omega) (by omega) (by omega) ?_;exact Ac.intro rfl
   obtain⟨st,hb,rfl⟩:=U;unfold iter;rw [hb];refine(ah (i+1) (j - 1) fuel ((xs.set i xs[j]).set j xs[i]) (by omega) (by omega) (by simp;omega) (by simp;omega) (by simp;omega) (by simpa using ab) ((K.set (K.get W)).set (K.get Z))).mono ?_;rintro ys ⟨ai,aj,ak⟩;refine⟨?_,aj,by simpa using ak⟩;rw [ai,Gb Z W,reverseLoop.eq_def i j,if_pos O]
  ·have U:Ac (Fi F ((i:Int),(j:Int),xs)) (fun st=>st= .done xs):=by
    unfold Fi;exact Ac.neg (show ¬(i:Int)<(j:Int) by omega) (Ac.intro rfl)
   obtain⟨st,hb,rfl⟩:=U;unfold iter;rw [hb];refine⟨xs,rfl,?_,K,rfl⟩;rw [reverseLoop,if_neg O]
theorem QG{F a b:Nat}{xs:List PT}(U:2000<F)(W:a<b)(hb:b≤xs.length)(K:xs.length<1000)(O:KO xs):
  Ac (f182 F xs (a:Int) (b:Int)) (fun ys=>ys.toArray=reverseRange xs.toArray a b∧KO ys∧ys.length=xs.length):=by
 unfold f182 reverseRange;refine Ac.AZ ((b - 1:Nat):Int) (by omega) (by omega) (by omega) ?_;refine Ac.b (Qr (F:=F) (b - 1 - a) a (b - 1) F xs (by omega) (by omega) (by omega) (by omega) (by omega) K O) ?_;rintro ys h;exact⟨ys,rfl,h⟩
theorem QT{F b q1:Nat}{xs:List PT}(q2:Int)(hb:b≤xs.length)(ah:xs.length<1000)(aa:KO xs):∀(m i fuel:Nat),b - i≤m→m<fuel→1≤i→
  Ac (iter (Gd F (b:Int) (((q1:Nat):Int),q2,xs)) fuel (i:Int)) (fun r=>r=((scanSorted AI xs.toArray b i:Nat):Int)):=by
 intro m
 induction m with
 | zero=>
  intro i fuel hm ag hi;obtain⟨fuel,rfl⟩:∃k,fuel=k+1:=⟨fuel - 1,by omega⟩;have K:¬i<b:=by omega
  have O:Ac (Gd F (b:Int) (((q1:Nat):Int),q2,xs) (i:Int)) (fun st=>st= .done (i:Int)):=by
   unfold Gd;refine Ac.b (S:=fun c=>c=false) (Ac.neg (by omega) (Ac.intro rfl)) ?_;rintro c rfl;exact Ac.neg (by simp) (Ac.intro rfl)
  obtain⟨st,U,rfl⟩:=O;unfold iter;rw [U];refine⟨_,rfl,?_⟩;rw [scanSorted,if_neg (by simp [K])]
 | succ m ab=>
  intro i fuel hm ag hi;obtain⟨fuel,rfl⟩:∃k,fuel=k+1:=⟨fuel - 1,by omega⟩;by_cases K:i<b
  ·have W:i<xs.length:=by omega
   have Z:i - 1<xs.length:=by omega
   have O:Ac (Gd F (b:Int) (((q1:Nat):Int),q2,xs) (i:Int)) (fun st=>st=if(!AI xs[i] xs[i-1])=true then .more ((i+1:Nat):Int) else .done (i:Int)):=by
    unfold Gd;refine Ac.b (S:=fun c=>c= !AI xs[i] xs[i-1]) ?_ ?_
    ·refine Ac.pos (by omega) ?_;refine Ac.Bq (m:=i) rfl W ?_;refine Ac.AZ ((i - 1:Nat):Int) (by omega) (by omega) (by omega) ?_;refine Ac.Bq (m:=i - 1) rfl Z ?_;refine Ac.be (Hi (aa.get W) (aa.get Z)) ?_;refine Ac.intro ?_;rw [← GI];exact decide_not
    ·rintro c rfl;refine Ac.ite (fun h=>?_) (fun h=>?_)
     ·refine Ac.AZ ((i+1:Nat):Int) (by simp) (by omega) (by omega) ?_;rw [if_pos h];exact Ac.intro rfl
     ·rw [if_neg h];exact Ac.intro rfl
   obtain⟨st,U,rfl⟩:=O;unfold iter;rw [U];have hs:scanSorted AI xs.toArray b i=if(!AI xs[i] xs[i-1])=true then scanSorted AI xs.toArray b (i+1) else i:=by
    rw [scanSorted.eq_def AI xs.toArray b i,Ed W,Ed Z];simp [K]
   by_cases ae:(!AI xs[i] xs[i-1])=true
   ·rw [if_pos ae] at hs ⊢;rw [hs];exact ab (i+1) fuel (by omega) (by omega) (by omega)
   ·rw [if_neg ae] at hs ⊢;exact⟨_,rfl,by rw [hs]⟩
  ·exact ab i (fuel+1) (by omega) (by omega) hi
theorem QL{F a b:Nat}{xs:List PT}(ab:2000<F)(ae:a<b)(ag:b<a+50)(hb:b≤xs.length)(O:xs.length<1000)(U:KO xs):
  f183 F xs (a:Int) (b:Int)=some ((partialInsertionSort AI xs.toArray a b).2,xs)∧(partialInsertionSort AI xs.toArray a b).1=xs.toArray:=by
 have e:partialInsertionSort AI xs.toArray a b=if scanSorted AI xs.toArray b (a+1)=b then(xs.toArray,true) else(xs.toArray,false):=by
  unfold partialInsertionSort partialIns;simp only;split
  ·rfl
  ·rw [if_pos (by omega)]
 have h:Ac (f183 F xs (a:Int) (b:Int)) (fun r=>r=((partialInsertionSort AI xs.toArray a b).2,xs)):=by
  unfold f183;refine Ac.AZ ((a+1:Nat):Int) (by simp) (by omega) (by omega) ?_;refine Ac.b (S:=fun r=>r=Sum.inl ((partialInsertionSort AI xs.toArray a b).2,xs)) ?_ ?_
  ·obtain⟨K,rfl⟩:∃k,F=k+1:=⟨F - 1,by omega⟩;have W:Ac (Ix (K+1) (a:Int) (b:Int) (((a+1:Nat):Int),0,xs)) (fun st=>st= .done (Sum.inl ((partialInsertionSort AI xs.toArray a b).2,xs))):=by
    unfold Ix;refine Ac.pos (show(0:Int)<5 by omega) ?_;refine Ac.b (QT (F:=K+1) (q1:=a+1) 0 hb O U (b - (a+1)) (a+1) (K+1) (by omega) (by omega) (by omega)) ?_;rintro r rfl;rw [e];refine Ac.ite (fun h=>?_) (fun h=>?_)
    ·rw [if_pos (by omega)];exact Ac.intro rfl
    ·rw [if_neg (by omega)];refine Ac.AZ ((b - a:Nat):Int) (by omega) (by omega) (by omega) ?_;exact Ac.pos (by omega) (Ac.intro rfl)
   obtain⟨st,Z,rfl⟩:=W;unfold iter;rw [Z];exact⟨_,rfl,rfl⟩
  ·rintro r rfl;exact Ac.intro rfl
 obtain⟨r,aa,rfl⟩:=h;refine⟨aa,?_⟩;rw [e];split <;> rfl
end Pal
namespace Pal
open Go.Sort
theorem Ll{body:Int→Option (AV Int Int)}{d:Array PT}{p:PT→Bool}{j:Nat}(W:j<900)
  (h:∀i:Nat,i≤j+2→body (i:Int)=some (if(decide (i≤j)&&p d[i]!)=true then .more ((i+1:Nat):Int) else .done (i:Int))):
  ∀(m i fuel:Nat),j+1 - i≤m→m<fuel→i≤j+2→iter body fuel (i:Int)=some ((scanUp p d j i:Nat):Int):=by
 intro m
 induction m with
 | zero=>
  intro i fuel hm O hi;obtain⟨fuel,rfl⟩:∃k,fuel=k+1:=⟨fuel - 1,by omega⟩;have K:¬(decide (i≤j)&&p d[i]!)=true:=by simp;omega
  unfold iter;rw [h i hi,if_neg K,scanUp,if_neg K]
 | succ m U=>
  intro i fuel hm O hi;obtain⟨fuel,rfl⟩:∃k,fuel=k+1:=⟨fuel - 1,by omega⟩;unfold iter;rw [h i hi,scanUp];by_cases K:(decide (i≤j)&&p d[i]!)=true
  ·rw [if_pos K,if_pos K];have:i≤j:=by simp at K;exact K.1
   exact U (i+1) fuel (by omega) (by omega) (by omega)
  ·rw [if_neg K,if_neg K]
theorem K1{body:Int→Option (AV Int Int)}{d:Array PT}{p:PT→Bool}{i:Nat}(hi:1≤i){n:Nat}
  (h:∀j:Nat,j<n→body (j:Int)=some (if(decide (i≤j)&&p d[j]!)=true then .more ((j - 1:Nat):Int) else .done (j:Int))):
  ∀(j fuel:Nat),j<n→j<fuel→iter body fuel (j:Int)=some ((scanDown p d i j:Nat):Int):=by
 intro j
 induction j with
 | zero=>
  intro fuel O U;obtain⟨fuel,rfl⟩:∃k,fuel=k+1:=⟨fuel - 1,by omega⟩;have K:¬(decide (i≤0)&&p d[0]!)=true:=by simp;omega
  unfold iter;rw [h 0 O,if_neg K];rfl
 | succ j W=>
  intro fuel O U;obtain⟨fuel,rfl⟩:∃k,fuel=k+1:=⟨fuel - 1,by omega⟩;unfold iter;rw [h (j+1) O,scanDown];by_cases K:(decide (i≤j+1)&&p d[j+1]!)=true
  ·rw [if_pos K,if_pos K];exact W fuel (by omega) (by omega)
  ·rw [if_neg K,if_neg K]
theorem Ac.HU{α:Type}{o:Option α}{a:α}(h:Ac o (fun x=>x=a)):o=some a:=by obtain⟨x,K,rfl⟩:=h;exact K
theorem MR{F a:Nat}{q2:Int}{j:Nat}{q1:Int}{ys:List PT}(K:a<ys.length)(Z:j<ys.length)(aa:ys.length<900)(W:KO ys)(i:Nat)(hi:i≤j+2):
  GJ F (a:Int) (q1,(j:Int),ys) (i:Int)=some (if(decide (i≤j)&&AI ys.toArray[i]! ys.toArray[a]!)=true then .more ((i+1:Nat):Int) else .done (i:Int)):=by
 refine Ac.HU ?_;unfold GJ;refine Ac.b (S:=fun c=>c=(decide (i≤j)&&AI ys.toArray[i]! ys.toArray[a]!)) ?_ ?_
 ·refine Ac.ite (fun h=>?_) (fun h=>?_)
  ·have O:i≤j:=by simp at h;omega
   have U:i<ys.length:=by omega
   refine Ac.Bq (m:=i) rfl U ?_;refine Ac.Bq (m:=a) rfl K ?_;refine Ac.be (Hi (W.get U) (W.get K)) ?_;refine Ac.intro ?_;rw [GI,Ed U,Ed K];simp [O]
  ·have O:¬i≤j:=by simp at h;omega
   refine Ac.intro ?_;simp [O]
 ·rintro c rfl;refine Ac.ite (fun h=>?_) (fun h=>?_)
  ·refine Ac.AZ ((i+1:Nat):Int) (by simp) (by omega) (by omega) ?_;rw [if_pos h];exact Ac.intro rfl
  ·rw [if_neg h];exact Ac.intro rfl
theorem LK{F a i:Nat}{q1 q2:Int}{ys:List PT}(O:a<ys.length)(Z:ys.length<900)(W:KO ys)(hi:1≤i)(j:Nat)(U:j<ys.length):
  GG F (a:Int) (q1,q2,ys) (i:Int) (j:Int)=some (if(decide (i≤j)&& !AI ys.toArray[j]! ys.toArray[a]!)=true then .more ((j - 1:Nat):Int) else .done (j:Int)):=by
 refine Ac.HU ?_;unfold GG;refine Ac.b (S:=fun c=>c=(decide (i≤j)&& !AI ys.toArray[j]! ys.toArray[a]!)) ?_ ?_
 ·refine Ac.ite (fun h=>?_) (fun h=>?_)
  ·have K:i≤j:=by omega
   refine Ac.Bq (m:=j) rfl U ?_;refine Ac.Bq (m:=a) rfl O ?_;refine Ac.be (Hi (W.get U) (W.get O)) ?_;refine Ac.intro ?_;rw [Ed U,Ed O,← GI,← decide_not];simp [K]
  ·have K:¬i≤j:=by omega
   refine Ac.intro ?_;simp [K]
 ·rintro c rfl;refine Ac.ite (fun h=>?_) (fun h=>?_)
  ·have K:i≤j:=by simp at h;exact h.1
   refine Ac.AZ ((j - 1:Nat):Int) (by omega) (by omega) (by omega) ?_;rw [if_pos h];exact Ac.intro rfl
  ·rw [if_neg h];exact Ac.intro rfl
theorem QR{F a b:Nat}(ay:2000<F)(az:a<b):∀(m i j fuel:Nat) (ys:List PT),j+1 - i≤m→m<fuel→a<i→i≤j+2→j<b→b≤ys.length→ys.length<900→KO ys→
  Ac (iter (Gc F (a:Int)) fuel ((i:Int),(j:Int),ys)) (fun r=>r.1=(((partLoop AI a i j ys.toArray).1:Nat):Int)∧r.2.toArray=(partLoop AI a i j ys.toArray).2∧KO r.2∧r.2.length=ys.length):=by
 intro m
 induction m with
 | zero=>?_
 | succ m al=>?_
 all_goals
  intro i j fuel ys hm aA aB am aC hb W U;obtain⟨fuel,rfl⟩:∃k,fuel=k+1:=⟨fuel - 1,by omega⟩;have ah:a<ys.length:=by omega
  have ai:j<ys.length:=by omega
  have Z:iter (GJ F (a:Int) ((i:Int),(j:Int),ys)) F (i:Int)=some ((scanUp (fun x=>AI x ys.toArray[a]!) ys.toArray j i:Nat):Int):=
   Ll (by omega) (fun an ao=>MR (q2:=0) ah ai W U an ao) (j+1 - i) i F (by omega) (by omega) am
  have ap:=scanUp_ge (fun x=>AI x ys.toArray[a]!) ys.toArray j i;have aq:=scanUp_spec (fun x=>AI x ys.toArray[a]!) ys.toArray j _ i rfl;have O:=partLoop_eq AI a i j ys.toArray;generalize aD:scanUp (fun x=>AI x ys.toArray[a]!) ys.toArray j i=i2 at Z ap aq O;have aa:iter (GG F (a:Int) ((i:Int),(j:Int),ys) (i2:Int)) F (j:Int)=some ((scanDown (fun x=> !AI x ys.toArray[a]!) ys.toArray i2 j:Nat):Int):=
   K1 (n:=ys.length) (by omega) (fun ar au=>LK ah W U (by omega) ar au) j F ai (by omega)
  have hle:=scanDown_le (fun x=> !AI x ys.toArray[a]!) ys.toArray i2 j;generalize aE:scanDown (fun x=> !AI x ys.toArray[a]!) ys.toArray i2 j=K at aa hle O;by_cases aj:i2>K
  ·have ab:Gc F (a:Int) ((i:Int),(j:Int),ys)=some (.done ((K:Int),ys)):=by
    refine Ac.HU ?_;unfold Gc;refine Ac.be Z ?_;refine Ac.be aa ?_;exact Ac.pos (by omega) (Ac.intro rfl)
   unfold iter;rw [ab];rw [if_pos aj] at O;exact⟨_,rfl,by rw [O],by rw [O],U,rfl⟩
  ·first
    | (exfalso;omega)
    | (
     have ae:i2<ys.length:=by omega
     have ag:K<ys.length:=by omega
     have ab:Gc F (a:Int) ((i:Int),(j:Int),ys)=some (.more (((i2+1:Nat):Int),((K - 1:Nat):Int),(ys.set i2 ys[K]).set K ys[i2])):=by
      refine Ac.HU ?_
      unfold Gc
      refine Ac.be Z ?_
      refine Ac.be aa ?_
      refine Ac.neg (by omega) ?_
      refine Ac.Bq (m:=K) rfl ag ?_
      refine Ac.Bq (m:=i2) rfl ae ?_
      refine Ac.AZ ((i2+1:Nat):Int) (by simp) (by omega) (by omega) ?_
      refine Ac.AZ ((K - 1:Nat):Int) (by omega) (by omega) (by omega) ?_
      exact Ac.intro rfl
     unfold iter;rw [ab]
     rw [if_neg aj] at O
     refine(al (i2+1) (K - 1) fuel ((ys.set i2 ys[K]).set K ys[i2]) (by omega) (by omega) (by omega) (by omega) (by omega) (by simpa using hb) (by simpa using W) ((U.set (U.get ag)).set (U.get ae))).mono ?_
     rintro r ⟨k1,ak,av,aw⟩
     rw [Gb ae ag,← O] at k1 ak
     exact⟨k1,ak,av,by simpa using aw⟩)
theorem PO{F a:Nat}{j p3:Nat}{xs ys:List PT}{K O:PT}(he:(xs.set a K).set p3 O=ys)(U:a<ys.length)(W:j<ys.length)(Z:ys.length<900)(aa:KO ys)(i:Nat)(hi:i≤j+2):
  Hj F xs (a:Int) (p3:Int) K O (j:Int) (i:Int)=some (if(decide (i≤j)&&AI ys.toArray[i]! ys.toArray[a]!)=true then .more ((i+1:Nat):Int) else .done (i:Int)):=by
 rw [← MR (F:=F) (q1:=0) (q2:=0) U W Z aa i hi];unfold Hj GJ;simp only [Int.toNat_natCast,he]
theorem OG{F a i p3:Nat}{xs ys:List PT}{K O:PT}(he:(xs.set a K).set p3 O=ys)(U:a<ys.length)(W:ys.length<900)(Z:KO ys)(hi:1≤i)(j:Nat)(aa:j<ys.length):
  Hk F xs (a:Int) (p3:Int) K O (i:Int) (j:Int)=some (if(decide (i≤j)&& !AI ys.toArray[j]! ys.toArray[a]!)=true then .more ((j - 1:Nat):Int) else .done (j:Int)):=by
 rw [← LK (F:=F) (q1:=0) (q2:=0) U W Z hi j aa];unfold Hk GG;simp only [Int.toNat_natCast,he]
theorem Ov(a:Nat):∀(n i j:Nat) (d:Array PT),j+1 - i≤n→(partLoop AI a i j d).1≤j:=by
  intro n
  induction n with
  | zero=>?_
  | succ n W=>?_
  all_goals
    intro i j d aa;have K:=partLoop_eq AI a i j d;have Z:=scanUp_ge (fun x=>AI x d[a]!) d j i;generalize ab:scanUp (fun x=>AI x d[a]!) d j i=i2 at Z K;have hle:=scanDown_le (fun x=> !AI x d[a]!) d i2 j;generalize ae:scanDown (fun x=> !AI x d[a]!) d i2 j=O at hle K;by_cases U:i2>O
    ·rw [K,if_pos U];exact hle
    ·first
        | (exfalso;omega)
        | (rw [K,if_neg U]
           have:=W (i2+1) (O - 1) (swp d i2 O) (by omega)
           omega)
theorem Qy{F a b pv:Nat}(ar:2000<F){xs:List PT}(aE:a≤pv)(aF:pv<b)(hb:b≤xs.length)(aG:xs.length<900)(ae:KO xs):
  Ac (f185 F xs (a:Int) (b:Int) (pv:Int)) (fun r=>r.1=(((partition AI xs.toArray a b pv).1:Nat):Int)∧r.2.1=(partition AI xs.toArray a b pv).2.1∧r.2.2.toArray=(partition AI xs.toArray a b pv).2.2∧KO r.2.2∧r.2.2.length=xs.length):=by
 have ag:a<xs.length:=by omega
 have ah:pv<xs.length:=by omega
 obtain⟨ys,W⟩:∃ys,(xs.set a xs[pv]).set pv xs[a]=ys:=⟨_,rfl⟩;have O:KO ys:=by rw [← W];exact(ae.set (ae.get ah)).set (ae.get ag)
 have ao:ys.length=xs.length:=by rw [← W];simp
 have au:ys.toArray=swp xs.toArray a pv:=by rw [← W,Gb ag ah]
 have aa:a<ys.length:=by omega
 have ap:b - 1<ys.length:=by omega
 unfold f185;refine Ac.Bq (m:=pv) rfl ah ?_;refine Ac.Bq (m:=a) rfl ag ?_;refine Ac.AZ ((a+1:Nat):Int) (by simp) (by omega) (by omega) ?_;refine Ac.AZ ((b - 1:Nat):Int) (by omega) (by omega) (by omega) ?_;have av:iter (Hj F xs (a:Int) (pv:Int) xs[pv] xs[a] ((b - 1:Nat):Int)) F ((a+1:Nat):Int)=some ((scanUp (fun x=>AI x ys.toArray[a]!) ys.toArray (b - 1) (a+1):Nat):Int):=
  Ll (by omega) (fun aw ay=>PO W aa ap (by omega) O aw ay) (b - 1+1 - (a+1)) (a+1) F (by omega) (by omega) (by omega)
 refine Ac.be av ?_;have az:=scanUp_ge (fun x=>AI x ys.toArray[a]!) ys.toArray (b - 1) (a+1);have U:partition AI xs.toArray a b pv=if scanUp (fun x=>AI x ys.toArray[a]!) ys.toArray (b - 1) (a+1)>scanDown (fun x=> !AI x ys.toArray[a]!) ys.toArray (scanUp (fun x=>AI x ys.toArray[a]!) ys.toArray (b - 1) (a+1)) (b - 1) then
   (scanDown (fun x=> !AI x ys.toArray[a]!) ys.toArray (scanUp (fun x=>AI x ys.toArray[a]!) ys.toArray (b - 1) (a+1)) (b - 1),true,swp ys.toArray (scanDown (fun x=> !AI x ys.toArray[a]!) ys.toArray (scanUp (fun x=>AI x ys.toArray[a]!) ys.toArray (b - 1) (a+1)) (b - 1)) a) else
   ((partLoop AI a (scanUp (fun x=>AI x ys.toArray[a]!) ys.toArray (b - 1) (a+1)+1) (scanDown (fun x=> !AI x ys.toArray[a]!) ys.toArray (scanUp (fun x=>AI x ys.toArray[a]!) ys.toArray (b - 1) (a+1)) (b - 1) - 1) (swp ys.toArray (scanUp (fun x=>AI x ys.toArray[a]!) ys.toArray (b - 1) (a+1)) (scanDown (fun x=> !AI x ys.toArray[a]!) ys.toArray (scanUp (fun x=>AI x ys.toArray[a]!) ys.toArray (b - 1) (a+1)) (b - 1)))).1,false,
    swp (partLoop AI a (scanUp (fun x=>AI x ys.toArray[a]!) ys.toArray (b - 1) (a+1)+1) (scanDown (fun x=> !AI x ys.toArray[a]!) ys.toArray (scanUp (fun x=>AI x ys.toArray[a]!) ys.toArray (b - 1) (a+1)) (b - 1) - 1) (swp ys.toArray (scanUp (fun x=>AI x ys.toArray[a]!) ys.toArray (b - 1) (a+1)) (scanDown (fun x=> !AI x ys.toArray[a]!) ys.toArray (scanUp (fun x=>AI x ys.toArray[a]!) ys.toArray (b - 1) (a+1)) (b - 1)))).2
     (partLoop AI a (scanUp (fun x=>AI x ys.toArray[a]!) ys.toArray (b - 1) (a+1)+1) (scanDown (fun x=> !AI x ys.toArray[a]!) ys.toArray (scanUp (fun x=>AI x ys.toArray[a]!) ys.toArray (b - 1) (a+1)) (b - 1) - 1) (swp ys.toArray (scanUp (fun x=>AI x ys.toArray[a]!) ys.toArray (b - 1) (a+1)) (scanDown (fun x=> !AI x ys.toArray[a]!) ys.toArray (scanUp (fun x=>AI x ys.toArray[a]!) ys.toArray (b - 1) (a+1)) (b - 1)))).1 a):=by
  rw [au];rfl
 generalize aH:scanUp (fun x=>AI x ys.toArray[a]!) ys.toArray (b - 1) (a+1)=i2 at az U ⊢;have aA:iter (Hk F xs (a:Int) (pv:Int) xs[pv] xs[a] (i2:Int)) F ((b - 1:Nat):Int)=some ((scanDown (fun x=> !AI x ys.toArray[a]!) ys.toArray i2 (b - 1):Nat):Int):=
  K1 (n:=ys.length) (by omega) (fun aB aC=>OG W aa (by omega) O (by omega) aB aC) (b - 1) F ap (by omega)
 refine Ac.be aA ?_;have hle:=scanDown_le (fun x=> !AI x ys.toArray[a]!) ys.toArray i2 (b - 1);generalize aI:scanDown (fun x=> !AI x ys.toArray[a]!) ys.toArray i2 (b - 1)=K at hle U ⊢;have Z:K<ys.length:=by omega
 simp only [Int.toNat_natCast,W];refine Ac.ite (fun h=>?_) (fun h=>?_)
 ·have ai:i2>K:=by omega
  rw [if_pos ai] at U;refine Ac.Bq (m:=a) rfl aa ?_;refine Ac.Bq (m:=K) rfl Z ?_;refine Ac.intro ?_;rw [U];exact⟨rfl,rfl,Gb Z aa,(O.set (O.get aa)).set (O.get Z),by simp [ao]⟩
 ·have ai:¬i2>K:=by omega
  have aj:i2<ys.length:=by omega
  rw [if_neg ai] at U;refine Ac.Bq (m:=K) rfl Z ?_;refine Ac.Bq (m:=i2) rfl aj ?_;refine Ac.AZ ((i2+1:Nat):Int) (by simp) (by omega) (by omega) ?_;refine Ac.AZ ((K - 1:Nat):Int) (by omega) (by omega) (by omega) ?_;refine Ac.b (QR (F:=F) ar (show a<b by omega) (K - 1+1 - (i2+1)) (i2+1) (K - 1) F ((ys.set i2 ys[K]).set K ys[i2]) (by omega) (by omega) (by omega) (by omega) (by omega) (by simp;omega) (by simp;omega) ((O.set (O.get Z)).set (O.get aj))) ?_;rintro r ⟨k1,ak,ab,aq⟩;rw [Gb aj Z] at k1 ak;have aD:=Ov a _ (i2+1) (K - 1) (swp ys.toArray i2 K) (Nat.le_refl _);obtain⟨aJ,al⟩:=r;simp only at k1 ak ab aq ⊢;subst k1;rw [← ak] at U;have hlen:al.length=ys.length:=by simpa using aq
  generalize (partLoop AI a (i2+1) (K - 1) (swp ys.toArray i2 K)).1=pm at aD U ⊢;have am:pm<al.length:=by omega
  have an:a<al.length:=by omega
  refine Ac.Bq (m:=a) rfl an ?_;refine Ac.Bq (m:=pm) rfl am ?_;refine Ac.intro ?_;rw [U];exact⟨rfl,rfl,Gb am an,(ab.set (ab.get an)).set (ab.get am),by simp [hlen,ao]⟩
end Pal
namespace Pal
open Go.Sort
theorem QF(F:Nat):∀n:Nat,n<13→∃l,f163 F (BV (n:Int))=some l:=by
 intro n K
 match n,K with
 | 0,_=>exact⟨_,rfl⟩
 | 1,_=>exact⟨_,rfl⟩
 | 2,_=>exact⟨_,rfl⟩
 | 3,_=>exact⟨_,rfl⟩
 | 4,_=>exact⟨_,rfl⟩
 | 5,_=>exact⟨_,rfl⟩
 | 6,_=>exact⟨_,rfl⟩
 | 7,_=>exact⟨_,rfl⟩
 | 8,_=>exact⟨_,rfl⟩
 | 9,_=>exact⟨_,rfl⟩
 | 10,_=>exact⟨_,rfl⟩
 | 11,_=>exact⟨_,rfl⟩
 | 12,_=>exact⟨_,rfl⟩
 | n+13,h=>omega
theorem PQ(F:Nat):f163 F (BV ((13:Nat):Int))=some 4:=rfl
def Is(xs:List PT)(d:Array PT)(ys:List PT):Prop:=ys.toArray=d∧KO ys∧ys.length=xs.length
theorem Lc{F a b:Nat}{l:Int}{xs:List PT}(K:2000<F)(O:a≤b)(ah:b≤a+12)(hb:b≤xs.length)(ai:xs.length<900)(U:KO xs):
  Ac (FU F xs (a:Int) (b:Int) l) (Is xs (insertionSort AI xs.toArray a b)):=by
 unfold FU;refine Ac.b (S:=fun r=>∃ys,r=Sum.inl ys∧Is xs (insertionSort AI xs.toArray a b) ys) ?_ ?_
 ·obtain⟨W,rfl⟩:∃k,F=k+1:=⟨F - 1,by omega⟩;obtain⟨ys,Z,aa,ab,ae⟩:=Ml K hb (by omega) U O;have ag:Ic (W+1) xs (a:Int) (b:Int) l ()=some (.done (Sum.inl ys)):=by
   refine Ac.HU ?_;unfold Ic;refine Ac.AZ ((b - a:Nat):Int) (by omega) (by omega) (by omega) ?_;refine Ac.pos (by omega) ?_;exact Ac.be Z (Ac.intro rfl)
  unfold iter;rw [ag];exact⟨_,rfl,ys,rfl,aa,ab,ae⟩
 ·rintro r ⟨ys,rfl,h⟩;exact Ac.intro h
theorem Js{F a b:Nat}{l:Int}{wb wp:Bool}{xs:List PT}(K:2000<F)(O:a≤b)(ae:b≤a+12)(hb:b≤xs.length)(ag:xs.length<900)(U:KO xs):
  Ac (EN F l ((a:Int),(b:Int),wb,wp,xs)) (fun st=>∃ys,st= .done (Sum.inl ys)∧Is xs (insertionSort AI xs.toArray a b) ys):=by
 obtain⟨ys,W,Z,aa,ab⟩:=Ml K hb (by omega) U O;unfold EN;refine Ac.b (S:=fun r=>r=Sum.inl ys) ?_ ?_
 ·refine Ac.AZ ((b - a:Nat):Int) (by dsimp only;omega) (by omega) (by omega) ?_;refine Ac.pos (by omega) ?_;exact Ac.be W (Ac.intro rfl)
 ·rintro r rfl;exact Ac.intro ⟨ys,rfl,Z,aa,ab⟩
theorem OP{F n:Nat}{l:Int}{xs:List PT}(O:2000<F)(ab:n=xs.length)(ae:n≤12)(U:KO xs):
  Ac (f162 F xs 0 (n:Int) l) (Is xs (insertionSort AI xs.toArray 0 n)):=by
 unfold f162;refine Ac.b (S:=fun r=>∃ys,r=Sum.inl ys∧Is xs (insertionSort AI xs.toArray 0 n) ys) ?_ ?_
 ·obtain⟨K,rfl⟩:∃k,F=k+1:=⟨F - 1,by omega⟩;obtain⟨st,W,ys,rfl,Z⟩:=Js (F:=K+1) (a:=0) (b:=n) (l:=l) (wb:=true) (wp:=true) (xs:=xs) O (by omega) (by omega) (by omega) (by omega) U;have aa:EN (K+1) l (0,(n:Int),true,true,xs)=some (.done (Sum.inl ys)):=W;unfold iter;rw [aa];exact⟨_,rfl,ys,rfl,Z⟩
 ·rintro r ⟨ys,rfl,h⟩;exact Ac.intro h
theorem P7{S A:Type}{body:S→Option (AV S A)}{F:Nat}{s s':S}(h:body s=some (.more s')){Q:A→Prop}(k:Ac (iter body F s') Q):Ac (iter body (F+1) s) Q:=by
 unfold iter;rw [h];exact k
theorem PD{S A:Type}{body:S→Option (AV S A)}{F:Nat}{s:S}{Q:A→Prop}(h:Ac (body s) (fun st=>∃a,st= .done a∧Q a)):Ac (iter body (F+1) s) Q:=by
 obtain⟨st,K,a,rfl,O⟩:=h;unfold iter;rw [K];exact⟨a,rfl,O⟩
set_option maxHeartbeats 1000000 in
theorem Q7{F:Nat}{xs:List PT}(bg:3000<F)(aM:xs.length=13)(ar:KO xs):
  Ac (f162 F xs 0 ((13:Nat):Int) 4) (Is xs (pdq AI xs.toArray 0 13 4 true true)):=by
 have aN:xs.toArray.size=13:=by simpa using aM
 obtain⟨s1,B1,bh,s2,bi,au,bj,bk⟩:=rd_facts (lt:=AI) (d:=xs.toArray) (a:=0) (b:=13) (limit:=4) (wb:=true) (wp:=true) Ik partialInsertionSort_holds reverseRange_holds (by omega) (by rw [aN];omega) (.inl rfl);have av:¬(13 - 0≤12):=by omega
 have aF:=Qp (F:=F) (a:=0) (b:=13) (xs:=xs) (by omega) (by omega) (by omega) (by omega) ar;have aO:choosePivot AI xs.toArray 0 13=(rd AI xs.toArray 0 13 4 true true).c:=rfl;rw [aO] at aF;generalize K:rd AI xs.toArray 0 13 4 true true=R at*;have aP:R.lim=4:=by rw [← K];rfl
 have aQ:R.c.2= .decreasing→R.d2=reverseRange xs.toArray 0 13∧R.pivot=(13 - 1) - (R.c.1 - 0)∧R.hint= .increasing:=by
  intro h;rw [← K] at h ⊢;exact rd_dec h
 have aR:R.c.2≠ .decreasing→R.d2=xs.toArray∧R.pivot=R.c.1∧R.hint=R.c.2:=by
  intro h;rw [← K] at h ⊢;exact rd_not h
 have aS:R.hint= .increasing→R.pi=partialInsertionSort AI R.d2 0 13:=by
  intro h;rw [← K] at h ⊢;exact rd_pi_yes (by simp [h])
 have aT:R.hint≠ .increasing→R.pi=(R.d2,false):=by
  intro h;rw [← K] at h ⊢;exact rd_pi_no (by simp [h])
 have aU:Ac (if FV R.c.2=2 then(f182 F xs 0 ((13:Nat):Int)).bind fun aV=>(Av (((13:Nat):Int) - 1)).bind fun aW=>(Av (((R.c.1:Nat):Int) - 0)).bind fun aX=>(Av (aW - aX)).bind fun aY=>some (aY,(1:Int),aV) else some (((R.c.1:Nat):Int),FV R.c.2,xs))
   (fun q=>q.1=((R.pivot:Nat):Int)∧q.2.1=FV R.hint∧Is xs R.d2 q.2.2):=by
  by_cases ak:R.c.2= .decreasing
  ·obtain⟨ag,ah,Z⟩:=aQ ak;refine Ac.pos (by rw [ak];rfl) ?_;refine Ac.b (QG (F:=F) (a:=0) (b:=13) (xs:=xs) (by omega) (by omega) (by omega) (by omega) ar) ?_;rintro ys ⟨k1,U,W⟩;refine Ac.AZ 12 (by omega) (by omega) (by omega) ?_;refine Ac.AZ ((R.c.1:Nat):Int) (by omega) (by omega) (by omega) ?_;refine Ac.AZ ((12 - R.c.1:Nat):Int) (by omega) (by omega) (by omega) ?_;refine Ac.intro ⟨?_,?_,?_,U,W⟩
   ·rw [ah];rfl
   ·rw [Z];rfl
   ·rw [ag];exact k1
  ·obtain⟨ag,ah,Z⟩:=aR ak;refine Ac.neg (by intro h;cases aw:R.c.2 <;> rw [aw] at h ak <;> first | (exact ak rfl) | (cases h)) ?_
   refine Ac.intro ⟨?_,?_,?_,ar,rfl⟩
   ·rw [ah]
   ·rw [Z]
   ·rw [ag]
 unfold f162;refine Ac.b (S:=fun r=>∃ys,r=Sum.inl ys∧Is xs (pdq AI xs.toArray 0 13 4 true true) ys) ?_ (by rintro r ⟨ys,rfl,h⟩;exact Ac.intro h);have aZ:∀(aa:List PT),Is xs R.pi.1 aa→R.pi.2=false→
   Ac ((f185 F aa 0 ((13:Nat):Int) ((R.pivot:Nat):Int)).bind fun O=>(Av (O.1 - 0)).bind fun aG=>(Av (((13:Nat):Int) - O.1)).bind fun aH=>(EY (13:Int) (8)).bind fun aI=>
     Option.bind (
      if aG<aH then(
       (FU F O.2.2 0 O.1 4).bind fun a0=>
       (Av (O.1+1)).bind fun a1=>
       some (a1,((13:Nat):Int),decide (aI≤aG),a0)
      ) else(
       (Av (O.1+1)).bind fun a2=>
       (FU F O.2.2 a2 ((13:Nat):Int) 4).bind fun a3=>
       some ((0:Int),O.1,decide (aI≤aH),a3)
      )
     ) fun ao=>
     some (ao.1,ao.2.1,ao.2.2.1,O.2.1,ao.2.2.2))
    (fun st=>Ac (EN F 4 st) (fun q=>∃a,q= .done a∧∃ys,a=Sum.inl ys∧Is xs (pdq AI xs.toArray 0 13 4 true true) ys)):=by
  intro aa a4 aJ;obtain⟨z1,a5,bl⟩:=a4;have bm:aa.length=13:=by omega
  refine Ac.b (Qy (F:=F) (a:=0) (b:=13) (pv:=R.pivot) (xs:=aa) (by omega) (by omega) au.2 (by omega) (by omega) a5) ?_;rw [z1];have ab:=partition_holds AI Ik R.pi.1 0 13 R.pivot au.1 au.2 (by omega);have al:=fun ay=>pdq_left (lt:=AI) (d:=xs.toArray) (a:=0) (b:=13) (limit:=4) (wb:=true) (wp:=true) av (by omega) (by rw [K];exact aJ) (by simp) (by rw [K];exact⟨ab.1,ab.2.1⟩) ay;have am:=fun ay=>pdq_right (lt:=AI) (d:=xs.toArray) (a:=0) (b:=13) (limit:=4) (wb:=true) (wp:=true) av (by omega) (by rw [K];exact aJ) (by simp) (by rw [K];exact⟨ab.1,ab.2.1⟩) ay;rw [K] at al am;rw [aP] at al am;generalize partition AI R.pi.1 0 13 R.pivot=PA at ab al am ⊢;obtain⟨m,bn,d4⟩:=PA;rintro⟨bo,a6,ae⟩ ⟨k1,U,W,az,a7⟩;simp only at k1 U W az a7 ab al am ⊢;subst k1 U;have hm:m<13:=ab.2.1;have bp:ae.length=13:=by omega
  refine Ac.AZ (m:Int) (by omega) (by omega) (by omega) ?_;refine Ac.AZ ((13 - m:Nat):Int) (by omega) (by omega) (by omega) ?_;refine Ac.be (b:=1) rfl ?_;by_cases aK:m - 0<13 - m
  ·refine Ac.b (S:=fun q=>∃us,q=(((m+1:Nat):Int),((13:Nat):Int),decide ((1:Int)≤(m:Int)),us)∧Is ae (insertionSort AI ae.toArray 0 m) us) ?_ ?_
   ·refine Ac.pos (by omega) ?_;refine Ac.b (Lc (F:=F) (a:=0) (b:=m) (l:=4) (xs:=ae) (by omega) (by omega) (by omega) (by omega) (by omega) az) ?_;intro us aA;refine Ac.AZ ((m+1:Nat):Int) (by simp) (by omega) (by omega) ?_;exact Ac.intro ⟨us,rfl,aA⟩
   ·rintro q ⟨us,rfl,u1,aB,a8⟩;refine Ac.intro ?_;refine(Js (F:=F) (a:=m+1) (b:=13) (l:=4) (xs:=us) (by omega) (by omega) (by omega) (by omega) (by omega) aB).mono ?_;rintro st ⟨ys,rfl,v1,v2,a9⟩;refine⟨_,rfl,ys,rfl,?_,v2,by omega⟩;rw [v1,u1,W,al aK,pdq_small (by omega),pdq_small (by omega)]
  ·refine Ac.b (S:=fun q=>∃us,q=((0:Int),(m:Int),decide ((1:Int)≤((13 - m:Nat):Int)),us)∧Is ae (insertionSort AI ae.toArray (m+1) 13) us) ?_ ?_
   ·refine Ac.neg (by omega) ?_;refine Ac.AZ ((m+1:Nat):Int) (by simp) (by omega) (by omega) ?_;refine Ac.b (Lc (F:=F) (a:=m+1) (b:=13) (l:=4) (xs:=ae) (by omega) (by omega) (by omega) (by omega) (by omega) az) ?_;intro us aA;exact Ac.intro ⟨us,rfl,aA⟩
   ·rintro q ⟨us,rfl,u1,aB,a8⟩;refine Ac.intro ?_;have:=Js (F:=F) (a:=0) (b:=m) (l:=4) (wb:=decide ((1:Int)≤((13 - m:Nat):Int))) (wp:=a6) (xs:=us) (by omega) (by omega) (by omega) (by omega) (by omega) aB;refine Ac.mono this ?_;rintro st ⟨ys,rfl,v1,v2,a9⟩;refine⟨_,rfl,ys,rfl,?_,v2,by omega⟩;rw [v1,u1,W,am aK,pdq_small (by omega),pdq_small (by omega)]
 have ba:Ac (EN F 4 (0,((13:Nat):Int),true,true,xs)) (fun st=>(∃a,st= .done a∧∃ys,a=Sum.inl ys∧Is xs (pdq AI xs.toArray 0 13 4 true true) ys)∨
   ∃s',st= .more s'∧Ac (EN F 4 s') (fun q=>∃a,q= .done a∧∃ys,a=Sum.inl ys∧Is xs (pdq AI xs.toArray 0 13 4 true true) ys)):=by
  unfold EN;refine Ac.b (S:=fun r=>(∃ys,r=Sum.inl ys∧Is xs (pdq AI xs.toArray 0 13 4 true true) ys)∨∃s',r=Sum.inr s'∧Ac (EN F 4 s') (fun q=>∃a,q= .done a∧∃ys,a=Sum.inl ys∧Is xs (pdq AI xs.toArray 0 13 4 true true) ys)) ?_ ?_
  ·refine Ac.AZ 13 (by dsimp only;omega) (by omega) (by omega) ?_;refine Ac.neg (by omega) ?_;refine Ac.neg (by omega) ?_;refine Ac.b (S:=fun _=>True) (Ac.neg (by simp) (Ac.intro trivial)) fun _ _=>?_;refine Ac.be aF ?_;refine Ac.b aU ?_;rintro⟨q1,q2,ai⟩ ⟨ag,ah,Z⟩;simp only at ag ah Z ⊢;subst ag ah;refine Ac.be (b:=true) (by simp) ?_;refine Ac.be (b:=decide (FV R.hint=1)) (by simp) ?_;have bb:Ac (if(decide (FV R.hint=1))=true then(f183 F ai 0 ((13:Nat):Int)).bind fun aC=>if aC.1=true then some (Sum.inl aC.2) else some (Sum.inr aC.2) else some (Sum.inr ai))
     (fun r=>(R.pi.2=true∧∃ys,r=Sum.inl ys∧Is xs R.pi.1 ys)∨(R.pi.2=false∧∃ys,r=Sum.inr ys∧Is xs R.pi.1 ys)):=by
    by_cases hh:R.hint= .increasing
    ·refine Ac.pos (by rw [hh];rfl) ?_;obtain⟨k1,U,W⟩:=Z;obtain⟨aD,ap⟩:=QL (F:=F) (a:=0) (b:=13) (xs:=ai) (by omega) (by omega) (by omega) (by omega) (by omega) U;rw [k1] at aD ap;rw [← aS hh] at aD ap;refine Ac.be aD ?_;refine Ac.ite (fun h=>?_) (fun h=>?_)
     ·exact Ac.intro (.inl ⟨h,ai,rfl,by rw [ap];exact k1,U,W⟩)
     ·exact Ac.intro (.inr ⟨by simpa using h,ai,rfl,by rw [ap];exact k1,U,W⟩)
    ·refine Ac.neg (by intro h;cases aw:R.hint <;> rw [aw] at h hh <;> first | (exact hh rfl) | (simp [FV] at h)) ?_
     rw [aT hh];exact Ac.intro (.inr ⟨rfl,ai,rfl,Z⟩)
   refine Ac.b bb ?_;rintro r (⟨p2,ys,rfl,aE⟩ | ⟨p2,aa,rfl,bc⟩)
   ·refine Ac.intro (.inl ⟨ys,rfl,?_⟩);rw [pdq_done av (by omega) (by rw [K];exact p2),K];exact aE
   ·rw [Sum.elim_inr];refine Ac.b (S:=fun c=>c=false) (Ac.neg (by omega) (Ac.intro rfl)) ?_;rintro c rfl;refine Ac.neg (by simp) ?_;obtain⟨s',aj,an⟩:=aZ aa bc p2;have bq:∀{α β:Type} (o:Option α) (f:α→Option β) (g:β→(List PT)⊕(Int×Int×Bool×Bool×List PT)),True:=fun _ _ _=>trivial;refine Ac.of_eq (a:=Sum.inr s') ?_ (.inr ⟨s',rfl,an⟩);have key:∀(o:Option (Int×Int×Bool×Bool×List PT)),o=some s'→(o.bind fun x=>some (Sum.inr x:List PT⊕(Int×Int×Bool×Bool×List PT)))=some (Sum.inr s'):=fun o bd=>by rw [bd];rfl
    refine Eq.trans ?_ (key _ aj);simp only [Option.bind_assoc,Option.bind_some]
  ·rintro r (⟨ys,rfl,aE⟩ | ⟨s',rfl,bf⟩)
   ·exact Ac.intro (.inl ⟨_,rfl,ys,rfl,aE⟩)
   ·exact Ac.intro (.inr ⟨s',rfl,bf⟩)
 obtain⟨br,aL⟩:∃k,F=k+2:=⟨F - 2,by omega⟩;obtain⟨st,aj,an | an⟩:=ba
 ·obtain⟨a,rfl,aq⟩:=an;rw [aL] at aj ⊢;unfold iter;rw [aj];exact⟨a,rfl,aq⟩
 ·obtain⟨s',rfl,aq⟩:=an;rw [aL] at aj aq ⊢;exact P7 aj (PD aq)
end Pal
namespace Pal
open Go Go.Conc Go.Proofs
open Go.Proofs.Tryz
variable {J:Judge Tryz.prog}{E:LH}
def Mb(fuel:Nat)(p1:Int)(K:Int)(U:Unit):Option (AV (Unit) (Unit)):=
 Option.bind (
  if p1<K then(
   none
  ) else(
   some false
  )
 ) fun O=>
 if O=true then(
  (Av (K - 1)).bind fun W=>
  (Av (K - 1)).bind fun Z=>
  none
 ) else(
  some (.done ())
 )
def L9(fuel:Nat)(p1:Int)(p2:Int)(K:Int):Option (AV (Int) (Unit)):=
 if K<p2 then(
  Option.bind (iter (Mb fuel p1 K) fuel ()) fun U=>
  (Av (K+1)).bind fun O=>
  some (.more O)
 ) else(
  some (.done ())
 )
def Kq(fuel:Nat)(p1:Int)(p2:Int):Option (Unit):=
 (Av (p1+1)).bind fun K=>
 Option.bind (iter (L9 fuel p1 p2) fuel K) fun O=>
 some ()
theorem QK{p1:Int}{p2:Int}{fuel:Nat}{r:Unit}(ai:Kq fuel p1 p2=some r):Au J 178 [.slice none 0 0,iV p1,iV p2,(.func (.func 134) #[] #[])] E [] (fun w E' B'=>w= .tuple #[]∧B'= []):=by
 refine Au.en func178 rfl rfl fun Q a5 cs H aA aB=>?_;unfold Kq at ai;obtain⟨aC,aD,aE⟩:=bs ai;refine JL.go 3 rfl ?_;refine JL.Y rfl (fun ρ h=>Yl.A0 (h _ _ rfl) (h _ _ rfl) aD) ?_;obtain⟨a6,aF,aG⟩:=bs aE;refine JL.go 2 rfl ?_;refine JL.join (fun L s=>∃(aj:LH),Jm E H aj [] [] L s) ?_ ?_
 ·rintro _ _ ⟨aj,rfl,rfl,aH,aI⟩;obtain rfl:=oi aG;refine JL.fin (v:= .tuple #[]) rfl rfl (Bm.list func178 rfl (vs:= []) trivial) ?_;exact aB _ _ _ _ aH rfl ⟨rfl,rfl⟩ aI
 ·intro aJ;refine JL.block ?_;refine JL.wk [(0,.slice none 0 0),(1,iV p1),(2,iV p2),(3,(.func (.func 134) #[] #[])),(8,iV aC)] rfl ?_;refine JL.Bi aF (fun L s K=>∃(O:LH),Jm E H O [] [(0,.slice none 0 0),(1,iV p1),(2,iV p2),(3,(.func (.func 134) #[] #[])),(8,iV K)] L s) ⟨E,rfl,rfl,(Le.refl _),aA⟩ ?_;rintro _ _ K ⟨O,rfl,rfl,ak,al⟩ aK ⟨a7,W⟩ aL;have Z:=W;unfold L9 at Z;refine JL.go 7 rfl ?_;refine JL.ifs (p:=K<p2) rfl (fun aa=>?_) (fun aa=>?_)
  ·have am:=Z;rw [if_pos aa] at am;obtain⟨a8,aM,aN⟩:=bs am;refine JL.go 8 rfl ?_;refine JL.join (fun L s=>∃(ab:LH),Jm O H ab [] [(0,.slice none 0 0),(1,iV p1),(2,iV p2),(3,(.func (.func 134) #[] #[])),(8,iV K)] L s) ?_ ?_
   ·rintro _ _ ⟨ab,rfl,rfl,aO,aP⟩;obtain⟨aQ,aR,aS⟩:=bs aN;refine JL.go 3 rfl ?_;refine JL.Y rfl (fun ρ h=>Yl.A0 (h _ _ rfl) (h _ _ rfl) aR) ?_;refine JL.go 2 rfl ?_;obtain rfl:=oi aS;exact JL.kw (aL _ _ aQ ⟨ab,rfl,rfl,(ak.trans aO),aP⟩ W) rfl
   ·intro aT;refine JL.block ?_;refine JL.wk [(0,.slice none 0 0),(1,iV p1),(2,iV p2),(3,(.func (.func 134) #[] #[])),(8,iV K),(9,iV K)] rfl ?_;refine JL.Bi aM (fun L s aU=>∃(U:LH),Jm O H U [] [(0,.slice none 0 0),(1,iV p1),(2,iV p2),(3,(.func (.func 134) #[] #[])),(8,iV K),(9,iV K)] L s) ⟨O,rfl,rfl,(Le.refl _),al⟩ ?_;rintro _ _ aU ⟨U,rfl,rfl,aV,aW⟩ aX ⟨a9,an⟩ ba;have ao:=an;unfold Mb at ao;refine JL.go 2 rfl ?_;refine JG.Di 17 mixed rfl (by decide+kernel) fun ht=>?_;refine JG.mv 0 ht rfl rfl ?_;refine JG.mv 1 ht rfl rfl ?_;refine JG.mv 2 ht rfl rfl ?_;refine JG.mv 3 ht rfl rfl ?_;obtain⟨ap,aq,ar⟩:=bs ao;refine Aw.join 0 #[true,true,true,true,true,true,true,true,true,true,true,true,true,true,true,true,true] (fun L s=>∃(ae:LH),Jm U H ae [] [(0,.slice none 0 0),(1,iV p1),(2,iV p2),(3,(.func (.func 134) #[] #[])),(8,iV K),(9,iV K),(34,.bool ap)] L s) ?_ ?_
    ·rintro _ _ ⟨ae,rfl,rfl,aY,aZ⟩;refine Aw.fin (by decide+kernel) ?_;refine JL.split (t:=ap) rfl (fun ag=>?_) (fun ag=>?_)
     ·have au:=ar;rw [if_pos ag] at au;refine JL.go 3 rfl ?_;refine JG.Di 16 mixed rfl (by decide+kernel) fun ht=>?_;refine JG.mv 0 ht rfl rfl ?_;refine JG.mv 1 ht rfl rfl ?_;refine JG.mv 2 ht rfl rfl ?_;refine JG.mv 3 ht rfl rfl ?_;obtain⟨bb,a0,a1⟩:=bs au;refine JG.V 4 ht rfl rfl (fun ρ h s' hs=>Yl.A4 (h _ _ rfl) (h _ _ rfl) a0) ?_;refine JG.mv 5 ht rfl rfl ?_;refine JG.mv 6 ht rfl rfl ?_;obtain⟨bc,a2,a3⟩:=bs a1;refine JG.V 7 ht rfl rfl (fun ρ h s' hs=>Yl.A4 (h _ _ rfl) (h _ _ rfl) a2) ?_;cases a3
     ·have av:=ar;rw [if_neg (by rw [ag];exact Bool.false_ne_true)] at av;refine JL.exit rfl ?_;obtain rfl:=oi av;obtain rfl:=aX _ an;exact JL.kw (aT _ _ ⟨ae,rfl,rfl,(aV.trans aY),aZ⟩) rfl
    ·intro a4;refine Aw.B5 (q:=p1<K) (i:=21) rfl (fun ah=>?_) (fun ah=>?_)
     ·have aw:=aq;rw [if_pos ah] at aw;refine JG.mv 4 ht rfl rfl ?_;refine JG.mv 5 ht rfl rfl ?_;refine JG.mv 6 ht rfl rfl ?_;cases aw
     ·have ay:=aq;rw [if_neg ah] at ay;refine JG.mv 4 ht rfl rfl ?_;refine JG.mv 5 ht rfl rfl ?_;refine JG.mv 6 ht rfl rfl ?_;refine JG.mv 7 ht rfl rfl ?_;refine JG.mv 8 ht rfl rfl ?_;refine JG.mv 9 ht rfl rfl ?_;refine JG.mv 10 ht rfl rfl ?_;refine JG.mv 11 ht rfl rfl ?_;refine JG.mv 12 ht rfl rfl ?_;refine JG.mv 13 ht rfl rfl ?_;refine JG.mv 14 ht rfl rfl ?_;refine JG.mv 15 ht rfl rfl ?_;refine JG.mv 16 ht rfl rfl ?_;obtain rfl:=oi ay;refine Aw.B6 ?_ (a4 _ _ ⟨U,rfl,rfl,(Le.refl _),aW⟩);exact⟨rfl,rfl,rfl,rfl,rfl,rfl,rfl,trivial⟩
  ·have az:=Z;rw [if_neg aa] at az;refine JL.exit rfl ?_;obtain rfl:=oi az;obtain rfl:=aK _ W;exact JL.kw (aJ _ _ ⟨O,rfl,rfl,ak,al⟩) rfl
def LY(fuel:Nat)(p1:Int)(p2:Int)(p3:Int)(O:Unit):Option (AV (Unit) ((Unit)⊕(Unit))):=
 (Av (p2 - p1)).bind fun K=>
 if K≤12 then(
  (Kq fuel p1 p2).bind fun U=>
  some (.done (Sum.inl ()))
 ) else(
  if p3=0 then(
   none
  ) else(
   none
  )
 )
def Kj(fuel:Nat)(p1:Int)(p2:Int)(p3:Int):Option (Unit):=
 Option.bind (iter (LY fuel p1 p2 p3) fuel ()) fun K=>
 Sum.elim (fun r=>some r) (fun O=>
 none
 ) K
theorem Qv{p1:Int}{p2:Int}{p3:Int}{fuel:Nat}{r:Unit}(W:Kj fuel p1 p2 p3=some r):Au J 162 [.slice none 0 0,iV p1,iV p2,iV p3,(.func (.func 134) #[] #[])] E [] (fun w E' B'=>w= .tuple #[]∧B'= []):=by
 refine Au.en func162 rfl rfl fun Q aC cs H aj ak=>?_;unfold Kj at W;obtain⟨aD,al,am⟩:=bs W;refine JL.go 8 rfl ?_;refine JL.join (fun L s=>False) ?_ ?_
 ·intro _ _ an;exact an.elim
 ·intro aE;refine JL.block ?_;refine JL.wk [(0,.slice none 0 0),(1,iV p1),(2,iV p2),(3,iV p3),(4,(.func (.func 134) #[] #[])),(10,.bool true),(11,.bool true)] rfl ?_;refine JL.Bi al (fun L s ao=>∃(Z:LH),Jm E H Z [] [(0,.slice none 0 0),(1,iV p1),(2,iV p2),(3,iV p3),(4,(.func (.func 134) #[] #[])),(10,.bool true),(11,.bool true)] L s) ⟨E,rfl,rfl,(Le.refl _),aj⟩ ?_;rintro _ _ ao ⟨Z,rfl,rfl,ap,aq⟩ ar ⟨aF,aa⟩ aG;have ab:=aa;unfold LY at ab;obtain⟨au,av,ae⟩:=bs ab;refine JL.go 5 rfl ?_;refine JL.Y rfl (fun ρ h=>Yl.A4 (h _ _ rfl) (h _ _ rfl) av) ?_;refine JL.go 8 rfl ?_;refine JL.ifs (p:=au≤12) rfl (fun K=>?_) (fun K=>?_)
  ·have ag:=ae;rw [if_pos K] at ag;obtain⟨aH,aw,ay⟩:=bs ag;refine JL.go 6 rfl ?_;refine JS.cl (QK aw) rfl rfl (Ay func178 rfl) aq ?_;rintro _ aI _ az ⟨rfl,rfl⟩ aA;refine JL.done ?_;obtain rfl:=oi ay;obtain rfl:=ar _ aa;have aB:=elim_inl am;obtain rfl:=oi aB;refine JL.rt func162 rfl rfl ?_;exact ak _ _ _ _ (ap.trans az) rfl ⟨rfl,rfl⟩ aA
  ·have O:=ae;rw [if_neg K] at O;refine JL.go 7 rfl ?_;refine JL.ifs (p:=p3=0) rfl (fun U=>?_) (fun U=>?_)
   ·have ah:=O;rw [if_pos U] at ah;refine JL.go 6 rfl ?_;cases ah
   ·have ai:=O;rw [if_neg U] at ai;refine JL.go 5 rfl ?_;refine JL.Y (v:= .bool false) rfl (fun ρ h=>Yl.not (c:=true) (h _ _ rfl)) ?_;refine JL.go 9 rfl ?_;cases ai
def NG(fuel:Nat):Option (Unit):=
 (f163 fuel (BV ((0:Nat):Int))).bind fun K=>
 (Kj fuel 0 ((0:Nat):Int) K).bind fun O=>
 some ()
theorem Q6{fuel:Nat}{r:Unit}(K:NG fuel=some r):Au J 133 [.slice none 0 0,(.func (.func 134) #[] #[])] E [] (fun w E' B'=>w= .tuple #[]∧B'= []):=by
 refine Au.en func133 rfl rfl fun Q aj cs H O U=>?_;unfold NG at K;refine JL.go 3 rfl ?_;refine JL.Y rfl (fun ρ h=>Yl.len rfl underlying130 (h _ _ rfl)) ?_;refine JL.go 6 rfl ?_;refine JL.Y (v:= .int .u64 ((BV ((0:Nat):Int):Nat):Int)) rfl (fun ρ h=>Yl.BV underlying3 underlying156 (h _ _ rfl)) ?_;obtain⟨ak,W,Z⟩:=bs K;refine JS.cl (Nm W) rfl rfl (Ay func163 rfl) O ?_;rintro _ al _ aa ⟨rfl,rfl⟩ ab;obtain⟨am,ae,ag⟩:=bs Z;refine JL.go 1 rfl ?_;refine JS.cl (Qv ae) rfl rfl (Ay func162 rfl) ab ?_;rintro _ an _ ah ⟨rfl,rfl⟩ ai;refine JL.done ?_;obtain rfl:=oi ag;refine JL.fin (v:= .tuple #[]) rfl rfl (Bm.list func133 rfl (vs:= []) trivial) ?_;exact U _ _ _ _ (aa.trans ah) rfl ⟨rfl,rfl⟩ ai
end Pal
namespace Pal
open Go Go.Conc Go.Proofs Go.Sort
theorem Pm:∀(ys K:List PT),K.Perm ys→ys.Pairwise (fun p q=>p.1<q.1)→K.Pairwise (fun p q=>p.1≤q.1)→K=ys:=by
 intro ys
 induction ys with
 | nil=>intro K h _ _;exact h.eq_nil
 | cons y ys aa=>
  intro K h O U;cases K with
  | nil=>exact absurd h.symm.eq_nil (by simp)
  | cons z K=>
   rw [List.pairwise_cons] at O U;have W:z∈y::ys:=h.mem_iff.1 (by simp);have Z:y∈z::K:=h.mem_iff.2 (by simp);have e:z=y:=by
    rcases List.mem_cons.1 W with e | W
    ·exact e
    ·rcases List.mem_cons.1 Z with e | Z
     ·exact e.symm
     ·have:=O.1 z W;have:=U.1 y Z;omega
   subst e;rw [aa K ((List.perm_cons z).1 h) O.2 U.2]
theorem Qi{F:Nat}{xs ys:List PT}(aj:3000<F)(ar:xs.length≤13)(aa:KO xs)(ak:ys.Perm xs)(hs:ys.Pairwise (fun p q=>p.1<q.1)):f133 F xs=some ys:=by
 have fin:∀(d:Array PT) (K:List PT),PermIn 0 xs.toArray.size xs.toArray d→SortedIn AI 0 xs.toArray.size d→K.toArray=d→K=ys:=by
  rintro d K ab al rfl;have ae:K.Perm xs:=by
   have ag:=ab.2.2;have O:=ab.1;simp only [List.size_toArray] at O ag;have am:(K.toArray.extract 0 xs.length).toList=K:=by simp [← O]
   have an:(xs.toArray.extract 0 xs.length).toList=xs:=by simp
   rwa [am,an] at ag
  refine Pm ys K (ae.trans ak.symm) hs ?_;rw [List.pairwise_iff_getElem];intro i j hi ah ao;have h:=al i j (Nat.zero_le _) ao (by simpa using (ae.length_eq▸ah));rw [Ed hi,Ed ah] at h;simpa [AI] using h
 have h:Ac (f133 F xs) (fun K=>K=ys):=by
  unfold f133;rcases Nat.lt_or_ge xs.length 13 with ai | ai
  ·obtain⟨l,O⟩:=QF F xs.length ai;refine Ac.be O ?_;refine Ac.b (OP (F:=F) (n:=xs.length) (l:=l) (by omega) rfl (by omega) aa) ?_;rintro K ⟨k1,ap,aq⟩;obtain⟨W,Z⟩:=insertionSort_holds Ik xs.toArray 0 xs.length (Nat.zero_le _) (by simp);exact Ac.intro (fin _ K (by simpa using W) (by simpa using Z) k1)
  ·have U:xs.length=13:=by omega
   refine Ac.be (b:=4) (by rw [U];exact PQ F) ?_;rw [U];refine Ac.b (Q7 (F:=F) (xs:=xs) aj U aa) ?_;rintro K ⟨k1,ap,aq⟩;obtain⟨W,Z⟩:=pdq_sorts AI Ik xs.toArray 0 13 4 true true (Nat.zero_le _) (by simp [U]) (.inl rfl);have e:xs.toArray.size=13:=by simpa using U
   exact Ac.intro (fin _ K (by rw [e];exact W) (by rw [e];exact Z) k1)
 obtain⟨K,O,rfl⟩:=h;exact O
theorem R0{J:Judge Tryz.prog}{E:LH}{a:Option Addr}{c:Nat}{g:Seg}{xs ys:List PT}(U:xs.length≤13)(W:KO xs)(O:ys.Perm xs)(hs:ys.Pairwise (fun p q=>p.1<q.1))(Z:OL 133 (rP rI (rP rI (rL (rP rI (rP (rL rI) (rN .u16)))))) E a c g xs):
  Au J 133 [.slice a xs.length c,.func (.func 134) #[] #[]] E g (fun w E' B'=>w= .tuple #[]∧OL 133 (rP rI (rP rI (rL (rP rI (rP (rL rI) (rN .u16)))))) E' a c B' ys):=by
 rcases Z.cases with⟨rfl,rfl,rfl,rfl⟩ | ⟨ab,f,rfl,rfl,hW⟩
 ·obtain rfl:ys= []:=O.eq_nil;refine(Q6 (fuel:=10) (r:=()) rfl).mono ?_;rintro w E' B' hle ⟨K,rfl⟩;exact⟨K,OL.nil⟩
 ·refine(Rl hW (fuel:=4000) (Qi (by omega) U W O hs)).mono ?_;rintro w E' B' hle ⟨ae,K,rfl,aa⟩;exact⟨K,aa.1⟩
end Pal
namespace Pal
open Go Go.Conc Go.Proofs
open Go.Proofs.Tryz
open Go.Conc.Lib Go.ConcR.Gen
def BU(qs:Nat→Int×List (Int×(List Int)×Nat)):List (Int×Int×List (Int×(List Int)×Nat)):=((List.range 13).filter (fun j=>decide (0<(qs j).2.length))).map (partOf qs)
theorem Qj
  {E:LH} {k1 ag:Nat} {ar au ah:Option Addr} {av aw ai:Nat} {ay:List Value} {W:(List (List Int))×(List (List Int))×(List Nat)} {lk:List (Int×Int)} (ak:At E k1 ag (([.slice ar (W.1).length av,.slice au (W.2.1).length aw]:List Value)++ay)) (aF:Aq (rL rI) E ar av (W.1)) (aG:Aq (rL rI) E au aw (W.2.1)) (aH:(rA 13 (rN .u16)).r E ay (W.2.2)) (aI:Aq (rP rI rI) E ah ai lk) {fuel:Nat} {qs:Nat→Int×List (Int×(List Int)×Nat)} (aJ:∀j,j<13→Eg fuel W lk ((j:Nat):Int)=some (qs j)):
  Au (Cd Tryz.prog) 102 [.pointer (some ⟨k1,ag,none⟩),.slice ah lk.length ai] E [] (fun w E' B'=>∃a c,w= .slice a (BU qs).length c∧B'= []∧Aq (rP rI (rP rI (rL (rP rI (rP (rL rI) (rN .u16)))))) E' a c (BU qs)):=by
 refine Au.en func102 rfl rfl fun Q bl cs H aK aL=>?_;refine JL.go 2 rfl ?_;refine JS.box (v:= .pointer (some ⟨k1,ag,none⟩)) rfl rfl rfl aK rfl fun az aM=>?_;refine JS.Bf 1 aM rfl fun aN aO aa aP=>?_;replace aa:At aN az 0 [.pointer (some ⟨k1,ag,none⟩)]:=aa;refine JS.box (v:= .slice ah lk.length ai) rfl rfl rfl aP rfl fun aA aQ=>?_;refine JS.Bf 2 aQ rfl fun aR aB al aS=>?_;replace al:At aR aA 0 [.slice ah lk.length ai]:=al;refine JS.split (S':= []) (by simp) aS fun aT=>?_;refine JL.go 4 rfl ?_;refine JS.makeChan rfl rfl rfl underlying162 (Ct type133) aT fun ch aU=>?_;refine JS.alloc rfl rfl rfl aU (AM type162) fun rc aV=>?_;refine JS.store (v:= .chan (some ch)) (off:=0) 1 rfl rfl rfl aV rfl rfl (Ah type162) (by simp [Value.cells,Bx]) rfl (Nat.le_of_ble_eq_true rfl) fun aW=>?_;refine JS.Bf 1 aW rfl fun K am ab aX=>?_;replace ab:At K rc 0 [.chan (some ch)]:=ab;refine JL.go 3 rfl ?_;refine JS.alloc rfl rfl rfl aX (AM type171) fun wg aY=>?_;refine JS.split (S':= [[(ch,.chan 0 #[] false 0 0 false)],[(wg,.cells #[.int .u64 0,.int .u32 0] 171 (0,0))]]) (by simp [Value.cells]) aY fun aj=>?_;refine JL.go 7 rfl ?_;refine JL.GM ?_;refine JL.wk [(2,.pointer (some ⟨az,0,none⟩)),(3,.pointer (some ⟨aA,0,none⟩)),(5,.pointer (some ⟨rc,0,none⟩)),(6,.pointer (some ⟨wg,0,none⟩)),(11,iV ((0:Nat):Int))] rfl ?_;have aZ:=aO.trans aB;have Z:=aZ.trans am;have an:=Nd.iff.1 aj;intro T a0;let F:Fam:=⟨wg,ch,171,13,fun j=>decide (0<(qs j).2.length),fun kk v E=>kk<13∧∃a c,v= .agg #[iV ((kk:Nat):Int),iV (qs kk).1,.slice a (qs kk).2.length c]∧Aq (rP rI (rP (rL rI) (rN .u16))) E a c (qs kk).2,fun g s=>(Cd Tryz.prog).ok Q g s⟩;refine Qw F (Nat.le_of_ble_eq_true rfl) (show 13<2147483647 by omega) ?_ ?_ (Jh (j:=1) aj rfl) (Jh (j:=0) aj rfl) ?_ (fun g s h=>h)
 ·rintro kk v bm bn ao ⟨ae,a,c,a1,ak⟩;exact⟨ae,a,c,a1,ak.mono ao⟩
 ·intro e;have:=an.1;simp at this;exact this e.symm
 have a2:=OJ aj;show Way Tryz.prog true (Stop Tryz.prog F (.Dj 0)) _ (⟨(Ap K H [[(ch,.chan 0 #[] false 0 0 false)],[(wg,.cells #[.int .u64 0,.int .u32 0] 171 (0,0))]]).E,FO (Ap K H [[(ch,.chan 0 #[] false 0 0 false)],[(wg,.cells #[.int .u64 0,.int .u32 0] 171 (0,0))]]).H wg ch,false⟩:St);rw [show(Ap K H [[(ch,.chan 0 #[] false 0 0 false)],[(wg,.cells #[.int .u64 0,.int .u32 0] 171 (0,0))]]).E=K from rfl,a2];have a3:Az K H []:=trivial;refine O2 (F:=F) rfl (ak.mono Z) (aF.mono Z) (aG.mono Z) (Rp.mono _ Z aH) (aI.mono Z) (aa.mono (aB.trans am)) (al.mono am) ab aJ (fun j _=>rfl) (fun j a4 E' a c a5=>⟨a4,a,c,rfl,a5⟩) (fun aC ap bo=>?_) 13 0 rfl (by decide) K (Le.refl _) a3 T a0;refine JL.go 9 rfl ?_;refine JL.Y (v:= .func (.func 131) #[] ([.pointer (some F.sA),.pointer (some ⟨rc,0,none⟩)]:List Value).toArray) rfl (fun ρ h=>Yl.Gh (by simp) (by simp [h (.tmp 6) _ rfl,h (.tmp 5) _ rfl])) ?_;have aD:=Pz (F:=F) (show 13<2147483648 by omega) (ab.mono ap);refine JL.El (fi:= #[]) rfl rfl rfl rfl rfl rfl rfl (by first | exact aD | (simp only [List.append_toArray,List.nil_append,Array.append_empty,Array.empty_append];exact aD)) ?_
 refine JL.go 8 rfl ?_;refine JL.Y (v:= .chan (some ch)) rfl (fun ρ h=>Yl.load (Ao underlying162) (h _ _ rfl) (At.NC (j:=0) (ab.mono ap) rfl)) ?_;refine JL.go 2 rfl ?_;refine JL.GM ?_;refine JL.wk [(8,.slice none 0 0),(18,.chan (some ch))] rfl ?_;have a6:Az aC H [[]]:=trivial;refine OZ (F:=F) (Q:=Q) rfl (fun g s h=>h) (qs:=qs) (fun kk v E' h=>h.2) (fun O bp a c g a7 an aE a8 a9 ba=>?_) 13 [] [] aC none 0 [] rfl List.nodup_nil (by simp) (by decide) (Le.refl _) OL.nil a6;have aq:(BU qs).Perm (O.map (partOf qs)):=by
  unfold BU;refine List.Perm.map _ ?_;refine(List.perm_ext_iff_of_nodup (List.nodup_range.filter _) an).2 fun x=>?_;constructor
  ·intro U;simp at U;exact a8 x U.1 (by simpa [F] using U.2)
  ·intro U;have ae:=aE x U;simp;exact⟨ae.1,by simpa [F] using ae.2⟩
 have bb:(BU qs).Pairwise (fun p q=>p.1<q.1):=by
  unfold BU;rw [List.pairwise_map];refine List.Pairwise.filter _ ?_;refine List.Pairwise.imp ?_ List.pairwise_lt_range;intro a b ao;exact Int.ofNat_lt.2 ao
 have hlen:(O.map (partOf qs)).length≤13:=by
  rw [← aq.length_eq];unfold BU;rw [List.length_map];exact Nat.le_trans (List.length_filter_le _ _) (by simp)
 have bc:KO (O.map (partOf qs)):=by
  intro x U;obtain⟨j,aa,rfl⟩:=List.mem_map.1 U;have ae:=(aE j aa).1;simp only [partOf];omega
 have bd:(O.map (partOf qs)).length=(BU qs).length:=aq.length_eq.symm;refine JL.go 3 rfl ?_;refine JS.Ko (vs:= [.slice a (O.map (partOf qs)).length c,.func (.func 134) #[] #[]]) 0 (R0 hlen bc aq bb a9) rfl rfl rfl (Ay func133 rfl) rfl ba rfl ?_;rintro _ bq g' bf ⟨rfl,bg⟩ bh;refine JL.go 6 rfl ?_;refine JS.BC 0 bg bh rfl fun br bi bj bk=>?_;refine JL.ret (v:= .slice a (O.map (partOf qs)).length c) rfl rfl (Bm.list func102 rfl (vs:= [.slice a (O.map (partOf qs)).length c]) ⟨rfl,trivial⟩) ?_;exact aL _ _ _ [] ((((Z.trans ap).trans a7).trans bf).trans bi) (by simp) ⟨a,c,by rw [bd],rfl,bj⟩ bk
end Pal
namespace Pal
open Go Go.Conc Go.Proofs
open Go.Proofs.Tryz
open Go.Conc.Lib Go.ConcR.Gen
def GU(fuel:Nat)(K:(List (List Int))×(List (List Int))×(List Nat))(lk:List (Int×Int)):Option (List (Int×Int×List (Int×(List Int)×Nat))):=
 if(List.range 13).all (fun j=>(Eg fuel K lk ((j:Nat):Int)).isSome)=true then some (BU fun j=>(Eg fuel K lk ((j:Nat):Int)).getD (0,[])) else none
theorem LU
  {E:LH} {k1 U:Nat} {W Z aa:Option Addr} {ab ae ag:Nat} {ah:List Value} {K:(List (List Int))×(List (List Int))×(List Nat)} {lk:List (Int×Int)} (al:At E k1 U (([.slice W (K.1).length ab,.slice Z (K.2.1).length ae]:List Value)++ah)) (am:Aq (rL rI) E W ab (K.1)) (an:Aq (rL rI) E Z ae (K.2.1)) (ao:(rA 13 (rN .u16)).r E ah (K.2.2)) (ap:Aq (rP rI rI) E aa ag lk) {fuel:Nat} {r:List (Int×Int×List (Int×(List Int)×Nat))} (O:GU fuel K lk=some r):
  Au (Cd Tryz.prog) 102 [.pointer (some ⟨k1,U,none⟩),.slice aa lk.length ag] E [] (fun w E' B'=>∃(ai:Option Addr) (aj:Nat),w= .slice ai r.length aj∧B'= []∧Aq (rP rI (rP rI (rL (rP rI (rP (rL rI) (rN .u16)))))) E' ai aj r):=by
 unfold GU at O;split at O
 ·rename_i ak;cases O;refine(Qj al am an ao ap (fuel:=fuel) (qs:=fun j=>(Eg fuel K lk ((j:Nat):Int)).getD (0,[])) fun j aq=>?_).mono ?_
  ·rw [List.all_eq_true] at ak;obtain⟨q,ar⟩:=Option.isSome_iff_exists.1 (ak j (List.mem_range.2 aq));rw [ar];rfl
  ·rintro w E' B' _ ⟨a,c,au,av,aw⟩;exact⟨a,c,au,av,aw⟩
 ·cases O
end Pal
namespace Pal
open Go Go.Conc Go.Proofs
open Go.Proofs.Tryz
def Hr(fuel:Nat)(O:Int×Int×(List (Int×(List Int)×Nat)))(K:Int×(List (Int×(List Int)×Nat))×Int):Option (AV (Int×(List (Int×(List Int)×Nat))×Int) (Int×(List (Int×(List Int)×Nat)))):=
 if K.2.2<((O.2.2).length:Int) then(
  (ix O.2.2 (K.2.2)).bind fun W=>
  (F0 fuel K.1 K.2.1 W O.2.1).bind fun U=>
  (Av (K.2.2+1)).bind fun Z=>
  some (.more (U.1,U.2,Z))
 ) else(
  some (.done (K.1,K.2.1))
 )
def IN(fuel:Nat)(O:(List (Int×Int×(List (Int×(List Int)×Nat)))))(K:Int×(List (Int×(List Int)×Nat))×Int):Option (AV (Int×(List (Int×(List Int)×Nat))×Int) (Int×(List (Int×(List Int)×Nat)))):=
 if K.2.2<((O).length:Int) then(
  (ix O (K.2.2)).bind fun W=>
  Option.bind (iter (Hr fuel W) fuel (K.1,K.2.1,0)) fun U=>
  (Av (K.2.2+1)).bind fun Z=>
  some (.more (U.1,U.2,Z))
 ) else(
  some (.done (K.1,K.2.1))
 )
def f93(fuel:Nat)(p0:(List (List Int))×(List (List Int))×(List Nat))(p1:List (Int×Int)):Option ((Int×(List (Int×(List Int)×Nat)))):=
 (GU fuel p0 p1).bind fun K=>
 Option.bind (iter (IN fuel K) fuel (0,[],0)) fun O=>
 some O
theorem Jb{E:LH}{k1:Nat}{aY:Nat}{aZ:Option Addr}{a0:Nat}{a1:Option Addr}{a2:Nat}{a3:List Value}{a4:Option Addr}{a5:Nat}{p0:(List (List Int))×(List (List Int))×(List Nat)}{p1:List (Int×Int)}(bo:At E k1 aY (([.slice aZ (p0.1).length a0,.slice a1 (p0.2.1).length a2]:List Value)++a3))(bp:Aq (rL rI) E aZ a0 (p0.1))(bq:Aq (rL rI) E a1 a2 (p0.2.1))(br:(rA 13 (rN .u16)).r E a3 (p0.2.2))(bu:Aq (rP rI rI) E a4 a5 (p1)){fuel:Nat}{r:(Int×(List (Int×(List Int)×Nat)))}(a6:f93 fuel p0 p1=some r):Au (Cd Tryz.prog) 93 [.pointer (some ⟨k1,aY,none⟩),.slice a4 (p1).length a5] E [] (fun w E' B'=>∃(a7:Option Addr) (a8:Nat),w= .agg #[iV r.1,.slice a7 (r.2).length a8]∧B'= []∧Aq (rP rI (rP (rL rI) (rN .u16))) E' a7 a8 (r.2)):=by
 refine Au.en func93 rfl rfl fun Q cC cs H bv bw=>?_;unfold f93 at a6;refine JL.go 2 rfl ?_;refine JS.alloc rfl rfl rfl bv (AM type97) fun O bx=>?_;refine JL.go 3 rfl ?_;refine JS.alloc rfl rfl rfl bx (AM type97) fun U bz=>?_;obtain⟨Z,bA,bB⟩:=bs a6;refine JL.go 6 rfl ?_;refine JS.cl (LU bo bp bq br bu bA) rfl rfl (Ay func102 rfl) bz ?_;rintro _ aH _ bC ⟨ai,aj,rfl,rfl,bD⟩ bE;refine JS.norm (S':= [[],[(O,.cells #[iV 0,.slice none 0 0] 97 (0,0))],[(U,.cells #[iV 0,.slice none 0 0] 97 (0,0))],[]]) rfl bE fun bF=>?_;refine JL.Y rfl (fun ρ h=>Yl.len rfl underlying130 (h _ _ rfl)) ?_;obtain⟨W,bG,bH⟩:=bs bB;refine JL.go 2 rfl ?_;refine JL.join (fun L s=>∃(aI:LH) (ab:Option Addr) (ae:Nat) (aJ:Seg),Jn aH H aI [[(O,.cells #[iV 0,.slice none 0 0] 97 (0,0))],[(U,.cells #[iV W.1,.slice ab (W.2).length ae] 97 (0,0))],aJ] [(4,.pointer (some ⟨O,0,none⟩)),(5,.pointer (some ⟨U,0,none⟩))] L s (OL 104 (rP rI (rP (rL rI) (rN .u16))) aI ab ae aJ (W.2))) ?_ ?_
 ·rintro _ _ ⟨aI,ab,ae,aJ,rfl,rfl,bI,a9,bJ⟩;refine JL.go 2 rfl ?_;refine JL.Y rfl (fun ρ h=>Yl.Bj (vs:= [iV W.1,.slice ab (W.2).length ae]) (Ao underlying97) (Ah type97) (h _ _ rfl) (Dv (off:=0) 1 a9 rfl rfl)) ?_;refine JS.st (v:= .agg #[iV W.1,.slice ab (W.2).length ae]) (off:=0) 0 a9 (Ah type97) rfl rfl rfl rfl fun bK=>?_;refine JL.done ?_;refine JS.BC 2 bJ bK rfl fun cD bL bM bN=>?_;refine JS.drop 1 bN rfl fun ba=>?_;obtain rfl:=oi bH;refine JL.ret (v:= .agg #[iV W.1,.slice ab (W.2).length ae]) rfl rfl (Bm.list func93 rfl (vs:= [.agg #[iV W.1,.slice ab (W.2).length ae]]) ⟨⟨_,rfl,Ld.many (vs:= [iV W.1,.slice ab (W.2).length ae]) (Ao underlying97) (Ah type97) (Dv (off:=0) 0 ba rfl rfl)⟩,trivial⟩) ?_;refine Fj 0 ba rfl fun bO=>?_;exact bw _ _ _ _ ((bC.trans bI).trans bL) rfl ⟨ab,ae,rfl,rfl,bM⟩ bO
 ·intro bP;refine JL.block ?_;refine JL.wk [(4,.pointer (some ⟨O,0,none⟩)),(5,.pointer (some ⟨U,0,none⟩)),(12,.slice ai (Z).length aj),(13,iV ((Z).length:Int)),(14,iV 0)] rfl ?_;refine JL.Bi bG (fun L s ag=>∃(ak:LH) (al:Option Addr) (am:Nat) (an:Seg),Jn aH H ak [[(O,.cells #[iV 0,.slice none 0 0] 97 (0,0))],[(U,.cells #[iV ag.1,.slice al (ag.2.1).length am] 97 (0,0))],an] [(4,.pointer (some ⟨O,0,none⟩)),(5,.pointer (some ⟨U,0,none⟩)),(12,.slice ai (Z).length aj),(13,iV ((Z).length:Int)),(14,iV ag.2.2)] L s (OL 104 (rP rI (rP (rL rI) (rN .u16))) ak al am an (ag.2.1))) ⟨aH,none,0,[],rfl,rfl,(Le.refl _),bF,OL.nil⟩ ?_;rintro _ _ ag ⟨ak,al,am,an,rfl,rfl,aK,bb,bc⟩ bQ ⟨cE,aL⟩ bR;have aM:=aL;unfold IN at aM;refine JL.go 5 rfl ?_;refine JL.ifs (p:=ag.2.2<((Z).length:Int)) rfl (fun aN=>?_) (fun aN=>?_)
  ·have bd:=aM;rw [if_pos aN] at bd;obtain⟨K,bS,bT⟩:=bs bd;refine JL.go 5 rfl ?_;refine JS.BI (bD.mono aK) bS rfl rfl rfl rfl rfl underlying130 (Ah type133) ?_;rintro bU bV _ ⟨_,_,rfl,rfl,⟨_,_,rfl,rfl,⟨ao,ap,rfl,bW⟩⟩⟩ aO;replace aO:At ak bU bV [iV K.1,iV K.2.1,.slice ao (K.2.2).length ap]:=aO;refine JL.Bw aO (Ao underlying133) (Ah type133) rfl rfl ?_;refine JS.alloc rfl rfl rfl bb (AM type133) fun aP bX=>?_;refine JS.st (v:= .agg #[iV K.1,iV K.2.1,.slice ao (K.2.2).length ap]) (off:=0) 3 bX (Ah type133) rfl rfl rfl rfl fun bY=>?_;refine JS.Bf 3 bY rfl fun ay aQ az bZ=>?_;replace az:At ay aP 0 [iV K.1,iV K.2.1,.slice ao (K.2.2).length ap]:=az;refine JL.go 3 rfl ?_;refine JL.fd underlying133 (Ah type97) rfl rfl rfl ?_;refine JL.fd underlying97 (Ah type95) rfl rfl rfl ?_;refine JL.ld 2 az (Ao underlying95) rfl rfl rfl ?_;refine JL.Y rfl (fun ρ h=>Yl.len rfl underlying95 (h _ _ rfl)) ?_;obtain⟨aq,b0,b1⟩:=bs bT;refine JL.go 2 rfl ?_;refine JL.join (fun L s=>∃(aA:LH) (aB:Option Addr) (aC:Nat) (aD:Seg),Jn ay H aA [[(O,.cells #[iV 0,.slice none 0 0] 97 (0,0))],[(U,.cells #[iV aq.1,.slice aB (aq.2).length aC] 97 (0,0))],aD] [(4,.pointer (some ⟨O,0,none⟩)),(5,.pointer (some ⟨U,0,none⟩)),(12,.slice ai (Z).length aj),(13,iV ((Z).length:Int)),(14,iV ag.2.2)] L s (OL 104 (rP rI (rP (rL rI) (rN .u16))) aA aB aC aD (aq.2))) ?_ ?_
   ·rintro _ _ ⟨aA,aB,aC,aD,rfl,rfl,b2,b3,b4⟩;obtain⟨b5,b6,b7⟩:=bs b1;refine JL.go 2 rfl ?_;refine JL.Y rfl (fun ρ h=>Yl.A0 (h _ _ rfl) (h _ _ rfl) b6) ?_;refine JL.go 2 rfl ?_;obtain rfl:=oi b7;exact JL.kw (bR _ _ (aq.1,aq.2,b5) ⟨aA,aB,aC,aD,rfl,rfl,((aK.trans aQ).trans b2),b3,b4⟩ aL) rfl
   ·intro b8;refine JL.block ?_;refine JL.wk [(4,.pointer (some ⟨O,0,none⟩)),(5,.pointer (some ⟨U,0,none⟩)),(7,.pointer (some ⟨aP,0,none⟩)),(12,.slice ai (Z).length aj),(13,iV ((Z).length:Int)),(14,iV ag.2.2),(20,.slice ao (K.2.2).length ap),(21,iV ((K.2.2).length:Int)),(22,iV 0)] rfl ?_;refine JL.Bi b0 (fun L s ah=>∃(ar:LH) (au:Option Addr) (av:Nat) (aw:Seg),Jn ay H ar [[(O,.cells #[iV 0,.slice none 0 0] 97 (0,0))],[(U,.cells #[iV ah.1,.slice au (ah.2.1).length av] 97 (0,0))],aw] [(4,.pointer (some ⟨O,0,none⟩)),(5,.pointer (some ⟨U,0,none⟩)),(7,.pointer (some ⟨aP,0,none⟩)),(12,.slice ai (Z).length aj),(13,iV ((Z).length:Int)),(14,iV ag.2.2),(20,.slice ao (K.2.2).length ap),(21,iV ((K.2.2).length:Int)),(22,iV ah.2.2)] L s (OL 104 (rP rI (rP (rL rI) (rN .u16))) ar au av aw (ah.2.1))) ⟨ay,al,am,an,rfl,rfl,(Le.refl _),bZ,(bc.mono aQ)⟩ ?_;rintro _ _ ah ⟨ar,au,av,aw,rfl,rfl,aE,bf,bg⟩ b9 ⟨cF,aR⟩ ca;have aS:=aR;unfold Hr at aS;refine JL.go 5 rfl ?_;refine JL.ifs (p:=ah.2.2<((K.2.2).length:Int)) rfl (fun aT=>?_) (fun aT=>?_)
    ·have bh:=aS;rw [if_pos aT] at bh;obtain⟨aa,cb,cc⟩:=bs bh;refine JL.go 5 rfl ?_;refine JS.BI (bW.mono (aQ.trans aE)) cb rfl rfl rfl rfl rfl underlying95 (Ah type104) ?_;rintro cd ce _ ⟨_,_,rfl,rfl,⟨_,_,rfl,⟨aU,aV,rfl,cf⟩,rfl⟩⟩ aW;replace aW:At ar cd ce [iV aa.1,.slice aU (aa.2.1).length aV,.int .u16 ((aa.2.2:Nat):Int)]:=aW;refine JL.Bw aW (Ao underlying104) (Ah type104) rfl rfl ?_;refine JS.alloc rfl rfl rfl bf (AM type104) fun bi cg=>?_;refine JS.norm (S':= [[(O,.cells #[iV 0,.slice none 0 0] 97 (0,0))],[(U,.cells #[iV ah.1,.slice au (ah.2.1).length av] 97 (0,0))],aw,[(bi,.cells #[iV 0,.slice none 0 0,.int .u16 ((0:Nat):Int)] 104 (0,0))]]) rfl cg fun ci=>?_;refine JS.st (v:= .agg #[iV aa.1,.slice aU (aa.2.1).length aV,.int .u16 ((aa.2.2:Nat):Int)]) (off:=0) 3 ci (Ah type104) rfl rfl rfl rfl fun ck=>?_;refine JS.Bf 3 ck rfl fun cm aF aX cn=>?_;replace aX:At cm bi 0 [iV aa.1,.slice aU (aa.2.1).length aV,.int .u16 ((aa.2.2:Nat):Int)]:=aX;refine JL.go 2 rfl ?_;refine JL.Bw aX (Ao underlying104) (Ah type104) rfl rfl ?_;refine JL.fd underlying133 (Ah type97) rfl rfl rfl ?_;refine JL.fd underlying97 (Ah type3) rfl rfl rfl ?_;refine JL.ld 1 (az.mono (aE.trans aF)) (Ao underlying3) rfl rfl rfl ?_;obtain⟨aG,co,cp⟩:=bs cc;refine JS.merge 1 2 rfl rfl cn fun cq=>?_;refine JS.Bv 1 (Rh (age:=0) (bg.mono aF) (tr:=aa) (cf.mono aF) co) rfl rfl (Ay func122 rfl) cq rfl ?_;rintro _ cr _ ct ⟨bj,bk,bl,rfl,rfl,cu⟩ cv;refine JS.part 1 rfl cv fun cw=>?_;refine JS.norm (S':= [[(O,.cells #[iV 0,.slice none 0 0] 97 (0,0))],[(U,.cells #[iV aG.1,.slice bj (aG.2).length bk] 97 (0,0))],[],[],bl]) rfl cw fun cy=>?_;obtain⟨cz,cA,cB⟩:=bs cp;refine JL.go 3 rfl ?_;refine JL.Y rfl (fun ρ h=>Yl.A0 (h _ _ rfl) (h _ _ rfl) cA) ?_;refine JL.go 2 rfl ?_;obtain rfl:=oi cB;exact JL.kw (ca _ _ (aG.1,aG.2,cz) ⟨cr,bj,bk,bl,rfl,rfl,((aE.trans aF).trans ct),cy,cu⟩ aR) rfl
    ·have bm:=aS;rw [if_neg aT] at bm;refine JL.exit rfl ?_;obtain rfl:=oi bm;obtain rfl:=b9 _ aR;exact JL.kw (b8 _ _ ⟨ar,au,av,aw,rfl,rfl,aE,bf,bg⟩) rfl
  ·have bn:=aM;rw [if_neg aN] at bn;refine JL.exit rfl ?_;obtain rfl:=oi bn;obtain rfl:=bQ _ aL;exact JL.kw (bP _ _ ⟨ak,al,am,an,rfl,rfl,aK,bb,bc⟩) rfl
def f78(fuel:Nat)(p0:(List (List Int))×(List (List Int)))(p1:List (Int×Int))(p2:Int)(p3:Bool):Option ((Option ((List (List Int))×(List (List Int))×(List Nat)))×(Int×(List (Int×(List Int)×Nat)))×Int):=
 (f69 fuel p0 p1).bind fun O=>
 if O≠0 then(
  some (none,(0,[]),O)
 ) else(
  (Av (((p1).length:Int) - 1)).bind fun W=>
  (f101 fuel p2 (-1) W).bind fun Z=>
  if Z=true then(
   some (none,(0,[]),3)
  ) else(
   (f92 fuel p0).bind fun aa=>
   (aa).bind fun U=>
   (f93 fuel U p1).bind fun K=>
   Option.bind (
    if((K.2).length:Int)=0 then(
     some (!p3)
    ) else(
     some false
    )
   ) fun ab=>
   if ab=true then(
    some (none,K,11)
   ) else(
    some (some U,K,0)
   )
  )
 )
theorem GX{E:LH}{am:Option Addr}{c2:Nat}{an:Option Addr}{ao:Nat}{aF:Option Addr}{aG:Nat}{p0:(List (List Int))×(List (List Int))}{p1:List (Int×Int)}{p2:Int}{p3:Bool}(aH:Aq (rL rI) E am c2 (p0.1))(aI:Aq (rL rI) E an ao (p0.2))(aJ:Aq (rP rI rI) E aF aG (p1)){fuel:Nat}{r:(Option ((List (List Int))×(List (List Int))×(List Nat)))×(Int×(List (Int×(List Int)×Nat)))×Int}(aK:f78 fuel p0 p1 p2 p3=some r):Au (Cd Tryz.prog) 78 [.agg #[.slice am (p0.1).length c2,.slice an (p0.2).length ao],.slice aF (p1).length aG,iV p2,.bool p3] E [] (fun w E' B'=>∃(aL:Value) (aM:Option Addr) (aN:Nat),w= .tuple #[aL,.agg #[iV r.2.1.1,.slice aM (r.2.1.2).length aN],iV r.2.2]∧B'= []∧G8 (rP (rL (rL rI)) (rP (rL (rL rI)) (rA 13 (rN .u16)))) E' aL (r.1)∧Aq (rP rI (rP (rL rI) (rN .u16))) E' aM aN (r.2.1.2)):=by
 refine Au.en func78 rfl rfl fun Q bS cs H bk ap=>?_;unfold f78 at aK;refine JL.go 2 rfl ?_;refine JS.box (v:= .agg #[.slice am (p0.1).length c2,.slice an (p0.2).length ao]) rfl rfl rfl bk rfl fun bl bm=>?_;refine JS.Bf 1 bm rfl fun bn W aq bo=>?_;replace aq:At bn bl 0 [.slice am (p0.1).length c2,.slice an (p0.2).length ao]:=aq;refine JL.go 1 rfl ?_;refine JS.alloc rfl rfl rfl bo (AM type97) fun ag bp=>?_;refine JL.go 5 rfl ?_;refine JL.Bw aq (Ao underlying24) (Ah type24) rfl rfl ?_;obtain⟨av,bq,aO⟩:=bs aK;refine JL.go 1 rfl ?_;refine JS.cl (Hy (aH.mono W) (aI.mono W) (aJ.mono W) bq) rfl rfl (Ay func69 rfl) bp ?_;rintro _ bT _ aa ⟨rfl,rfl⟩ br;refine JS.norm (S':= [[],[],[(ag,.cells #[iV 0,.slice none 0 0] 97 (0,0))],[]]) rfl br fun aP=>?_;refine JL.go 7 rfl ?_;refine JL.ifs (p:=av≠0) rfl (fun aw=>?_) (fun aw=>?_)
 ·have aQ:=aO;rw [if_pos aw] at aQ;refine JL.go 2 rfl ?_;refine JL.Y (v:= .agg #[iV 0,.slice none 0 0]) rfl (fun ρ h=>Yl.BW [(0,1),(1,1)] h (AM type97) underlying97 ⟨rfl,Ah type3,rfl,Ah type95,trivial⟩ rfl rfl) ?_;refine JL.go 2 rfl ?_;refine JS.st (v:= .agg #[iV 0,.slice none 0 0]) (off:=0) 2 aP (Ah type97) rfl rfl rfl rfl fun aR=>?_;refine JL.go 2 rfl ?_;obtain rfl:=oi aQ;refine JL.ret (v:= .tuple #[.pointer none,.agg #[iV 0,.slice none 0 0],iV av]) rfl rfl (Bm.list func78 rfl (vs:= [.pointer none,.agg #[iV 0,.slice none 0 0],iV av]) ⟨rfl,⟨_,rfl,Ld.many (vs:= [iV 0,.slice none 0 0]) (Ao underlying97) (Ah type97) (Dv (off:=0) 2 aR rfl rfl)⟩,rfl,trivial⟩) ?_;refine Fj 2 aR rfl fun bu=>?_;exact ap _ _ _ _ (W.trans aa) rfl ⟨.pointer none,none,0,rfl,rfl,rfl,Aq.nil⟩ bu
 ·have aS:=aO;rw [if_neg aw] at aS;refine JL.go 6 rfl ?_;refine JL.Y rfl (fun ρ h=>Yl.len rfl underlying25 (h _ _ rfl)) ?_;obtain⟨bU,bv,bw⟩:=bs aS;refine JL.Y rfl (fun ρ h=>Yl.A4 (h _ _ rfl) (h _ _ rfl) bv) ?_;obtain⟨bx,bz,aT⟩:=bs bw;refine JS.cl (Gf bz) rfl rfl (Ay func101 rfl) aP ?_;rintro _ bV _ ae ⟨rfl,rfl⟩ aU;refine JL.done ?_;refine JL.split (t:=bx) rfl (fun ay=>?_) (fun ay=>?_)
  ·have aV:=aT;rw [if_pos ay] at aV;refine JL.go 2 rfl ?_;refine JL.Y (v:= .agg #[iV 0,.slice none 0 0]) rfl (fun ρ h=>Yl.BW [(0,1),(1,1)] h (AM type97) underlying97 ⟨rfl,Ah type3,rfl,Ah type95,trivial⟩ rfl rfl) ?_;refine JL.go 1 rfl ?_;refine JS.st (v:= .agg #[iV 0,.slice none 0 0]) (off:=0) 2 aU (Ah type97) rfl rfl rfl rfl fun aW=>?_;refine JL.go 2 rfl ?_;obtain rfl:=oi aV;refine JL.ret (v:= .tuple #[.pointer none,.agg #[iV 0,.slice none 0 0],iV 3]) rfl rfl (Bm.list func78 rfl (vs:= [.pointer none,.agg #[iV 0,.slice none 0 0],iV 3]) ⟨rfl,⟨_,rfl,Ld.many (vs:= [iV 0,.slice none 0 0]) (Ao underlying97) (Ah type97) (Dv (off:=0) 2 aW rfl rfl)⟩,rfl,trivial⟩) ?_;refine Fj 2 aW rfl fun bA=>?_;exact ap _ _ _ _ ((W.trans aa).trans ae) rfl ⟨.pointer none,none,0,rfl,rfl,rfl,Aq.nil⟩ bA
  ·have aX:=aT;rw [if_neg (by rw [ay];exact Bool.false_ne_true)] at aX;refine JL.go 3 rfl ?_;refine JL.Bw (aq.mono (aa.trans ae)) (Ao underlying24) (Ah type24) rfl rfl ?_;obtain⟨bW,bB,bC⟩:=bs aX;refine JS.cl (I0 (aH.mono ((W.trans aa).trans ae)) (aI.mono ((W.trans aa).trans ae)) bB) rfl rfl (Ay func92 rfl) aU ?_;rintro bX bD _ az ⟨_,rfl,rfl,bE⟩ bF;obtain⟨ai,bG,bH⟩:=bs bC;have aY:=bE;refine JL.go 6 rfl ?_;rw [bG] at aY;obtain⟨aj,ak,_,rfl,ar,⟨_,_,rfl,⟨aZ,a0,rfl,a1⟩,⟨_,aA,rfl,⟨aB,aC,rfl,a2⟩,a3⟩⟩⟩:=aY;replace ar:At bD aj ak (([.slice aZ (ai.1).length a0,.slice aB (ai.2.1).length aC]:List Value)++aA):=ar;obtain⟨K,bI,bJ⟩:=bs bH;refine JS.cl (Jb ar a1 a2 a3 (aJ.mono (((W.trans aa).trans ae).trans az)) bI) rfl rfl (Ay func93 rfl) bF ?_;rintro _ bY _ ah ⟨O,U,rfl,rfl,a4⟩ bK;refine JS.norm (S':= [[],[],[(ag,.cells #[iV 0,.slice none 0 0] 97 (0,0))],[],[],[],[]]) rfl bK fun bL=>?_;refine JS.alloc rfl rfl rfl bL (AM type97) fun a5 bM=>?_;refine JS.st (v:= .agg #[iV K.1,.slice O (K.2).length U]) (off:=0) 7 bM (Ah type97) rfl rfl rfl rfl fun bN=>?_;refine JS.Bf 7 bN rfl fun au ab al a6=>?_;replace al:At au a5 0 [iV K.1,.slice O (K.2).length U]:=al;refine JL.go 4 rfl ?_;refine JL.fd underlying97 (Ah type95) rfl rfl rfl ?_;refine JL.ld 1 al (Ao underlying95) rfl rfl rfl ?_;refine JL.Y rfl (fun ρ h=>Yl.len rfl underlying95 (h _ _ rfl)) ?_;obtain⟨a7,a8,a9⟩:=bs bJ;refine JL.go 2 rfl ?_;refine JL.BA [] (fun L s=>∃(ba:LH),Jm au H ba [[(ag,.cells #[iV 0,.slice none 0 0] 97 (0,0))]] [(9,.pointer (some ⟨ag,0,none⟩)),(12,.pointer (some ⟨aj,ak,none⟩)),(13,.pointer (some ⟨a5,0,none⟩)),(39,.bool a7)] L s) ?_ ?_
   ·rintro _ _ ⟨ba,rfl,rfl,Z,bb⟩;refine JL.done ?_;refine JL.split (t:=a7) rfl (fun aD=>?_) (fun aD=>?_)
    ·have bc:=a9;rw [if_pos aD] at bc;refine JL.seq ?_;refine JG.Di 2 mixed rfl (by decide+kernel) fun ht=>?_;refine JG.Bw 0 ht (al.mono Z) (Ao underlying97) (Ah type97) rfl rfl rfl ?_;refine JG.mv 1 ht rfl rfl ?_;refine Aw.leaf (tail:= [2,3]) (by decide+kernel) (fun t=>A3 (by decide+kernel) (A3 (by decide+kernel) BL) t) ?_;refine JS.st (v:= .agg #[iV K.1,.slice O (K.2).length U]) (off:=0) 0 bb (Ah type97) rfl rfl rfl rfl fun bO=>?_;refine JS.norm (S':= [[(ag,.cells #[iV K.1,.slice O (K.2).length U] 97 (0,0))]]) rfl bO fun bd=>?_;refine JL.go 2 rfl ?_;obtain rfl:=oi bc;refine JL.ret (v:= .tuple #[.pointer none,.agg #[iV K.1,.slice O (K.2).length U],iV 11]) rfl rfl (Bm.list func78 rfl (vs:= [.pointer none,.agg #[iV K.1,.slice O (K.2).length U],iV 11]) ⟨rfl,⟨_,rfl,Ld.many (vs:= [iV K.1,.slice O (K.2).length U]) (Ao underlying97) (Ah type97) (Dv (off:=0) 0 bd rfl rfl)⟩,rfl,trivial⟩) ?_;refine Fj 0 bd rfl fun bP=>?_;exact ap _ _ _ _ ((((((W.trans aa).trans ae).trans az).trans ah).trans ab).trans Z) rfl ⟨.pointer none,O,U,rfl,rfl,rfl,(a4.mono (ab.trans Z))⟩ bP
    ·have bf:=a9;rw [if_neg (by rw [aD];exact Bool.false_ne_true)] at bf;refine JL.go 2 rfl ?_;refine JG.Di 3 mixed rfl (by decide+kernel) fun ht=>?_;refine JG.mv 0 ht rfl rfl ?_;refine JG.Bw 1 ht (al.mono Z) (Ao underlying97) (Ah type97) rfl rfl rfl ?_;refine JG.mv 2 ht rfl rfl ?_;refine Aw.leaf (tail:= [3,4]) (by decide+kernel) (fun t=>A3 (by decide+kernel) (A3 (by decide+kernel) BL) t) ?_;refine JS.st (v:= .agg #[iV K.1,.slice O (K.2).length U]) (off:=0) 0 bb (Ah type97) rfl rfl rfl rfl fun bQ=>?_;refine JS.norm (S':= [[(ag,.cells #[iV K.1,.slice O (K.2).length U] 97 (0,0))]]) rfl bQ fun bg=>?_;refine JL.go 2 rfl ?_;obtain rfl:=oi bf;refine JL.ret (v:= .tuple #[.pointer (some ⟨aj,ak,none⟩),.agg #[iV K.1,.slice O (K.2).length U],iV 0]) rfl rfl (Bm.list func78 rfl (vs:= [.pointer (some ⟨aj,ak,none⟩),.agg #[iV K.1,.slice O (K.2).length U],iV 0]) ⟨rfl,⟨_,rfl,Ld.many (vs:= [iV K.1,.slice O (K.2).length U]) (Ao underlying97) (Ah type97) (Dv (off:=0) 0 bg rfl rfl)⟩,rfl,trivial⟩) ?_;refine Fj 0 bg rfl fun bR=>?_;exact ap _ _ _ _ ((((((W.trans aa).trans ae).trans az).trans ah).trans ab).trans Z) rfl ⟨.pointer (some ⟨aj,ak,none⟩),O,U,rfl,rfl,⟨_,_,_,rfl,(ar.mono ((ah.trans ab).trans Z)),⟨[.slice aZ (ai.1).length a0],(([.slice aB (ai.2.1).length aC]:List Value)++aA),rfl,⟨_,_,rfl,(a1.mono ((ah.trans ab).trans Z))⟩,⟨[.slice aB (ai.2.1).length aC],aA,rfl,⟨_,_,rfl,(a2.mono ((ah.trans ab).trans Z))⟩,(Rp.mono _ ((ah.trans ab).trans Z) a3)⟩⟩⟩,(a4.mono (ab.trans Z))⟩ bR
   ·intro bh;refine JL.B5 (q:=((K.2).length:Int)=0) (i:=36) rfl (fun aE=>?_) (fun aE=>?_)
    ·have bi:=a8;rw [if_pos aE] at bi;refine JL.go 1 rfl ?_;refine JL.Y (v:= .bool (!p3)) rfl (fun ρ h=>Yl.not (h _ _ rfl)) ?_;refine JL.go 1 rfl ?_;obtain rfl:=oi bi;exact JL.kw (bh _ _ ⟨au,rfl,rfl,(Le.refl _),a6⟩) rfl
    ·have bj:=a8;rw [if_neg aE] at bj;refine JL.go 3 rfl ?_;obtain rfl:=oi bj;exact JL.kw (bh _ _ ⟨au,rfl,rfl,(Le.refl _),a6⟩) rfl
def f47(fuel:Nat)(p0:(List (List Int))×(List (List Int)))(p1:List (Int×Int)):Option (Int×Int):=
 (f78 fuel p0 p1 (-1) false).bind fun K=>
 some (K.2.1.1,K.2.2)
theorem SN{E:LH}{K:Option Addr}{c2:Nat}{O:Option Addr}{U:Nat}{ae:Option Addr}{ag:Nat}{p0:(List (List Int))×(List (List Int))}{p1:List (Int×Int)}(al:Aq (rL rI) E K c2 (p0.1))(am:Aq (rL rI) E O U (p0.2))(an:Aq (rP rI rI) E ae ag (p1)){fuel:Nat}{r:Int×Int}(ah:f47 fuel p0 p1=some r):Au (Cd Tryz.prog) 47 [.agg #[.slice K (p0.1).length c2,.slice O (p0.2).length U],.slice ae (p1).length ag] E [] (fun w E' B'=>w= .tuple #[iV r.1,iV r.2]∧B'= []):=by
 refine Au.en func47 rfl rfl fun Q aH cs H ao ap=>?_;unfold f47 at ah;refine JL.go 2 rfl ?_;refine JS.box (v:= .agg #[.slice K (p0.1).length c2,.slice O (p0.2).length U]) rfl rfl rfl ao rfl fun aq ar=>?_;refine JS.Bf 1 ar rfl fun au W aa av=>?_;replace aa:At au aq 0 [.slice K (p0.1).length c2,.slice O (p0.2).length U]:=aa;refine JL.go 5 rfl ?_;refine JL.Bw aa (Ao underlying24) (Ah type24) rfl rfl ?_;obtain⟨Z,aw,ay⟩:=bs ah;refine JL.go 1 rfl ?_;refine JS.cl (GX (al.mono W) (am.mono W) (an.mono W) aw) rfl rfl (Ay func78 rfl) av ?_;rintro _ aI _ az ⟨aJ,ai,aj,rfl,rfl,aK,aL⟩ aA;refine JL.go 4 rfl ?_;refine JS.alloc rfl rfl rfl aA (AM type97) fun ak aB=>?_;refine JS.norm (S':= [[],[],[],[(ak,.cells #[iV 0,.slice none 0 0] 97 (0,0))]]) rfl aB fun aC=>?_;refine JL.go 1 rfl ?_;refine JS.st (v:= .agg #[iV Z.2.1.1,.slice ai (Z.2.1.2).length aj]) (off:=0) 3 aC (Ah type97) rfl rfl rfl rfl fun aD=>?_;refine JS.Bf 3 aD rfl fun aE aF ab aG=>?_;replace ab:At aE ak 0 [iV Z.2.1.1,.slice ai (Z.2.1.2).length aj]:=ab;refine JL.go 4 rfl ?_;refine JL.fd underlying97 (Ah type3) rfl rfl rfl ?_;refine JL.ld 0 ab (Ao underlying3) rfl rfl rfl ?_;refine JL.go 4 rfl ?_;obtain rfl:=oi ay;refine JL.rt func47 rfl rfl ?_;exact ap _ _ _ _ ((W.trans az).trans aF) rfl ⟨rfl,rfl⟩ aG
def f61(fuel:Nat)(p0:(List (List Int))×(List (List Int)))(p1:List (Int×Int)):Option ((Int×Int)×Int):=
 (f78 fuel p0 p1 (-1) false).bind fun K=>
 if K.2.2≠0 then(
  some ((0,0),K.2.2)
 ) else(
  (f87 fuel K.2.1.2).bind fun U=>
  (f89 fuel U).bind fun O=>
  (ix O (0)).bind fun W=>
  (Av (((O).length:Int) - 1)).bind fun Z=>
  (ix O (Z)).bind fun aa=>
  some ((W,aa),0)
 )
theorem SQ{E:LH}{Z:Option Addr}{c2:Nat}{aa:Option Addr}{ab:Nat}{am:Option Addr}{an:Nat}{p0:(List (List Int))×(List (List Int))}{p1:List (Int×Int)}(aE:Aq (rL rI) E Z c2 (p0.1))(aF:Aq (rL rI) E aa ab (p0.2))(aG:Aq (rP rI rI) E am an (p1)){fuel:Nat}{r:(Int×Int)×Int}(ao:f61 fuel p0 p1=some r):Au (Cd Tryz.prog) 61 [.agg #[.slice Z (p0.1).length c2,.slice aa (p0.2).length ab],.slice am (p1).length an] E [] (fun w E' B'=>w= .tuple #[.agg #[iV r.1.1,iV r.1.2],iV r.2]∧B'= []):=by
 refine Au.en func61 rfl rfl fun Q bi cs H aH ap=>?_;unfold f61 at ao;refine JL.go 2 rfl ?_;refine JS.box (v:= .agg #[.slice Z (p0.1).length c2,.slice aa (p0.2).length ab]) rfl rfl rfl aH rfl fun aI aJ=>?_;refine JS.Bf 1 aJ rfl fun aK W ae aL=>?_;replace ae:At aK aI 0 [.slice Z (p0.1).length c2,.slice aa (p0.2).length ab]:=ae;refine JS.alloc rfl rfl rfl aL (AM type81) fun ag aM=>?_;refine JL.go 4 rfl ?_;refine JL.Bw ae (Ao underlying24) (Ah type24) rfl rfl ?_;obtain⟨K,aN,aq⟩:=bs ao;refine JL.go 1 rfl ?_;refine JS.cl (GX (aE.mono W) (aF.mono W) (aG.mono W) aN) rfl rfl (Ay func78 rfl) aM ?_;rintro _ bj _ ar ⟨bk,au,av,rfl,rfl,bl,aO⟩ aP;refine JS.norm (S':= [[],[],[(ag,.cells #[iV 0,iV 0] 81 (0,0))],[]]) rfl aP fun aQ=>?_;refine JL.go 4 rfl ?_;refine JS.alloc rfl rfl rfl aQ (AM type97) fun aR aS=>?_;refine JL.go 1 rfl ?_;refine JS.st (v:= .agg #[iV K.2.1.1,.slice au (K.2.1.2).length av]) (off:=0) 4 aS (Ah type97) rfl rfl rfl rfl fun aT=>?_;refine JS.Bf 4 aT rfl fun aU ah ai aw=>?_;replace ai:At aU aR 0 [iV K.2.1.1,.slice au (K.2.1.2).length av]:=ai;refine JL.go 8 rfl ?_;refine JL.ifs (p:=K.2.2≠0) rfl (fun aj=>?_) (fun aj=>?_)
 ·have ay:=aq;rw [if_pos aj] at ay;refine JL.go 2 rfl ?_;refine JL.Y (v:= .agg #[iV 0,iV 0]) rfl (fun ρ h=>Yl.BW [(0,1),(1,1)] h (AM type81) underlying81 ⟨rfl,Ah type3,rfl,Ah type3,trivial⟩ rfl rfl) ?_;refine JL.go 1 rfl ?_;refine JS.st (v:= .agg #[iV 0,iV 0]) (off:=0) 2 aw (Ah type81) rfl rfl rfl rfl fun aV=>?_;refine JS.norm (S':= [[],[],[(ag,.cells #[iV 0,iV 0] 81 (0,0))],[],[]]) rfl aV fun az=>?_;refine JL.go 2 rfl ?_;obtain rfl:=oi ay;refine JL.ret (v:= .tuple #[.agg #[iV 0,iV 0],iV K.2.2]) rfl rfl (Bm.list func61 rfl (vs:= [.agg #[iV 0,iV 0],iV K.2.2]) ⟨⟨_,rfl,Ld.many (vs:= [iV 0,iV 0]) (Ao underlying81) (Ah type81) (Dv (off:=0) 2 az rfl rfl)⟩,rfl,trivial⟩) ?_;refine Fj 2 az rfl fun aW=>?_;exact ap _ _ _ _ ((W.trans ar).trans ah) rfl ⟨rfl,rfl⟩ aW
 ·have aA:=aq;rw [if_neg aj] at aA;refine JL.go 3 rfl ?_;refine JL.fd underlying97 (Ah type95) rfl rfl rfl ?_;refine JL.ld 1 ai (Ao underlying95) rfl rfl rfl ?_;obtain⟨bm,aX,aY⟩:=bs aA;refine JS.cl (NQ (aO.mono ah) aX) rfl rfl (Ay func87 rfl) aw ?_;rintro _ bn _ aZ ⟨rfl,rfl⟩ a0;refine JS.norm (S':= [[],[],[(ag,.cells #[iV 0,iV 0] 81 (0,0))],[],[],[]]) rfl a0 fun a1=>?_;obtain⟨bo,a2,a3⟩:=bs aY;refine JS.cl (FZ a2) rfl rfl (Ay func89 rfl) a1 ?_;rintro _ aB _ a4 ⟨bp,bq,rfl,rfl,aC⟩ a5;refine JL.go 3 rfl ?_;refine JG.Di 9 mixed rfl (by decide+kernel) fun ht=>?_;refine JG.mv 0 ht rfl rfl ?_;obtain⟨O,a6,a7⟩:=bs a3;refine JG.idx 1 aC a6 rfl ht (by decide+kernel) rfl rfl rfl rfl rfl underlying28 (Ah type3) ?_;rintro a8 a9 _ rfl ak;replace ak:At aB a8 a9 [iV O]:=ak;refine JG.ld 2 ht 0 ak (Ao underlying3) rfl rfl rfl rfl ?_;refine JG.mv 3 ht rfl rfl ?_;refine JG.mv 4 ht rfl rfl ?_;refine JG.V 5 ht rfl rfl (fun ρ h s' hs=>Yl.len rfl underlying28 (h _ _ rfl)) ?_;obtain⟨br,ba,bb⟩:=bs a7;refine JG.V 6 ht rfl rfl (fun ρ h s' hs=>Yl.A4 (h _ _ rfl) (h _ _ rfl) ba) ?_;obtain⟨U,bc,bd⟩:=bs bb;refine JG.idx 7 aC bc rfl ht (by decide+kernel) rfl rfl rfl rfl rfl underlying28 (Ah type3) ?_;rintro bf bg _ rfl al;replace al:At aB bf bg [iV U]:=al;refine JG.ld 8 ht 0 al (Ao underlying3) rfl rfl rfl rfl ?_;refine Aw.leaf (tail:= [9,10,11]) (by decide+kernel) (fun t=>A3 (by decide+kernel) (A3 (by decide+kernel) (A3 (by decide+kernel) BL)) t) ?_;refine JL.Y (v:= .agg #[iV O,iV U]) rfl (fun ρ h=>Yl.BW [(0,1),(1,1)] h (AM type81) underlying81 ⟨rfl,Ah type3,rfl,Ah type3,trivial⟩ rfl rfl) ?_;refine JS.st (v:= .agg #[iV O,iV U]) (off:=0) 2 a5 (Ah type81) rfl rfl rfl rfl fun aD=>?_;refine JL.go 2 rfl ?_;obtain rfl:=oi bd;refine JL.ret (v:= .tuple #[.agg #[iV O,iV U],iV 0]) rfl rfl (Bm.list func61 rfl (vs:= [.agg #[iV O,iV U],iV 0]) ⟨⟨_,rfl,Ld.many (vs:= [iV O,iV U]) (Ao underlying81) (Ah type81) (Dv (off:=0) 2 aD rfl rfl)⟩,rfl,trivial⟩) ?_;refine Fj 2 aD rfl fun bh=>?_;exact ap _ _ _ _ ((((W.trans ar).trans ah).trans aZ).trans a4) rfl ⟨rfl,rfl⟩ bh
def f28(fuel:Nat)(p0:(List (List Int))×(List (List Int)))(p1:List (Int×Int)):Option (Int×Int):=
 (f78 fuel p0 p1 (-1) true).bind fun K=>
 some (((K.2.1.2).length:Int),K.2.2)
theorem SK{E:LH}{K:Option Addr}{c2:Nat}{O:Option Addr}{U:Nat}{ae:Option Addr}{ag:Nat}{p0:(List (List Int))×(List (List Int))}{p1:List (Int×Int)}(al:Aq (rL rI) E K c2 (p0.1))(am:Aq (rL rI) E O U (p0.2))(an:Aq (rP rI rI) E ae ag (p1)){fuel:Nat}{r:Int×Int}(ah:f28 fuel p0 p1=some r):Au (Cd Tryz.prog) 28 [.agg #[.slice K (p0.1).length c2,.slice O (p0.2).length U],.slice ae (p1).length ag] E [] (fun w E' B'=>w= .tuple #[iV r.1,iV r.2]∧B'= []):=by
 refine Au.en func28 rfl rfl fun Q aH cs H ao ap=>?_;unfold f28 at ah;refine JL.go 2 rfl ?_;refine JS.box (v:= .agg #[.slice K (p0.1).length c2,.slice O (p0.2).length U]) rfl rfl rfl ao rfl fun aq ar=>?_;refine JS.Bf 1 ar rfl fun au W aa av=>?_;replace aa:At au aq 0 [.slice K (p0.1).length c2,.slice O (p0.2).length U]:=aa;refine JL.go 5 rfl ?_;refine JL.Bw aa (Ao underlying24) (Ah type24) rfl rfl ?_;obtain⟨Z,aw,ay⟩:=bs ah;refine JL.go 1 rfl ?_;refine JS.cl (GX (al.mono W) (am.mono W) (an.mono W) aw) rfl rfl (Ay func78 rfl) av ?_;rintro _ aI _ az ⟨aJ,ai,aj,rfl,rfl,aK,aL⟩ aA;refine JL.go 4 rfl ?_;refine JS.alloc rfl rfl rfl aA (AM type97) fun ak aB=>?_;refine JS.norm (S':= [[],[],[],[(ak,.cells #[iV 0,.slice none 0 0] 97 (0,0))]]) rfl aB fun aC=>?_;refine JL.go 1 rfl ?_;refine JS.st (v:= .agg #[iV Z.2.1.1,.slice ai (Z.2.1.2).length aj]) (off:=0) 3 aC (Ah type97) rfl rfl rfl rfl fun aD=>?_;refine JS.Bf 3 aD rfl fun aE aF ab aG=>?_;replace ab:At aE ak 0 [iV Z.2.1.1,.slice ai (Z.2.1.2).length aj]:=ab;refine JL.go 4 rfl ?_;refine JL.fd underlying97 (Ah type95) rfl rfl rfl ?_;refine JL.ld 1 ab (Ao underlying95) rfl rfl rfl ?_;refine JL.Y rfl (fun ρ h=>Yl.len rfl underlying95 (h _ _ rfl)) ?_;refine JL.go 4 rfl ?_;obtain rfl:=oi ay;refine JL.rt func28 rfl rfl ?_;exact ap _ _ _ _ ((W.trans az).trans aF) rfl ⟨rfl,rfl⟩ aG
def f30(fuel:Nat)(p0:(List (List Int))×(List (List Int)))(p1:List (Int×Int)):Option (Int×(List Int)×Int):=
 (f78 fuel p0 p1 (-1) false).bind fun K=>
 if K.2.2≠0 then(
  some (0,[],K.2.2)
 ) else(
  (ix K.2.1.2 (0)).bind fun O=>
  (ix K.2.1.2 (0)).bind fun U=>
  some (O.1,U.2.1,0)
 )
theorem SA{E:LH}{U:Option Addr}{c2:Nat}{W:Option Addr}{Z:Nat}{am:Option Addr}{an:Nat}{p0:(List (List Int))×(List (List Int))}{p1:List (Int×Int)}(aG:Aq (rL rI) E U c2 (p0.1))(aH:Aq (rL rI) E W Z (p0.2))(aI:Aq (rP rI rI) E am an (p1)){fuel:Nat}{r:Int×(List Int)×Int}(ao:f30 fuel p0 p1=some r):Au (Cd Tryz.prog) 30 [.agg #[.slice U (p0.1).length c2,.slice W (p0.2).length Z],.slice am (p1).length an] E [] (fun w E' B'=>∃(ap:Option Addr) (aq:Nat),w= .tuple #[iV r.1,.slice ap (r.2.1).length aq,iV r.2.2]∧B'= []∧Aq rI E' ap aq (r.2.1)):=by
 refine Au.en func30 rfl rfl fun Q a4 cs H aJ ar=>?_;unfold f30 at ao;refine JL.go 2 rfl ?_;refine JS.box (v:= .agg #[.slice U (p0.1).length c2,.slice W (p0.2).length Z]) rfl rfl rfl aJ rfl fun aK aL=>?_;refine JS.Bf 1 aL rfl fun aM K ae aN=>?_;replace ae:At aM aK 0 [.slice U (p0.1).length c2,.slice W (p0.2).length Z]:=ae;refine JL.go 6 rfl ?_;refine JL.Bw ae (Ao underlying24) (Ah type24) rfl rfl ?_;obtain⟨O,aO,au⟩:=bs ao;refine JL.go 1 rfl ?_;refine JS.cl (GX (aG.mono K) (aH.mono K) (aI.mono K) aO) rfl rfl (Ay func78 rfl) aN ?_;rintro _ a5 _ av ⟨a6,aw,ay,rfl,rfl,a7,az⟩ aP;refine JL.go 4 rfl ?_;refine JS.alloc rfl rfl rfl aP (AM type97) fun aA aQ=>?_;refine JS.norm (S':= [[],[],[],[(aA,.cells #[iV 0,.slice none 0 0] 97 (0,0))]]) rfl aQ fun aR=>?_;refine JL.go 1 rfl ?_;refine JS.st (v:= .agg #[iV O.2.1.1,.slice aw (O.2.1.2).length ay]) (off:=0) 3 aR (Ah type97) rfl rfl rfl rfl fun aS=>?_;refine JS.Bf 3 aS rfl fun ag aa ab aB=>?_;replace ab:At ag aA 0 [iV O.2.1.1,.slice aw (O.2.1.2).length ay]:=ab;refine JL.go 8 rfl ?_;refine JL.ifs (p:=O.2.2≠0) rfl (fun ah=>?_) (fun ah=>?_)
 ·have aC:=au;rw [if_pos ah] at aC;refine JL.go 7 rfl ?_;obtain rfl:=oi aC;refine JL.rt func30 rfl rfl ?_;exact ar _ _ _ _ ((K.trans av).trans aa) rfl ⟨none,0,rfl,rfl,Aq.nil⟩ aB
 ·have aD:=au;rw [if_neg ah] at aD;refine JL.go 2 rfl ?_;refine JG.Di 11 mixed rfl (by decide+kernel) fun ht=>?_;refine JG.fd 0 ht underlying97 (Ah type95) rfl rfl rfl rfl ?_;refine JG.ld 1 ht 1 ab (Ao underlying95) rfl rfl rfl rfl ?_;obtain⟨ai,aT,aU⟩:=bs aD;refine JG.idx 2 (az.mono aa) aT rfl ht (by decide+kernel) rfl rfl rfl rfl rfl underlying95 (Ah type104) ?_;rintro aV aW _ ⟨_,_,rfl,rfl,⟨_,_,rfl,⟨aX,aY,rfl,a8⟩,rfl⟩⟩ aj;replace aj:At ag aV aW [iV ai.1,.slice aX (ai.2.1).length aY,.int .u16 ((ai.2.2:Nat):Int)]:=aj;refine JG.fd 3 ht underlying104 (Ah type3) rfl rfl rfl rfl ?_;refine JG.ld 4 ht 0 aj (Ao underlying3) rfl rfl rfl rfl ?_;refine JG.fd 5 ht underlying97 (Ah type95) rfl rfl rfl rfl ?_;refine JG.ld 6 ht 1 ab (Ao underlying95) rfl rfl rfl rfl ?_;obtain⟨ak,aZ,a0⟩:=bs aU;refine JG.idx 7 (az.mono aa) aZ rfl ht (by decide+kernel) rfl rfl rfl rfl rfl underlying95 (Ah type104) ?_;rintro a1 a2 _ ⟨_,_,rfl,rfl,⟨_,_,rfl,⟨aE,aF,rfl,a3⟩,rfl⟩⟩ al;replace al:At ag a1 a2 [iV ak.1,.slice aE (ak.2.1).length aF,.int .u16 ((ak.2.2:Nat):Int)]:=al;refine JG.fd 8 ht underlying104 (Ah type28) rfl rfl rfl rfl ?_;refine JG.ld 9 ht 1 al (Ao underlying28) rfl rfl rfl rfl ?_;refine JG.mv 10 ht rfl rfl ?_;refine Aw.leaf (tail:= [11,12]) (by decide+kernel) (fun t=>A3 (by decide+kernel) (A3 (by decide+kernel) BL) t) ?_;refine JL.go 3 rfl ?_;obtain rfl:=oi a0;refine JL.rt func30 rfl rfl ?_;exact ar _ _ _ _ ((K.trans av).trans aa) rfl ⟨aE,aF,rfl,rfl,a3⟩ aB
def IF(fuel:Nat)(p2:Int)(O:(List (Int×Int×(List (Int×(List Int)×Nat)))))(K:(List Int)×Int):Option (AV ((List Int)×Int) ((List Int))):=
 if K.2<((O).length:Int) then(
  (ix O (K.2)).bind fun U=>
  Option.bind (
   if U.2.1≤p2 then(
    (room K.1 U.1).bind fun W=>
    some W
   ) else(
    some K.1
   )
  ) fun Z=>
  (Av (K.2+1)).bind fun aa=>
  some (.more (Z,aa))
 ) else(
  some (.done K.1)
 )
def f43(fuel:Nat)(p0:(List (List Int))×(List (List Int)))(p1:List (Int×Int))(p2:Int):Option ((List Int)×Int):=
 (f69 fuel p0 p1).bind fun K=>
 if K≠0 then(
  some ([],K)
 ) else(
  (f101 fuel p2 0 4).bind fun U=>
  if U=true then(
   some ([],1)
  ) else(
   (f92 fuel p0).bind fun W=>
   (W).bind fun Z=>
   (GU fuel Z p1).bind fun aa=>
   Option.bind (iter (IF fuel p2 aa) fuel ([],0)) fun O=>
   if((O).length:Int)=0 then(
    some ([],11)
   ) else(
    some (O,0)
   )
  )
 )
theorem NL{E:LH}{ai:Option Addr}{c2:Nat}{aj:Option Addr}{ak:Nat}{aU:Option Addr}{aV:Nat}{p0:(List (List Int))×(List (List Int))}{p1:List (Int×Int)}{p2:Int}(aW:Aq (rL rI) E ai c2 (p0.1))(aX:Aq (rL rI) E aj ak (p0.2))(aY:Aq (rP rI rI) E aU aV (p1)){fuel:Nat}{r:(List Int)×Int}(aZ:f43 fuel p0 p1 p2=some r):Au (Cd Tryz.prog) 43 [.agg #[.slice ai (p0.1).length c2,.slice aj (p0.2).length ak],.slice aU (p1).length aV,iV p2] E [] (fun w E' B'=>∃(a0:Option Addr) (a1:Nat),w= .tuple #[.slice a0 (r.1).length a1,iV r.2]∧B'= []∧Aq rI E' a0 a1 (r.1)):=by
 refine Au.en func43 rfl rfl fun Q cA cs H bu al=>?_;unfold f43 at aZ;refine JL.go 2 rfl ?_;refine JS.box (v:= .agg #[.slice ai (p0.1).length c2,.slice aj (p0.2).length ak]) rfl rfl rfl bu rfl fun bv bw=>?_;refine JS.Bf 1 bw rfl fun bx O am bz=>?_;replace am:At bx bv 0 [.slice ai (p0.1).length c2,.slice aj (p0.2).length ak]:=am;refine JL.go 6 rfl ?_;refine JL.Bw am (Ao underlying24) (Ah type24) rfl rfl ?_;obtain⟨bA,bB,a2⟩:=bs aZ;refine JL.go 1 rfl ?_;refine JS.cl (Hy (aW.mono O) (aX.mono O) (aY.mono O) bB) rfl rfl (Ay func69 rfl) bz ?_;rintro _ cB _ U ⟨rfl,rfl⟩ a3;refine JL.go 7 rfl ?_;refine JL.ifs (p:=bA≠0) rfl (fun ay=>?_) (fun ay=>?_)
 ·have a4:=a2;rw [if_pos ay] at a4;refine JL.go 6 rfl ?_;obtain rfl:=oi a4;refine JL.rt func43 rfl rfl ?_;exact al _ _ _ _ (O.trans U) rfl ⟨none,0,rfl,rfl,Aq.nil⟩ a3
 ·have a5:=a2;rw [if_neg ay] at a5;obtain⟨bC,bD,a6⟩:=bs a5;refine JL.go 5 rfl ?_;refine JS.cl (Gf bD) rfl rfl (Ay func101 rfl) a3 ?_;rintro _ cC _ W ⟨rfl,rfl⟩ bE;refine JS.norm (S':= [[],[],[],[]]) rfl bE fun a7=>?_;refine JL.done ?_;refine JL.split (t:=bC) rfl (fun az=>?_) (fun az=>?_)
  ·have a8:=a6;rw [if_pos az] at a8;refine JL.go 5 rfl ?_;obtain rfl:=oi a8;refine JL.rt func43 rfl rfl ?_;exact al _ _ _ _ ((O.trans U).trans W) rfl ⟨none,0,rfl,rfl,Aq.nil⟩ a7
  ·have a9:=a6;rw [if_neg (by rw [az];exact Bool.false_ne_true)] at a9;refine JL.go 8 rfl ?_;refine JL.Bw (am.mono (U.trans W)) (Ao underlying24) (Ah type24) rfl rfl ?_;obtain⟨cD,bF,bG⟩:=bs a9;refine JS.cl (I0 (aW.mono ((O.trans U).trans W)) (aX.mono ((O.trans U).trans W)) bF) rfl rfl (Ay func92 rfl) a7 ?_;rintro cE bH _ aA ⟨_,rfl,rfl,bI⟩ bJ;obtain⟨ba,bK,bL⟩:=bs bG;have bb:=bI;refine JL.go 1 rfl ?_;rw [bK] at bb;obtain⟨bM,bN,_,rfl,aB,⟨_,_,rfl,⟨bO,bP,rfl,bQ⟩,⟨_,bR,rfl,⟨bS,bT,rfl,bU⟩,bV⟩⟩⟩:=bb;replace aB:At bH bM bN (([.slice bO (ba.1).length bP,.slice bS (ba.2.1).length bT]:List Value)++bR):=aB;obtain⟨Z,bW,bX⟩:=bs bL;refine JS.cl (LU aB bQ bU bV (aY.mono (((O.trans U).trans W).trans aA)) bW) rfl rfl (Ay func102 rfl) bJ ?_;rintro _ aC _ bc ⟨aD,aE,rfl,rfl,bY⟩ bZ;refine JL.Y rfl (fun ρ h=>Yl.len rfl underlying130 (h _ _ rfl)) ?_;obtain⟨aF,b0,bd⟩:=bs bX;refine JL.go 2 rfl ?_;refine JL.join (fun L s=>∃(aG:LH) (an:Option Addr) (ao:Nat) (aH:Seg),Jn aC H aG [aH] [(9,.slice an (aF).length ao)] L s (OL 3 rI aG an ao aH (aF))) ?_ ?_
   ·rintro _ _ ⟨aG,an,ao,aH,rfl,rfl,bf,bg,b1⟩;refine JL.go 4 rfl ?_;refine JL.Y rfl (fun ρ h=>Yl.len rfl underlying28 (h _ _ rfl)) ?_;refine JL.go 2 rfl ?_;refine JL.ifs (p:=((aF).length:Int)=0) rfl (fun aI=>?_) (fun aI=>?_)
    ·have bh:=bd;rw [if_pos aI] at bh;refine JL.go 5 rfl ?_;refine JS.drop 0 bg rfl fun b2=>?_;obtain rfl:=oi bh;refine JL.rt func43 rfl rfl ?_;exact al _ _ _ _ (((((O.trans U).trans W).trans aA).trans bc).trans bf) rfl ⟨none,0,rfl,rfl,Aq.nil⟩ b2
    ·have bi:=bd;rw [if_neg aI] at bi;refine JL.go 7 rfl ?_;refine JS.BC 0 b1 bg rfl fun cF b3 b4 b5=>?_;refine JS.norm (S':= [[]]) rfl b5 fun b6=>?_;obtain rfl:=oi bi;refine JL.rt func43 rfl rfl ?_;exact al _ _ _ _ ((((((O.trans U).trans W).trans aA).trans bc).trans bf).trans b3) rfl ⟨an,ao,rfl,rfl,b4⟩ b6
   ·intro b7;refine JL.block ?_;refine JL.wk [(2,iV p2),(9,.slice none 0 0),(23,.slice aD (Z).length aE),(24,iV ((Z).length:Int)),(25,iV 0)] rfl ?_;refine JL.Bi b0 (fun L s aa=>∃(ah:LH) (ab:Option Addr) (ae:Nat) (ag:Seg),Jn aC H ah [ag] [(2,iV p2),(9,.slice ab (aa.1).length ae),(23,.slice aD (Z).length aE),(24,iV ((Z).length:Int)),(25,iV aa.2)] L s (OL 3 rI ah ab ae ag (aa.1))) ⟨aC,none,0,[],rfl,rfl,(Le.refl _),bZ,OL.nil⟩ ?_;rintro _ _ aa ⟨ah,ab,ae,ag,rfl,rfl,aJ,bj,aK⟩ b8 ⟨cG,aL⟩ b9;have aM:=aL;unfold IF at aM;refine JL.go 5 rfl ?_;refine JL.ifs (p:=aa.2<((Z).length:Int)) rfl (fun aN=>?_) (fun aN=>?_)
    ·have bk:=aM;rw [if_pos aN] at bk;obtain⟨K,ca,cb⟩:=bs bk;refine JL.go 5 rfl ?_;refine JS.BI (bY.mono aJ) ca rfl rfl rfl rfl rfl underlying130 (Ah type133) ?_;rintro cc cd _ ⟨_,_,rfl,rfl,⟨_,_,rfl,rfl,⟨aO,aP,rfl,cH⟩⟩⟩ aQ;replace aQ:At ah cc cd [iV K.1,iV K.2.1,.slice aO (K.2.2).length aP]:=aQ;refine JL.Bw aQ (Ao underlying133) (Ah type133) rfl rfl ?_;refine JS.alloc rfl rfl rfl bj (AM type133) fun bl ce=>?_;refine JS.norm (S':= [ag,[(bl,.cells #[iV 0,iV 0,.slice none 0 0] 133 (0,0))]]) rfl ce fun cf=>?_;refine JS.st (v:= .agg #[iV K.1,iV K.2.1,.slice aO (K.2.2).length aP]) (off:=0) 1 cf (Ah type133) rfl rfl rfl rfl fun cg=>?_;refine JS.Bf 1 cg rfl fun ap aR aq bm=>?_;replace aq:At ap bl 0 [iV K.1,iV K.2.1,.slice aO (K.2.2).length aP]:=aq;refine JL.go 3 rfl ?_;refine JL.fd underlying133 (Ah type97) rfl rfl rfl ?_;refine JL.fd underlying97 (Ah type3) rfl rfl rfl ?_;refine JL.ld 1 aq (Ao underlying3) rfl rfl rfl ?_;obtain⟨aS,bn,ci⟩:=bs cb;refine JL.go 3 rfl ?_;refine JL.join (fun L s=>∃(ar:LH) (au:Option Addr) (av:Nat) (aw:Seg),Jn ap H ar [aw] [(2,iV p2),(9,.slice au (aS).length av),(23,.slice aD (Z).length aE),(24,iV ((Z).length:Int)),(25,iV aa.2)] L s (OL 3 rI ar au av aw (aS))) ?_ ?_
     ·rintro _ _ ⟨ar,au,av,aw,rfl,rfl,ck,cm,cn⟩;obtain⟨co,cp,cq⟩:=bs ci;refine JL.go 2 rfl ?_;refine JL.Y rfl (fun ρ h=>Yl.A0 (h _ _ rfl) (h _ _ rfl) cp) ?_;refine JL.go 2 rfl ?_;obtain rfl:=oi cq;exact JL.kw (b9 _ _ (aS,co) ⟨ar,au,av,aw,rfl,rfl,((aJ.trans aR).trans ck),cm,cn⟩ aL) rfl
     ·intro bo;refine JL.ifs (p:=K.2.1≤p2) rfl (fun aT=>?_) (fun aT=>?_)
      ·have bp:=bn;rw [if_pos aT] at bp;refine JL.go 2 rfl ?_;refine JL.fd underlying133 (Ah type3) rfl rfl rfl ?_;refine JL.ld 0 aq (Ao underlying3) rfl rfl rfl ?_;obtain⟨cI,cr,ct⟩:=bs bp;refine JS.app (pp:=rI) (v:=iV K.1) (a:=ab) (c:=ae) 0 cr rfl rfl rfl rfl (fun _=>rfl) rfl (fun _=>rfl) rfl rfl rfl underlying28 underlying28 underlying28 (Ah type3) (Ct type3) (AM type3) rfl (by decide) (by decide) (by decide) (by decide) (aK.mono aR) rfl bm rfl fun cJ cu cv cw cy cz=>?_;refine JL.go 2 rfl ?_;obtain rfl:=oi ct;exact JL.kw (bo _ _ ⟨ap,cu,cv,cw,rfl,rfl,(Le.refl _),cz,cy⟩) rfl
      ·have bq:=bn;rw [if_neg aT] at bq;refine JL.skip ?_;obtain rfl:=oi bq;exact JL.kw (bo _ _ ⟨ap,ab,ae,ag,rfl,rfl,(Le.refl _),bm,(aK.mono aR)⟩) rfl
    ·have br:=aM;rw [if_neg aN] at br;refine JL.exit rfl ?_;obtain rfl:=oi br;obtain rfl:=b8 _ aL;exact JL.kw (b7 _ _ ⟨ah,ab,ae,ag,rfl,rfl,aJ,bj,aK⟩) rfl
end Pal
namespace Pal
open Go Go.Conc Go.Proofs
open Go.Proofs.Tryz
variable {J:Judge Tryz.prog}{E:LH}
def I1(fuel:Nat)(p0:List (Int×Int)):Option ((List (Int×Int))):=
 (Cv ([]:List (Int×Int)) p0).bind fun K=>
 some K
theorem Qq{ad:Addr}{c2:Nat}{p0:List (Int×Int)}(W:Aq (rP rI rI) E (some ad) c2 p0){fuel:Nat}{r:(List (Int×Int))}(K:I1 fuel p0=some r):Au J 123 [.slice (some ad) (p0).length c2] E [] (fun w E' B'=>∃(O:Option Addr) (U:Nat) (g0:Seg),w= .slice O (r).length U∧B'=g0∧OL 27 (rP rI rI) E' O U g0 (r)):=by
 refine Au.en func123 rfl rfl fun Q an cs H Z aa=>?_;unfold I1 at K;refine JL.go 8 rfl ?_;refine JL.Y (v:= .bool false) rfl (fun ρ h=>Yl.IJ (a:=(some ad)) underlying25 (h _ _ rfl) (h _ _ rfl)) ?_;refine JL.go 5 rfl ?_;refine JS.HF (pp:=(rP rI rI)) rfl rfl rfl underlying25 (Ah type27) Z fun ao ap ab ae=>?_;obtain⟨aq,ag,ah⟩:=bs K;refine JL.go 1 rfl ?_;refine JS.NZ (pp:=(rP rI rI)) 1 ag rfl rfl rfl rfl rfl rfl rfl underlying25 underlying25 (Ah type27) (Ct type27) (AM type27) rfl (by decide) (by decide) ab W ae rfl fun ai aj ak al am=>?_;refine JL.go 2 rfl ?_;obtain rfl:=oi ah;refine JL.rt func123 rfl rfl ?_;exact aa _ _ _ _ (Le.refl _) rfl ⟨ai,aj,ak,rfl,(by first | rfl | simp | (simp [Value.cells])),al⟩ am
def NS(fuel:Nat)(p0:List (Int×Int)):Option ((List (Int×Int))):=
 some ([])
theorem QS{c2:Nat}{p0:List (Int×Int)}(aa:Aq (rP rI rI) E none c2 p0){fuel:Nat}{r:(List (Int×Int))}(K:NS fuel p0=some r):Au J 123 [.slice none (p0).length c2] E [] (fun w E' B'=>∃(O:Option Addr) (U:Nat) (g0:Seg),w= .slice O (r).length U∧B'=g0∧OL 27 (rP rI rI) E' O U g0 (r)):=by
 refine Au.en func123 rfl rfl fun Q ab cs H W Z=>?_;unfold NS at K;refine JL.go 8 rfl ?_;refine JL.Y (v:= .bool true) rfl (fun ρ h=>Yl.IJ (a:=none) underlying25 (h _ _ rfl) (h _ _ rfl)) ?_;refine JL.go 6 rfl ?_;obtain rfl:=oi K;refine JL.rt func123 rfl rfl ?_;exact Z _ _ _ _ (Le.refl _) rfl ⟨none,0,[],rfl,rfl,OL.nil⟩ W
def f123(fuel:Nat)(p0:List (Int×Int)):Option (List (Int×Int)):=I1 fuel p0
theorem R8{O:Option Addr}{c2:Nat}{p0:List (Int×Int)}(U:Aq (rP rI rI) E O c2 p0){fuel:Nat}{r:List (Int×Int)}(K:f123 fuel p0=some r):Au J 123 [.slice O p0.length c2] E [] (fun w E' B'=>∃(W:Option Addr) (Z:Nat) (g0:Seg),w= .slice W r.length Z∧B'=g0∧OL 27 (rP rI rI) E' W Z g0 r):=by
 cases O with
 | some ad=>exact Qq U K
 | none=>
  have aa:p0= []:=by
   rcases U.2 with h | ⟨_,_,h,_⟩
   ·exact h.1
   ·cases h
  subst aa;have ab:r= []:=by
   have ae:I1 fuel []=some []:=rfl;unfold f123 at K;rw [ae] at K;exact(Option.some.inj K).symm
  subst ab;exact QS (fuel:=fuel) U rfl
end Pal
