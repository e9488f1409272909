/- DebtRights: a part (5 of 9) of the proof of its row. -/
import Derived.Test.YticmfbehkooleaaGreatDoorRia
import Derived.Test.YticmfbehkooleaaGreatDoorRib
import Derived.Test.YticmfbehkooleaaGreatDoorRic
import Derived.Test.YticmfbehkooleaaGreatDoorRid
import Derived.Handed
import Derived.LaidLaws
import Derived.LaidHandle
import Derived.Test.YticmfbehkooleaaGreatDoorRows
import Derived.Test.YticmfbehkooleaaGreatDoorChecked
import Derived.Conc.LeavingOf
import Derived.Conc.HoldsTime
import Derived.Carry
import Derived.ChangeSame
import Derived.ChangeVars
import Derived.ChangeSlices
import Derived.JoinedOf
import Derived.RowKit
import Derived.Deep.Strs
import Derived.Stop.Joined
set_option linter.all false
set_option maxRecDepth 100000
namespace Pal
open Go Go.Conc Go.Conc.Lib Go.Proofs Go.ConcR.Gen
variable{F:Fam}{Q:GP}{b:Frame}{i n:Nat}{L:Env}{ds:Ld_}{k:Li_}{cs:Lf_}{s:St}{ops:Ao_}{rest:List Nat}{d:Option Tmp}{x:Operand}{ty:TypeId}{af:Ae_}{g:On_}
theorem JL.uA{J:Judge Tryz.prog}{p:String}(K:FF b n L ops i=some ⟨d,.fieldAddr 120 x 0,ty,p,af,g⟩)(O:ev L x=some (.pointer (some F.uA)))(h:JL J Q b n (AE L d (.pointer (some F.uA))) ds (.inRegion ops rest::k) cs s):JL J Q b n L ds (.inRegion ops (i::rest)::k) cs s:=Ao K (λρ h=>Ep (a:=F.uA) 0 0 Tryz.underlying120 (A5 Tryz.type21) V V V (h _ _ O)) h
variable{P:Program}
theorem gT{J:Judge P}{c:Code}(h:∀K,K=k->JL J Q b n L ds (.code c::K) cs s):JL J Q b n L ds (.code c::k) cs s:=h _ V
theorem Xd{J:Judge P}(h:∀K,K=k->JL J Q b n L ds K cs s):JL J Q b n L ds k cs s:=h _ V
theorem I2:(Tryz.prog.funcs[139]?).any (·.norace)=true:=by rw[Tryz.func139];rfl
theorem iL:(Tryz.prog.funcs[108]?).any (·.norace)=true:=by rw[Tryz.func108];rfl
theorem ju:(Tryz.prog.funcs[141]?).any (·.norace)=true:=by rw[Tryz.func141];rfl
theorem Sl:(Tryz.prog.funcs[155]?).any (·.norace)=true:=by rw[Tryz.func155];rfl
theorem Rr:(Tryz.prog.info? 120).map (λi=>decide (i.size=0))=some false:=(qS (Option.map (λi=>decide (i.size=0))) Tryz.type120).trans V
abbrev HD:=Bool×Bool×Nat×M4×Int
def W0(a:HD):Prop:=(a.2.1=true->a.2.2.2.1.k=true)/\a.2.2.1<=4/\DU a.2.2.2.1
def Sk(a:HD):LP:=.CN a.1 a.2.1 a.2.2.1 a.2.2.2.1
variable{aw sv:Bool}{it q:Nat}{old:M4}
theorem dL(h:old.l=false/\old.s=false):(mN sv aw old,q,#[Fam.CC F.uA,Fam.Fb F.uA],some LP.len)∈F.Ci (.CN sv aw it old) old q:=by
 obtain⟨l,k,s,w⟩:=old;obtain⟨K,O⟩:=h;simp only at K O;subst K O;simp[Fam.Ci,Fam.Gn,mN]
theorem Ud(h:¬(old.l=false/\old.s=false))(x:LP)(K:x=.I4 sv∨x=.C9 sv):(mN sv aw old,q,#[Fam.CC F.uA,Fam.Fb F.uA],some x)∈F.Ci (.CN sv aw it old) old q:=by
 obtain⟨l,k,s,w⟩:=old;show _∈F.Gn _ _ _ _ _ _;unfold Fam.Gn;rw[ik];right;rw[d0 rfl,d7 h];cases l<;>cases s<;>simp[mN] at h ⊢<;>rcases K with rfl | rfl<;>simp
variable{m:M4}
theorem bE(h:m≠old):(m,q,#[Fam.CC F.uA],some (LP.EZ sv aw it))∈F.Ci (.CN sv aw it old) m q:=by
 show _∈F.Gn _ _ _ _ _ _;unfold Fam.Gn;rw[ik];right;rw[d7 h];exact aX.2 V
theorem dD(K:old.l=true/\old.s=false)(O:it<4)(U:old.k=false)(Y:old.w≠0):(({old with k:=true}:M4),q,#[Fam.CC F.uA,Fam.Fb F.uA],some (LP.EZ sv true (it+1)))∈F.Ci (.CN sv false it old) old q:=by
 show _∈F.Gn _ _ _ _ _ _;unfold Fam.Gn;rw[ik];left;rw[d0 ⟨K.1,K.2,O⟩,d0 ⟨rfl,U,Y⟩,d0 rfl];exact aX.2 V
theorem bJ(K:old.l=true/\old.s=false)(O:it<4)(U:old.k=false)(Y:old.w≠0)(hm:m≠old):(m,q,#[Fam.CC F.uA],some (LP.EZ sv false (it+1)))∈F.Ci (.CN sv false it old) m q:=by
 show _∈F.Gn _ _ _ _ _ _;unfold Fam.Gn;rw[ik];left;rw[d0 ⟨K.1,K.2,O⟩,d0 ⟨rfl,U,Y⟩,d7 hm];exact aX.2 V
theorem Rn(K:old.l=true/\old.s=false)(O:it<4)(U:¬(aw=false/\old.k=false/\old.w≠0)):(m,q,#[],some (LP.CN sv aw (it+1) m))∈F.Ci (.CN sv aw it old) m q:=by
 show _∈F.Gn _ _ _ _ _ _;unfold Fam.Gn;rw[ik];left;rw[d0 ⟨K.1,K.2,O⟩,d7 U];exact aX.2 V
theorem HE(m:M4)(h:m.s=true):m={m with l:=m.l || !m.s}:=by
 obtain⟨l,k,s,w⟩:=m;simp only at h;subst h;simp
variable{ats:Array TypeId}{pp:String}{kk:Nat}
set_option maxHeartbeats 4000000 in
theorem YW(Z:s.q=false)(c6:ops[i]?=some ⟨d,.call ⟨.value (.func 139),#[x],ats⟩,ty,pp,af,g⟩)(hw:A3 L ops ⟨d,.call ⟨.value (.func 139),#[x],ats⟩,ty,pp,af,g⟩=some true)(c7:((b.kind != .early)&&BA n d)=true)(c8:ev L x=some (.pointer (some F.uA)))
  (h:JL (Bd Tryz.prog false) (Stop Tryz.prog F (.lk kk .Gr)) b n (AE L d (.tuple #[])) ds (.inRegion ops rest::k) cs s):
  JL (Bd Tryz.prog false) (Stop Tryz.prog F (.lk kk (.EZ false false 0))) b n L ds (.inRegion ops (i::rest)::k) cs s:=by
 refine HQ (vs:=[.pointer (some F.uA)]) c6 hw c7 Tryz.func139 (by decide+kernel) V (by simp[evs,c8]) (qN V) λb6 back=>C 20 V (JL.uA V V ?_);refine HR (kk:=kk) (p:=.EZ false false 0) DF.stop Z V V V V V HL I2 V λca ek b1=>⟨some (.CN false false 0 ca),aX.2 V,?_⟩;refine C 3 V (gT λc9 dd=>?_);have a0:∀X:Ph->GP,DF Tryz.prog F X->(∀p g s,Stop Tryz.prog F p g s->X p g s)->∀L',look L' 0=some (.pointer (some F.uA))->JL (Bd Tryz.prog false) (X (.lk kk .len)) (base 139) Tryz.f139.ntmps L' [] c9 (b6::cs) s:=by
  intro X O ap L' dj;rw[dd];refine DR (L':=[(0,.pointer (some F.uA))]) ⟨dj,trivial⟩ (C 3 V ?_);refine Mf (kk:=kk) (p:=.len) O Z V (λ_ _=>V) V V V V (by simp) Qm (C 3 V ?_);refine QZ (kk:=kk) (p:=.LK) O Z V (λ_ _=>V) V V V V Tryz.underlying223 Tryz.underlying150 Rr V (Rt (kk:=kk) (p:=.KR) (ad:=F.uA) O Z V (λ_ _=>V) V V V V (by simp) Xb V V ?_);refine JL.done (JL.fin V V (BK.none Tryz.func139 V) (back _ _ _ _ ?_));exact Oy (λg s=>ap _ g s) h
 refine JL.block (IV ?_);refine EW [(0,.pointer (some F.uA)),(2,iV 0),(3,.bool false),(4,.bool false),(5,iV ((0:Nat):Int)),(6,.int .i32 (ca:M4).num)] V (Xd λcc a5=>?_);refine WU (P:=Tryz.prog) (F:=F) (s:=s) (kk:=kk) (ph:=Sk) (ok:=W0) (head:=λ(X:Ph->GP) (a:HD)=>JL (Bd Tryz.prog false) (X (.lk kk (Sk a))) (base 139) Tryz.f139.ntmps ([(0,.pointer (some F.uA)),(2,iV a.2.2.2.2),(3,.bool a.1),(4,.bool a.2.1),(5,iV (a.2.2.1:Int)),(6,.int .i32 (a.2.2.2.1:M4).num)]) [] cc (b6::cs) s) ?_ (false,false,0,ca,0) ⟨(λe=>by cases e),rl _,b1.2.2.1⟩;intro Y b2 el hC;have key:∀N (a:HD),4 - a.2.2.1<N->W0 a->(λ(X:Ph->GP) (a:HD)=>JL (Bd Tryz.prog false) (X (.lk kk (Sk a))) (base 139) Tryz.f139.ntmps ([(0,.pointer (some F.uA)),(2,iV a.2.2.2.2),(3,.bool a.1),(4,.bool a.2.1),(5,iV (a.2.2.1:Int)),(6,.int .i32 (a.2.2.2.1:M4).num)]) [] cc (b6::cs) s) Y a:=by
  intro N
  induction N with
  | zero=>intro a ck;omega
  | succ N b3=>
   rintro⟨sv,aw,it,old,wt⟩ ea b1;simp only at ea;have eb:aw=true->old.k=true:=b1.1;have ce:DU old:=b1.2.2;have a1:CO old:=ce.CO;show JL (Bd Tryz.prog false) (Y (.lk kk (.CN sv aw it old))) (base 139) Tryz.f139.ntmps [(0,.pointer (some F.uA)),(2,iV wt),(3,.bool sv),(4,.bool aw),(5,iV (it:Int)),(6,.int .i32 (old:M4).num)] [] cc (b6::cs) s;rw[a5];refine C 2 V (Bu (λL s'=>s=s'/\L=[(0,.pointer (some F.uA)),(2,iV wt),(3,.bool sv),(4,.bool aw),(5,iV (it:Int)),(6,.int .i32 (old:M4).num)]) ?_ ?_)
   rotate_left
   .intro hj;refine C 3 V (Ao (v:=Dv (BP old&&& 5)) V (λρ h=>Fi (c:=5) a1 (h _ _ V) (h _ _ V) (by decide)) ?_);refine C 2 V (MZ (q:=((BP old&&& 5:Nat):Int)=1) (i:=17) V (λco=>?_) (λco=>?_))
    .refine Ao (v:=iV (it:Int)) V (λρ h=>Yl.move (h _ _ V)) (JL.canSpin (it:=(it:Int)) Z V V V V ez V (λG7=>?_) ?_)
     .refine Ao (v:=.bool true) V (λρ h=>M1 (h _ _ V) (h _ _ V)) ?_;have a2:=(jG old).1 co;refine C 5 V ?_;have b4:it<4:=by omega
      refine C 1 V (Ao (v:=.bool (!aw)) V (λρ h=>Yl.not (h _ _ V)) ?_);refine C 1 V (Li (c:= !aw) (i:=23) V (λc1=>?_) (λc1=>?_))
      .refine Ao (v:=.int .i32 (old:M4).num) V (λρ h=>Yl.move (h _ _ V)) (Ao (v:=Dv (BP old&&& 2)) V (λρ h=>Fi (c:=2) a1 (h _ _ V) (h _ _ V) (by decide)) ?_);refine C 3 V (MZ (q:=((BP old&&& 2:Nat):Int)=0) (i:=28) V (λc2=>?_) (λc2=>?_))
       .refine Ao (v:=.int .i32 (old:M4).num) V (λρ h=>Yl.move (h _ _ V)) (Ao (v:=Dv old.w) V (λρ h=>Jt a1 (h _ _ V) (h _ _ V)) ?_);refine C 3 V (MZ (q:=(old.w:Int)≠0) (i:=33) V (λc3=>?_) (λc3=>?_))
        .have ec:aw=false:=by simpa using c1
         subst ec;have cp:=(Sq old).1 c2;have ct:old.w≠0:=by omega
         refine C 2 V (JL.uA V V ?_);refine C 2 V (Ao (v:=.int .i32 ({old with k:=true}:M4).num) V (λρ h=>Pl (c:=2) a1 (by decide) (SG old) V (h _ _ V) (h _ _ V)) ?_);refine UE (kk:=kk) (p:=.CN sv false it old) (old:=old) (nw:={old with k:=true}) b2 Z V V V V V PX V V V (λq a3=>⟨some (.EZ sv true (it+1)),dD a2 b4 cp ct,?_⟩) (λm q hm a3=>⟨some (.EZ sv false (it+1)),bJ a2 b4 cp ct hm,?_⟩);refine Ao (v:=.bool true) V (λρ h=>M1 (h _ _ V) (h _ _ V)) (C 7 V ?_);refine JL.ext (v:=.tuple #[]) V V V M3 V V (C 4 V ?_);refine Ao (v:=iV ((it+1:Nat):Int)) V (λρ h=>F5 (h _ _ V) (h _ _ V) (by unfold Az;rw[d0 (by omega)];congr 1)) (C 6 V ?_);refine JL.uA V V (HR (kk:=kk) (p:=.EZ sv true (it+1)) b2 Z V V V V V HL I2 V λa6 cw bo=>⟨some (.CN sv true (it+1) a6),aX.2 V,?_⟩);refine C 3 V (JL.again ?_);rw[← a5];exact EW [(0,.pointer (some F.uA)),(2,iV wt),(3,.bool sv),(4,.bool true),(5,iV ((it+1:Nat):Int)),(6,.int .i32 (a6:M4).num)] V (b3 (sv,true,it+1,a6,wt) (by show 4 - (it+1)<N;omega) ⟨bo.2.2.2,(by show it+1<=4;omega),bo.2.2.1⟩);refine Ao (v:=.bool false) V (λρ h=>M1 (h _ _ V) (h _ _ V)) (C 5 V ?_);refine JL.ext (v:=.tuple #[]) V V V M3 V V (C 4 V ?_);refine Ao (v:=iV ((it+1:Nat):Int)) V (λρ h=>F5 (h _ _ V) (h _ _ V) (by unfold Az;rw[d0 (by omega)];congr 1)) (C 6 V ?_);refine JL.uA V V (HR (kk:=kk) (p:=.EZ sv false (it+1)) b2 Z V V V V V HL I2 V λa6 cw bo=>⟨some (.CN sv false (it+1) a6),aX.2 V,?_⟩);refine C 3 V (JL.again ?_);rw[← a5];exact EW [(0,.pointer (some F.uA)),(2,iV wt),(3,.bool sv),(4,.bool false),(5,iV ((it+1:Nat):Int)),(6,.int .i32 (a6:M4).num)] V (b3 (sv,false,it+1,a6,wt) (by show 4 - (it+1)<N;omega) ⟨bo.2.2.2,(by show it+1<=4;omega),bo.2.2.1⟩)
        .refine I6 V V V (C 12 V ?_);refine JL.ext (v:=.tuple #[]) V V V M3 V V (C 4 V ?_);refine Ao (v:=iV ((it+1:Nat):Int)) V (λρ h=>F5 (h _ _ V) (h _ _ V) (by unfold Az;rw[d0 (by omega)];congr 1)) (C 6 V ?_);refine JL.uA V V (HR (kk:=kk) (p:=.CN sv aw it old) b2 Z V V V V V HL I2 V λm q a3=>⟨some (.CN sv aw (it+1) m),Rn a2 b4 (λe=>c3 (by omega)),?_⟩);refine C 3 V (JL.again ?_);rw[← a5];exact EW [(0,.pointer (some F.uA)),(2,iV wt),(3,.bool sv),(4,.bool aw),(5,iV ((it+1:Nat):Int)),(6,.int .i32 (m:M4).num)] V (b3 (sv,aw,it+1,m,wt) (by show 4 - (it+1)<N;omega) ⟨a3.2.2.2.2.2,(by show it+1<=4;omega),a3.2.2.2.2.1⟩)
       .refine I6 V V V (C 17 V ?_);refine JL.ext (v:=.tuple #[]) V V V M3 V V (C 4 V ?_);refine Ao (v:=iV ((it+1:Nat):Int)) V (λρ h=>F5 (h _ _ V) (h _ _ V) (by unfold Az;rw[d0 (by omega)];congr 1)) (C 6 V ?_);refine JL.uA V V (HR (kk:=kk) (p:=.CN sv aw it old) b2 Z V V V V V HL I2 V λm q a3=>⟨some (.CN sv aw (it+1) m),Rn a2 b4 (λe=>c2 ((Sq old).2 e.2.1)),?_⟩);refine C 3 V (JL.again ?_);rw[← a5];exact EW [(0,.pointer (some F.uA)),(2,iV wt),(3,.bool sv),(4,.bool aw),(5,iV ((it+1:Nat):Int)),(6,.int .i32 (m:M4).num)] V (b3 (sv,aw,it+1,m,wt) (by show 4 - (it+1)<N;omega) ⟨a3.2.2.2.2.2,(by show it+1<=4;omega),a3.2.2.2.2.1⟩)
      .refine I6 V V V (C 22 V ?_);refine JL.ext (v:=.tuple #[]) V V V M3 V V (C 4 V ?_);refine Ao (v:=iV ((it+1:Nat):Int)) V (λρ h=>F5 (h _ _ V) (h _ _ V) (by unfold Az;rw[d0 (by omega)];congr 1)) (C 6 V ?_);refine JL.uA V V (HR (kk:=kk) (p:=.CN sv aw it old) b2 Z V V V V V HL I2 V λm q a3=>⟨some (.CN sv aw (it+1) m),Rn a2 b4 (λe=>by rw[e.1] at c1;cases c1),?_⟩);refine C 3 V (JL.again ?_);rw[← a5];exact EW [(0,.pointer (some F.uA)),(2,iV wt),(3,.bool sv),(4,.bool aw),(5,iV ((it+1:Nat):Int)),(6,.int .i32 (m:M4).num)] V (b3 (sv,aw,it+1,m,wt) (by show 4 - (it+1)<N;omega) ⟨a3.2.2.2.2.2,(by show it+1<=4;omega),a3.2.2.2.2.1⟩)
     .refine Ao (v:=.bool false) V (λρ h=>M1 (h _ _ V) (h _ _ V)) (C 3 V ?_);exact AD (hj _ _ ⟨V,V⟩) V
    .refine I6 V V V (C 5 V ?_);exact AD (hj _ _ ⟨V,V⟩) V
   rintro _ _ ⟨rfl,rfl⟩;refine C 6 V (Bu (λL s'=>s=s'/\L=[(0,.pointer (some F.uA)),(2,iV wt),(3,.bool sv),(4,.bool aw),(5,iV (it:Int)),(6,.int .i32 (old:M4).num),(7,.int .i32 ({old with l:=old.l || !old.s}:M4).num)]) ?_ ?_)
   rotate_left
   .intro hj;refine C 3 V (Ao (v:=Dv (BP old&&& 4)) V (λρ h=>Fi (c:=4) a1 (h _ _ V) (h _ _ V) (by decide)) ?_);refine C 2 V (GY (p:=((BP old&&& 4:Nat):Int)=0) V (λc=>?_) (λc=>?_));refine JL.region (C 1 V ?_);refine Ao (v:=.int .i32 ({old with l:=true}:M4).num) V (λρ h=>Pl (c:=1) a1 (by decide) (jQ old) V (h _ _ V) (h _ _ V)) (C 2 V ?_);refine DR ?_ (hj _ _ ⟨V,V⟩);exact⟨V,V,V,V,V,V,qS (λm:M4=>some (Value.int .i32 m.num)) (by rw[(Iw old).1 c];simp),trivial⟩;refine JL.skip (DR ?_ (hj _ _ ⟨V,V⟩));exact⟨V,V,V,V,V,V,qS (λm:M4=>some (Value.int .i32 m.num)) ((tI old.s).elim (HE old) (λhh=>absurd ((Iw old).2 hh) c)),trivial⟩
   rintro _ _ ⟨rfl,rfl⟩;have em:CO {old with l:=old.l || !old.s}:=a1;refine JL.seq (Bu (λL s'=>s=s'/\L=[(0,.pointer (some F.uA)),(2,iV wt),(3,.bool sv),(4,.bool aw),(5,iV (it:Int)),(6,.int .i32 (old:M4).num),(7,.int .i32 ({old with l:=old.l || !old.s,w:=if old.l=true∨old.s=true then old.w+1 else old.w}:M4).num)]) ?_ ?_)
   rotate_left
   .intro hj;refine C 3 V (Ao (v:=Dv (BP old&&& 5)) V (λρ h=>Fi (c:=5) a1 (h _ _ V) (h _ _ V) (by decide)) ?_);refine C 2 V (GY (p:=((BP old&&& 5:Nat):Int)≠0) V (λc=>?_) (λc=>?_));refine JL.region (C 1 V ?_);refine Ao (v:=.int .i32 ({old with l:=old.l || !old.s,w:=old.w+1}:M4).num) V (λρ h=>dw (m:={old with l:=old.l || !old.s}) ce (h _ _ V) (h _ _ V)) (C 2 V ?_);refine DR ?_ (hj _ _ ⟨V,V⟩);exact⟨V,V,V,V,V,V,qS (λm:M4=>some (Value.int .i32 m.num)) (by rw[d0 (by have:=λe=>c ((Nu old).2 e);cases eo:old.l<;>cases er:old.s<;>simp_all)]),trivial⟩;refine JL.skip (DR ?_ (hj _ _ ⟨V,V⟩));exact⟨V,V,V,V,V,V,qS (λm:M4=>some (Value.int .i32 m.num)) (by rw[d7 (by have:=(Nu old).1 (th.1 c);rw[this.1,this.2];simp)]),trivial⟩
   rintro _ _ ⟨rfl,rfl⟩;have cy:CO ({old with l:=old.l || !old.s,w:=if old.l=true∨old.s=true then old.w+1 else old.w}:M4):=by unfold DU at ce;unfold CO;simp only;split<;>omega
   refine JL.seq (Bu (λL s'=>s=s'/\L=[(0,.pointer (some F.uA)),(2,iV wt),(3,.bool sv),(4,.bool aw),(5,iV (it:Int)),(6,.int .i32 (old:M4).num),(7,.int .i32 ({old with l:=old.l || !old.s,s:=old.s || (sv&&old.l),w:=if old.l=true∨old.s=true then old.w+1 else old.w}:M4).num)]) ?_ ?_)
   rotate_left
   .intro hj;refine C 4 V (Li (c:=sv) (i:=61) V (λc1=>?_) (λc1=>?_))
    .refine Ao (v:=.int .i32 (old:M4).num) V (λρ h=>Yl.move (h _ _ V)) (Ao (v:=Dv (BP old&&& 1)) V (λρ h=>Fi (c:=1) a1 (h _ _ V) (h _ _ V) (by decide)) ?_);refine C 3 V (GY (p:=((BP old&&& 1:Nat):Int)≠0) V (λc=>?_) (λc=>?_))
     .refine JL.region (C 1 V ?_);refine Ao (v:=.int .i32 ({old with s:=true,l:=old.l || !old.s,w:=if old.l=true∨old.s=true then old.w+1 else old.w}:M4).num) V (λρ h=>Pl (c:=4) (m:={old with l:=old.l || !old.s,w:=if old.l=true∨old.s=true then old.w+1 else old.w}) cy (by decide) (jJ _) V (h _ _ V) (h _ _ V)) ?_
      refine C 2 V (DR ?_ (hj _ _ ⟨V,V⟩));exact⟨V,V,V,V,V,V,qS (λm:M4=>some (Value.int .i32 m.num)) (by rcases tI old.l with hh | hh<;>first | exact absurd ((Sb old).2 hh) c | (rw[c1,hh];simp)),trivial⟩
     .refine JL.skip (DR ?_ (hj _ _ ⟨V,V⟩));exact⟨V,V,V,V,V,V,qS (λm:M4=>some (Value.int .i32 m.num)) (by have:=(Sb old).1 (th.1 c);rw[this];simp),trivial⟩
    .refine I6 V V V (C 6 V ?_);refine DR ?_ (hj _ _ ⟨V,V⟩);exact⟨V,V,V,V,V,V,qS (λm:M4=>some (Value.int .i32 m.num)) (by rw[c1];simp),trivial⟩
   rintro _ _ ⟨rfl,rfl⟩;have c0:CO ({old with l:=old.l || !old.s,s:=old.s || (sv&&old.l),w:=if old.l=true∨old.s=true then old.w+1 else old.w}:M4):=cy
   refine JL.seq (Bu (λL s'=>s=s'/\L=[(0,.pointer (some F.uA)),(2,iV wt),(3,.bool sv),(4,.bool aw),(5,iV (it:Int)),(6,.int .i32 (old:M4).num),(7,.int .i32 (mN sv aw old:M4).num)]) ?_ ?_)
   rotate_left
   .intro hj;refine C 4 V (Ri (t:=aw) V (λc=>?_) (λc=>?_))
    .have c4:old.k=true:=eb c;refine C 4 V ?_;refine Ao (v:=Dv (BP ({old with l:=old.l || !old.s,s:=old.s || (sv&&old.l),w:=if old.l=true∨old.s=true then old.w+1 else old.w}:M4)&&& 2)) V (λρ h=>Fi (c:=2) (m:={old with l:=old.l || !old.s,s:=old.s || (sv&&old.l),w:=if old.l=true∨old.s=true then old.w+1 else old.w}) c0 (h _ _ V) (h _ _ V) (by decide)) ?_
     refine Ao (v:=.bool false) V (λρ h=>Yl.to (Yl.eql (h _ _ V) (h _ _ V)) (by rw[qX (λe=>by have q:=(Sq _).1 e;simp only at q;rw[c4] at q;cases q)])) (C 5 V ?_);refine Ao (v:=.int .i32 ({old with k:=false,l:=old.l || !old.s,s:=old.s || (sv&&old.l),w:=if old.l=true∨old.s=true then old.w+1 else old.w}:M4).num) V (λρ h=>Yl.RD (m:={old with l:=old.l || !old.s,s:=old.s || (sv&&old.l),w:=if old.l=true∨old.s=true then old.w+1 else old.w}) c0 c4 (h _ _ V) (h _ _ V)) ?_
     refine C 2 V (DR ?_ (hj _ _ ⟨V,V⟩));exact⟨V,V,V,V,V,V,qS (λm:M4=>some (Value.int .i32 m.num)) (by simp[mN,c]),trivial⟩
    .refine JL.skip (DR ?_ (hj _ _ ⟨V,V⟩));exact⟨V,V,V,V,V,V,qS (λm:M4=>some (Value.int .i32 m.num)) (by simp[mN,c]),trivial⟩
   rintro _ _ ⟨rfl,rfl⟩;refine C 4 V (JL.uA V V ?_);refine C 2 V (λT ed=>(Bd Tryz.prog false).stop (hC (sv,aw,it,old,wt) _ b1 λX et ee O ap b5=>?_));refine Q9 (kk:=kk) (p:=.CN sv aw it old) (old:=old) (nw:=mN sv aw old) ee Z V V V V V PX V V V (λq a3=>?_) (λm q hm a3=>⟨some (.EZ sv aw it),bE hm,?_⟩) T ed
   .by_cases a2:old.l=false/\old.s=false;refine⟨some .len,dL a2,?_⟩;refine C 6 V (Ao (v:=Dv (BP old&&& 5)) V (λρ h=>Fi (c:=5) a1 (h _ _ V) (h _ _ V) (by decide)) ?_);refine Ao (v:=.bool true) V (λρ h=>Yl.to (Yl.eql (h _ _ V) (h _ _ V)) (by rw[qR ((Nu old).2 a2)])) (C 3 V ?_);exact a0 X O ap _ V
    .by_cases c5:wt=0
     .refine⟨some ((.I4 sv)),Ud a2 _ (.inl V),?_⟩;refine C 6 V (Ao (v:=Dv (BP old&&& 5)) V (λρ h=>Fi (c:=5) a1 (h _ _ V) (h _ _ V) (by decide)) ?_);refine Ao (v:=.bool false) V (λρ h=>Yl.to (Yl.eql (h _ _ V) (h _ _ V)) (by rw[qX (λe=>a2 ((Nu old).1 e))])) ?_;refine C 13 V (Ao (v:=.bool true) V (λρ h=>Yl.to (Yl.eql (h _ _ V) (h _ _ V)) (by rw[qR c5])) ?_);refine C 3 V (Q0 (kk:=kk) (p:=.I4 sv) O Z V V V V V R6 Sl λm a4 v ag=>⟨some (.C9 sv),aX.2 V,?_⟩);refine C 6 V (Ao (v:=.pointer (some F.qA)) V (λρ h=>Ep (a:=F.uA) 0 1 Tryz.underlying120 Ob V V V (h _ _ V)) ?_);refine C 1 V (TE (kk:=kk) (sv:=sv) O Z V V V V VY V V ?_);refine JL.done ?_;cases sv
      .rw [d7 (by decide)];refine C 4 V (Q0 (kk:=kk) (p:=.GN) O Z V V V V V R6 Sl λef eg v2 ej=>⟨some (.Fl (decide (IntKind.i64.wrap (v2 - v)>1000000))),by (cases decide (IntKind.i64.wrap (v2 - v)>1000000)<;>simp[Fam.Ci]),?_⟩);refine C 1 V (Ao (v:=.int .i64 (IntKind.i64.wrap (v2 - v))) V (λρ h=>Yl.sub (h _ _ V) (h _ _ V)) ?_);refine C 4 V ?_;generalize decide (IntKind.i64.wrap (v2 - v)>1000000)=am;refine C 4 V (JL.uA V V ?_);refine HR (kk:=kk) (p:=.Fl am) O Z V V V V V HL I2 V ?_;intro m ci aq;have a7:DU m:=aq.2.2;have ai:CO m:=a7.CO;by_cases ac:m.s=true
       .refine⟨some (.EY (!am || m.w==1)),by simp[Fam.Ci,ac],?_⟩;refine C 2 V ?_;let⟨bv,bw,bx⟩:=aq.1 ac;refine C 4 V (Ao (v:=Dv (BP m&&& 4)) V (λρ h=>Fi (c:=4) ai (h _ _ V) (h _ _ V) (by decide)) ?_);refine Ao (v:=.bool true) V (λρ h=>Yl.to (Io (h _ _ V) (h _ _ V)) (by have b0:(((BP m&&& 4:Nat):Int)≠0):=(λe=>by rw[(Iw m).1 e] at ac;cases ac);rw[qR b0])) ?_;refine C 6 V (Ao (v:=Dv (BP m&&& 3)) V (λρ h=>Fi (c:=3) ai (h _ _ V) (h _ _ V) (by decide)) ?_);refine Ao (v:=.bool false) V (λρ h=>Yl.to (Io (h _ _ V) (h _ _ V)) (by rw[(PM m).2 ⟨bv,bw⟩];rfl)) (C 2 V ?_);refine Ao (v:=Dv m.w) V (λρ h=>Jt ai (h _ _ V) (h _ _ V)) (Ao (v:=.bool false) V (λρ h=>Yl.to (Yl.eql (h _ _ V) (h _ _ V)) (by rw[qX (λe=>bx (by omega))])) ?_);refine C 12 V (Ao (v:=.bool (!am)) V (λρ h=>Yl.not (h _ _ V)) ?_);refine C 1 V (Li (c:= !am) (i:=119) V (λd1=>?_) (λd1=>?_))
        .refine I6 V V V (C 5 V ?_);have hex:(!am || m.w==1)=true:=by rw[d1];simp
         rw[hex];refine C 2 V (Ao (v:=.int .i32 (-11)) V (λρ h=>Yl.to (Yl.sub (h _ _ V) (h _ _ V)) V) ?_);refine C 6 V (JL.uA V V ?_);refine C 1 V (HO (kk:=kk) (p:=.EY true) (dl:= -11) O Z V V V V V HY V V λK a4 ag=>⟨⟨true,K.k,false,K.w - 1⟩,some .len,?_,aX.2 V,?_⟩)
         .obtain⟨a8,a9,bb,w3⟩:=K;obtain⟨g1,g2,U,aj,be,al⟩:=ag;simp only at g1 g2 U aj;subst g1 g2 U;have bg:w3<134217728:=al;have e:(⟨false,false,true,w3⟩:M4).num+(-11)=((8*(w3 - 1)+1:Nat):Int):=by simp only[M4.num,qV,qM];omega
          rw[e,Gk (by omega)];simp only[M4.num,qV,qM];omega
         exact C 2 V (a0 X O ap _ V)
        .refine Ao (v:=.int .i32 (m:M4).num) V (λρ h=>Yl.move (h _ _ V)) (Ao (v:=Dv m.w) V (λρ h=>Jt ai (h _ _ V) (h _ _ V)) ?_);refine C 3 V (GY (p:=(m.w:Int)=1) V (λd2=>?_) (λd2=>?_))
         .have hex:(!am || m.w==1)=true:=by rw[d1];simp;omega
          rw[hex];refine C 2 V (Ao (v:=.int .i32 (-11)) V (λρ h=>Yl.to (Yl.sub (h _ _ V) (h _ _ V)) V) ?_);refine C 6 V (JL.uA V V ?_);refine C 1 V (HO (kk:=kk) (p:=.EY true) (dl:= -11) O Z V V V V V HY V V λK a4 ag=>⟨⟨true,K.k,false,K.w - 1⟩,some .len,?_,aX.2 V,?_⟩)
          .obtain⟨a8,a9,bb,w3⟩:=K;obtain⟨g1,g2,U,aj,be,al⟩:=ag;simp only at g1 g2 U aj;subst g1 g2 U;have bg:w3<134217728:=al;have e:(⟨false,false,true,w3⟩:M4).num+(-11)=((8*(w3 - 1)+1:Nat):Int):=by simp only[M4.num,qV,qM];omega
           rw[e,Gk (by omega)];simp only[M4.num,qV,qM];omega
          exact C 2 V (a0 X O ap _ V)
         .have hex:(!am || m.w==1)=false:=by rw[d1];simp;omega
          rw[hex];refine C 5 V (JL.uA V V ?_);refine C 1 V (HO (kk:=kk) (p:=.EY false) (dl:= -7) O Z V V V V V HY V V λK a4 ag=>⟨⟨true,K.k,true,K.w - 1⟩,some .len,?_,aX.2 V,?_⟩)
          .obtain⟨a8,a9,bb,w3⟩:=K;obtain⟨g1,g2,U,aj,be,al⟩:=ag;simp only at g1 g2 U aj;subst g1 g2 U;have bg:w3<134217728:=al;have e:(⟨false,false,true,w3⟩:M4).num+(-7)=((8*(w3 - 1)+5:Nat):Int):=by simp only[M4.num,qV,qM];omega
           rw[e,Gk (by omega)];simp only[M4.num,qV,qM];omega
          exact C 2 V (a0 X O ap _ V)
       .refine⟨some (.CN am true 0 m),by simp[Fam.Ci,ac],?_⟩;refine C 2 V ?_;have bi:m.s=false:=by simpa using ac
        refine C 4 V (Ao (v:=Dv (BP m&&& 4)) V (λρ h=>Fi (c:=4) ai (h _ _ V) (h _ _ V) (by decide)) ?_);refine Ao (v:=.bool false) V (λρ h=>Yl.to (Io (h _ _ V) (h _ _ V)) (by rw[(Iw m).2 bi];rfl)) (C 11 V ?_);refine JL.again ?_;rw[← a5];exact EW [(0,.pointer (some F.uA)),(2,iV v),(3,.bool am),(4,.bool true),(5,iV ((0:Nat):Int)),(6,.int .i32 (m:M4).num)] V (b5 (am,true,0,m,v) ⟨λ_=>aq.2.1 bi,rl _,a7⟩)
      .rw [d0 rfl];refine C 15 V (JL.uA V V ?_);refine HR (kk:=kk) (p:=.Fl true) O Z V V V V V HL I2 V ?_;intro m ci aq;have a7:DU m:=aq.2.2;have ai:CO m:=a7.CO;by_cases ac:m.s=true
       .refine⟨some (.EY (!true || m.w==1)),by simp[Fam.Ci,ac],?_⟩;refine C 2 V ?_;let⟨bv,bw,bx⟩:=aq.1 ac;refine C 4 V (Ao (v:=Dv (BP m&&& 4)) V (λρ h=>Fi (c:=4) ai (h _ _ V) (h _ _ V) (by decide)) ?_);refine Ao (v:=.bool true) V (λρ h=>Yl.to (Io (h _ _ V) (h _ _ V)) (by have b0:(((BP m&&& 4:Nat):Int)≠0):=(λe=>by rw[(Iw m).1 e] at ac;cases ac);rw[qR b0])) ?_;refine C 6 V (Ao (v:=Dv (BP m&&& 3)) V (λρ h=>Fi (c:=3) ai (h _ _ V) (h _ _ V) (by decide)) ?_);refine Ao (v:=.bool false) V (λρ h=>Yl.to (Io (h _ _ V) (h _ _ V)) (by rw[(PM m).2 ⟨bv,bw⟩];rfl)) (C 2 V ?_);refine Ao (v:=Dv m.w) V (λρ h=>Jt ai (h _ _ V) (h _ _ V)) (Ao (v:=.bool false) V (λρ h=>Yl.to (Yl.eql (h _ _ V) (h _ _ V)) (by rw[qX (λe=>bx (by omega))])) ?_);refine C 12 V (Ao (v:=.bool (!true)) V (λρ h=>Yl.not (h _ _ V)) ?_);refine C 1 V (Li (c:= !true) (i:=119) V (λd1=>?_) (λd1=>?_))
        .refine I6 V V V (C 5 V ?_);have hex:(!true || m.w==1)=true:=by rw[d1];simp
         rw[hex];refine C 2 V (Ao (v:=.int .i32 (-11)) V (λρ h=>Yl.to (Yl.sub (h _ _ V) (h _ _ V)) V) ?_);refine C 6 V (JL.uA V V ?_);refine C 1 V (HO (kk:=kk) (p:=.EY true) (dl:= -11) O Z V V V V V HY V V λK a4 ag=>⟨⟨true,K.k,false,K.w - 1⟩,some .len,?_,aX.2 V,?_⟩)
         .obtain⟨a8,a9,bb,w3⟩:=K;obtain⟨g1,g2,U,aj,be,al⟩:=ag;simp only at g1 g2 U aj;subst g1 g2 U;have bg:w3<134217728:=al;have e:(⟨false,false,true,w3⟩:M4).num+(-11)=((8*(w3 - 1)+1:Nat):Int):=by simp only[M4.num,qV,qM];omega
          rw[e,Gk (by omega)];simp only[M4.num,qV,qM];omega
         exact C 2 V (a0 X O ap _ V)
        .refine Ao (v:=.int .i32 (m:M4).num) V (λρ h=>Yl.move (h _ _ V)) (Ao (v:=Dv m.w) V (λρ h=>Jt ai (h _ _ V) (h _ _ V)) ?_);refine C 3 V (GY (p:=(m.w:Int)=1) V (λd2=>?_) (λd2=>?_))
         .have hex:(!true || m.w==1)=true:=by rw[d1];simp;omega
          rw[hex];refine C 2 V (Ao (v:=.int .i32 (-11)) V (λρ h=>Yl.to (Yl.sub (h _ _ V) (h _ _ V)) V) ?_);refine C 6 V (JL.uA V V ?_);refine C 1 V (HO (kk:=kk) (p:=.EY true) (dl:= -11) O Z V V V V V HY V V λK a4 ag=>⟨⟨true,K.k,false,K.w - 1⟩,some .len,?_,aX.2 V,?_⟩)
          .obtain⟨a8,a9,bb,w3⟩:=K;obtain⟨g1,g2,U,aj,be,al⟩:=ag;simp only at g1 g2 U aj;subst g1 g2 U;have bg:w3<134217728:=al;have e:(⟨false,false,true,w3⟩:M4).num+(-11)=((8*(w3 - 1)+1:Nat):Int):=by simp only[M4.num,qV,qM];omega
           rw[e,Gk (by omega)];simp only[M4.num,qV,qM];omega
          exact C 2 V (a0 X O ap _ V)
         .have hex:(!true || m.w==1)=false:=by rw[d1];simp;omega
          rw[hex];refine C 5 V (JL.uA V V ?_);refine C 1 V (HO (kk:=kk) (p:=.EY false) (dl:= -7) O Z V V V V V HY V V λK a4 ag=>⟨⟨true,K.k,true,K.w - 1⟩,some .len,?_,aX.2 V,?_⟩)
          .obtain⟨a8,a9,bb,w3⟩:=K;obtain⟨g1,g2,U,aj,be,al⟩:=ag;simp only at g1 g2 U aj;subst g1 g2 U;have bg:w3<134217728:=al;have e:(⟨false,false,true,w3⟩:M4).num+(-7)=((8*(w3 - 1)+5:Nat):Int):=by simp only[M4.num,qV,qM];omega
           rw[e,Gk (by omega)];simp only[M4.num,qV,qM];omega
          exact C 2 V (a0 X O ap _ V)
       .refine⟨some (.CN true true 0 m),by simp[Fam.Ci,ac],?_⟩;refine C 2 V ?_;have bi:m.s=false:=by simpa using ac
        refine C 4 V (Ao (v:=Dv (BP m&&& 4)) V (λρ h=>Fi (c:=4) ai (h _ _ V) (h _ _ V) (by decide)) ?_);refine Ao (v:=.bool false) V (λρ h=>Yl.to (Io (h _ _ V) (h _ _ V)) (by rw[(Iw m).2 bi];rfl)) (C 11 V ?_);refine JL.again ?_;rw[← a5];exact EW [(0,.pointer (some F.uA)),(2,iV v),(3,.bool true),(4,.bool true),(5,iV ((0:Nat):Int)),(6,.int .i32 (m:M4).num)] V (b5 (true,true,0,m,v) ⟨λ_=>aq.2.1 bi,rl _,a7⟩)
     .refine⟨some ((.C9 sv)),Ud a2 _ (.inr V),?_⟩;refine C 6 V (Ao (v:=Dv (BP old&&& 5)) V (λρ h=>Fi (c:=5) a1 (h _ _ V) (h _ _ V) (by decide)) ?_);refine Ao (v:=.bool false) V (λρ h=>Yl.to (Yl.eql (h _ _ V) (h _ _ V)) (by rw[qX (λe=>a2 ((Nu old).1 e))])) ?_;refine C 13 V (Ao (v:=.bool false) V (λρ h=>Yl.to (Yl.eql (h _ _ V) (h _ _ V)) (by rw[qX c5])) ?_);refine C 7 V (Ao (v:=.pointer (some F.qA)) V (λρ h=>Ep (a:=F.uA) 0 1 Tryz.underlying120 Ob V V V (h _ _ V)) ?_);refine C 1 V (TE (kk:=kk) (sv:=sv) O Z V V V V VY V V ?_);refine JL.done ?_;cases sv
      .rw [d7 (by decide)];refine C 4 V (Q0 (kk:=kk) (p:=.GN) O Z V V V V V R6 Sl λef eg v2 ej=>⟨some (.Fl (decide (IntKind.i64.wrap (v2 - wt)>1000000))),by (cases decide (IntKind.i64.wrap (v2 - wt)>1000000)<;>simp[Fam.Ci]),?_⟩);refine C 1 V (Ao (v:=.int .i64 (IntKind.i64.wrap (v2 - wt))) V (λρ h=>Yl.sub (h _ _ V) (h _ _ V)) ?_);refine C 4 V ?_;generalize decide (IntKind.i64.wrap (v2 - wt)>1000000)=am;refine C 4 V (JL.uA V V ?_);refine HR (kk:=kk) (p:=.Fl am) O Z V V V V V HL I2 V ?_;intro m ci aq;have a7:DU m:=aq.2.2;have ai:CO m:=a7.CO;by_cases ac:m.s=true
       .refine⟨some (.EY (!am || m.w==1)),by simp[Fam.Ci,ac],?_⟩;refine C 2 V ?_;let⟨bv,bw,bx⟩:=aq.1 ac;refine C 4 V (Ao (v:=Dv (BP m&&& 4)) V (λρ h=>Fi (c:=4) ai (h _ _ V) (h _ _ V) (by decide)) ?_);refine Ao (v:=.bool true) V (λρ h=>Yl.to (Io (h _ _ V) (h _ _ V)) (by have b0:(((BP m&&& 4:Nat):Int)≠0):=(λe=>by rw[(Iw m).1 e] at ac;cases ac);rw[qR b0])) ?_;refine C 6 V (Ao (v:=Dv (BP m&&& 3)) V (λρ h=>Fi (c:=3) ai (h _ _ V) (h _ _ V) (by decide)) ?_);refine Ao (v:=.bool false) V (λρ h=>Yl.to (Io (h _ _ V) (h _ _ V)) (by rw[(PM m).2 ⟨bv,bw⟩];rfl)) (C 2 V ?_);refine Ao (v:=Dv m.w) V (λρ h=>Jt ai (h _ _ V) (h _ _ V)) (Ao (v:=.bool false) V (λρ h=>Yl.to (Yl.eql (h _ _ V) (h _ _ V)) (by rw[qX (λe=>bx (by omega))])) ?_);refine C 12 V (Ao (v:=.bool (!am)) V (λρ h=>Yl.not (h _ _ V)) ?_);refine C 1 V (Li (c:= !am) (i:=119) V (λd1=>?_) (λd1=>?_))
        .refine I6 V V V (C 5 V ?_);have hex:(!am || m.w==1)=true:=by rw[d1];simp
         rw[hex];refine C 2 V (Ao (v:=.int .i32 (-11)) V (λρ h=>Yl.to (Yl.sub (h _ _ V) (h _ _ V)) V) ?_);refine C 6 V (JL.uA V V ?_);refine C 1 V (HO (kk:=kk) (p:=.EY true) (dl:= -11) O Z V V V V V HY V V λK a4 ag=>⟨⟨true,K.k,false,K.w - 1⟩,some .len,?_,aX.2 V,?_⟩)
         .obtain⟨a8,a9,bb,w3⟩:=K;obtain⟨g1,g2,U,aj,be,al⟩:=ag;simp only at g1 g2 U aj;subst g1 g2 U;have bg:w3<134217728:=al;have e:(⟨false,false,true,w3⟩:M4).num+(-11)=((8*(w3 - 1)+1:Nat):Int):=by simp only[M4.num,qV,qM];omega
          rw[e,Gk (by omega)];simp only[M4.num,qV,qM];omega
         exact C 2 V (a0 X O ap _ V)
        .refine Ao (v:=.int .i32 (m:M4).num) V (λρ h=>Yl.move (h _ _ V)) (Ao (v:=Dv m.w) V (λρ h=>Jt ai (h _ _ V) (h _ _ V)) ?_);refine C 3 V (GY (p:=(m.w:Int)=1) V (λd2=>?_) (λd2=>?_))
         .have hex:(!am || m.w==1)=true:=by rw[d1];simp;omega
          rw[hex];refine C 2 V (Ao (v:=.int .i32 (-11)) V (λρ h=>Yl.to (Yl.sub (h _ _ V) (h _ _ V)) V) ?_);refine C 6 V (JL.uA V V ?_);refine C 1 V (HO (kk:=kk) (p:=.EY true) (dl:= -11) O Z V V V V V HY V V λK a4 ag=>⟨⟨true,K.k,false,K.w - 1⟩,some .len,?_,aX.2 V,?_⟩)
          .obtain⟨a8,a9,bb,w3⟩:=K;obtain⟨g1,g2,U,aj,be,al⟩:=ag;simp only at g1 g2 U aj;subst g1 g2 U;have bg:w3<134217728:=al;have e:(⟨false,false,true,w3⟩:M4).num+(-11)=((8*(w3 - 1)+1:Nat):Int):=by simp only[M4.num,qV,qM];omega
           rw[e,Gk (by omega)];simp only[M4.num,qV,qM];omega
          exact C 2 V (a0 X O ap _ V)
         .have hex:(!am || m.w==1)=false:=by rw[d1];simp;omega
          rw[hex];refine C 5 V (JL.uA V V ?_);refine C 1 V (HO (kk:=kk) (p:=.EY false) (dl:= -7) O Z V V V V V HY V V λK a4 ag=>⟨⟨true,K.k,true,K.w - 1⟩,some .len,?_,aX.2 V,?_⟩)
          .obtain⟨a8,a9,bb,w3⟩:=K;obtain⟨g1,g2,U,aj,be,al⟩:=ag;simp only at g1 g2 U aj;subst g1 g2 U;have bg:w3<134217728:=al;have e:(⟨false,false,true,w3⟩:M4).num+(-7)=((8*(w3 - 1)+5:Nat):Int):=by simp only[M4.num,qV,qM];omega
           rw[e,Gk (by omega)];simp only[M4.num,qV,qM];omega
          exact C 2 V (a0 X O ap _ V)
       .refine⟨some (.CN am true 0 m),by simp[Fam.Ci,ac],?_⟩;refine C 2 V ?_;have bi:m.s=false:=by simpa using ac
        refine C 4 V (Ao (v:=Dv (BP m&&& 4)) V (λρ h=>Fi (c:=4) ai (h _ _ V) (h _ _ V) (by decide)) ?_);refine Ao (v:=.bool false) V (λρ h=>Yl.to (Io (h _ _ V) (h _ _ V)) (by rw[(Iw m).2 bi];rfl)) (C 11 V ?_);refine JL.again ?_;rw[← a5];exact EW [(0,.pointer (some F.uA)),(2,iV wt),(3,.bool am),(4,.bool true),(5,iV ((0:Nat):Int)),(6,.int .i32 (m:M4).num)] V (b5 (am,true,0,m,wt) ⟨λ_=>aq.2.1 bi,rl _,a7⟩)
      .rw [d0 rfl];refine C 15 V (JL.uA V V ?_);refine HR (kk:=kk) (p:=.Fl true) O Z V V V V V HL I2 V ?_;intro m ci aq;have a7:DU m:=aq.2.2;have ai:CO m:=a7.CO;by_cases ac:m.s=true
       .refine⟨some (.EY (!true || m.w==1)),by simp[Fam.Ci,ac],?_⟩;refine C 2 V ?_;let⟨bv,bw,bx⟩:=aq.1 ac;refine C 4 V (Ao (v:=Dv (BP m&&& 4)) V (λρ h=>Fi (c:=4) ai (h _ _ V) (h _ _ V) (by decide)) ?_);refine Ao (v:=.bool true) V (λρ h=>Yl.to (Io (h _ _ V) (h _ _ V)) (by have b0:(((BP m&&& 4:Nat):Int)≠0):=(λe=>by rw[(Iw m).1 e] at ac;cases ac);rw[qR b0])) ?_;refine C 6 V (Ao (v:=Dv (BP m&&& 3)) V (λρ h=>Fi (c:=3) ai (h _ _ V) (h _ _ V) (by decide)) ?_);refine Ao (v:=.bool false) V (λρ h=>Yl.to (Io (h _ _ V) (h _ _ V)) (by rw[(PM m).2 ⟨bv,bw⟩];rfl)) (C 2 V ?_);refine Ao (v:=Dv m.w) V (λρ h=>Jt ai (h _ _ V) (h _ _ V)) (Ao (v:=.bool false) V (λρ h=>Yl.to (Yl.eql (h _ _ V) (h _ _ V)) (by rw[qX (λe=>bx (by omega))])) ?_);refine C 12 V (Ao (v:=.bool (!true)) V (λρ h=>Yl.not (h _ _ V)) ?_);refine C 1 V (Li (c:= !true) (i:=119) V (λd1=>?_) (λd1=>?_))
        .refine I6 V V V (C 5 V ?_);have hex:(!true || m.w==1)=true:=by rw[d1];simp
         rw[hex];refine C 2 V (Ao (v:=.int .i32 (-11)) V (λρ h=>Yl.to (Yl.sub (h _ _ V) (h _ _ V)) V) ?_);refine C 6 V (JL.uA V V ?_);refine C 1 V (HO (kk:=kk) (p:=.EY true) (dl:= -11) O Z V V V V V HY V V λK a4 ag=>⟨⟨true,K.k,false,K.w - 1⟩,some .len,?_,aX.2 V,?_⟩)
         .obtain⟨a8,a9,bb,w3⟩:=K;obtain⟨g1,g2,U,aj,be,al⟩:=ag;simp only at g1 g2 U aj;subst g1 g2 U;have bg:w3<134217728:=al;have e:(⟨false,false,true,w3⟩:M4).num+(-11)=((8*(w3 - 1)+1:Nat):Int):=by simp only[M4.num,qV,qM];omega
          rw[e,Gk (by omega)];simp only[M4.num,qV,qM];omega
         exact C 2 V (a0 X O ap _ V)
        .refine Ao (v:=.int .i32 (m:M4).num) V (λρ h=>Yl.move (h _ _ V)) (Ao (v:=Dv m.w) V (λρ h=>Jt ai (h _ _ V) (h _ _ V)) ?_);refine C 3 V (GY (p:=(m.w:Int)=1) V (λd2=>?_) (λd2=>?_))
         .have hex:(!true || m.w==1)=true:=by rw[d1];simp;omega
          rw[hex];refine C 2 V (Ao (v:=.int .i32 (-11)) V (λρ h=>Yl.to (Yl.sub (h _ _ V) (h _ _ V)) V) ?_);refine C 6 V (JL.uA V V ?_);refine C 1 V (HO (kk:=kk) (p:=.EY true) (dl:= -11) O Z V V V V V HY V V λK a4 ag=>⟨⟨true,K.k,false,K.w - 1⟩,some .len,?_,aX.2 V,?_⟩)
          .obtain⟨a8,a9,bb,w3⟩:=K;obtain⟨g1,g2,U,aj,be,al⟩:=ag;simp only at g1 g2 U aj;subst g1 g2 U;have bg:w3<134217728:=al;have e:(⟨false,false,true,w3⟩:M4).num+(-11)=((8*(w3 - 1)+1:Nat):Int):=by simp only[M4.num,qV,qM];omega
           rw[e,Gk (by omega)];simp only[M4.num,qV,qM];omega
          exact C 2 V (a0 X O ap _ V)
         .have hex:(!true || m.w==1)=false:=by rw[d1];simp;omega
          rw[hex];refine C 5 V (JL.uA V V ?_);refine C 1 V (HO (kk:=kk) (p:=.EY false) (dl:= -7) O Z V V V V V HY V V λK a4 ag=>⟨⟨true,K.k,true,K.w - 1⟩,some .len,?_,aX.2 V,?_⟩)
          .obtain⟨a8,a9,bb,w3⟩:=K;obtain⟨g1,g2,U,aj,be,al⟩:=ag;simp only at g1 g2 U aj;subst g1 g2 U;have bg:w3<134217728:=al;have e:(⟨false,false,true,w3⟩:M4).num+(-7)=((8*(w3 - 1)+5:Nat):Int):=by simp only[M4.num,qV,qM];omega
           rw[e,Gk (by omega)];simp only[M4.num,qV,qM];omega
          exact C 2 V (a0 X O ap _ V)
       .refine⟨some (.CN true true 0 m),by simp[Fam.Ci,ac],?_⟩;refine C 2 V ?_;have bi:m.s=false:=by simpa using ac
        refine C 4 V (Ao (v:=Dv (BP m&&& 4)) V (λρ h=>Fi (c:=4) ai (h _ _ V) (h _ _ V) (by decide)) ?_);refine Ao (v:=.bool false) V (λρ h=>Yl.to (Io (h _ _ V) (h _ _ V)) (by rw[(Iw m).2 bi];rfl)) (C 11 V ?_);refine JL.again ?_;rw[← a5];exact EW [(0,.pointer (some F.uA)),(2,iV wt),(3,.bool true),(4,.bool true),(5,iV ((0:Nat):Int)),(6,.int .i32 (m:M4).num)] V (b5 (true,true,0,m,wt) ⟨λ_=>aq.2.1 bi,rl _,a7⟩)
   .refine JL.done (C 4 V ?_);refine JL.uA V V (HR (kk:=kk) (p:=.EZ sv aw it) O Z V V V V V HL I2 V λa6 cw bo=>⟨some (.CN sv aw it a6),aX.2 V,?_⟩);refine C 3 V (JL.again ?_);rw[← a5];exact EW [(0,.pointer (some F.uA)),(2,iV wt),(3,.bool sv),(4,.bool aw),(5,iV (it:Int)),(6,.int .i32 (a6:M4).num)] V (b5 (sv,aw,it,a6,wt) ⟨bo.2.2.2,b1.2.1,bo.2.2.1⟩)
 exact λa ck=>key 5 a (by omega) ck
set_option maxHeartbeats 4000000 in
theorem YC(K:s.q=false)(O:ops[i]?=some ⟨d,.call ⟨.value (.func 107),#[x],ats⟩,ty,pp,af,g⟩)(hw:A3 L ops ⟨d,.call ⟨.value (.func 107),#[x],ats⟩,ty,pp,af,g⟩=some true)(U:((b.kind != .early)&&BA n d)=true)(Y:ev L x=some (.pointer (some F.uA)))
  (h:JL (Bd Tryz.prog false) (Stop Tryz.prog F (.lk kk .Gr)) b n (AE L d (.tuple #[])) ds (.inRegion ops rest::k) cs s):
  JL (Bd Tryz.prog false) (Stop Tryz.prog F (.lk kk .GQ)) b n L ds (.inRegion ops (i::rest)::k) cs s:=by
 refine HQ (vs:=[.pointer (some F.uA)]) O hw U Tryz.func107 (by decide+kernel) V (by simp[evs,Y]) (qN V) λac back=>C 2 V (Mf (kk:=kk) (p:=.GQ) DF.stop K V (λ_ _=>V) V V V V (by simp) Xn ?_);refine C 6 V (JL.uA V V ?_);refine UE (kk:=kk) (p:=.HZ) (old:=M4.zero) (nw:=⟨true,false,false,0⟩) DF.stop K V V V V V PX V V V (λq Z=>⟨some .len,by simp[Fam.Ci],?_⟩) (λm q hm Z=>⟨some (.EZ false false 0),by simp[Fam.Ci,hm],?_⟩);refine JL.done (C 5 V ?_);refine Mf (kk:=kk) (p:=.len) DF.stop K V (λ_ _=>V) V V V V (by simp) Qm (C 3 V ?_);refine QZ (kk:=kk) (p:=.LK) DF.stop K V (λ_ _=>V) V V V V Tryz.underlying223 Tryz.underlying150 Rr V (Rt (kk:=kk) (p:=.KR) (ad:=F.uA) DF.stop K V (λ_ _=>V) V V V V (by simp) Xb V V ?_);exact JL.done (JL.ret V V (BK.none Tryz.func107 V) (back _ _ _ _ h));refine JL.done (C 4 V ?_);refine YW (kk:=kk) K V V V V (JL.done ?_);exact JL.fin V V (BK.none Tryz.func107 V) (back _ _ _ _ h)
set_option maxHeartbeats 4000000 in
theorem Zh(K:s.q=false)(O:ops[i]?=some ⟨d,.call ⟨.value (.func 74),#[x],ats⟩,ty,pp,af,g⟩)(hw:A3 L ops ⟨d,.call ⟨.value (.func 74),#[x],ats⟩,ty,pp,af,g⟩=some true)(U:((b.kind != .early)&&BA n d)=true)(Y:ev L x=some (.pointer (some F.uA)))
  (h:JL (Bd Tryz.prog false) (Stop Tryz.prog F (.lk kk .Gr)) b n (AE L d (.tuple #[])) ds (.inRegion ops rest::k) cs s):
  JL (Bd Tryz.prog false) (Stop Tryz.prog F (.lk kk .GQ)) b n L ds (.inRegion ops (i::rest)::k) cs s:=by
 refine HQ (vs:=[.pointer (some F.uA)]) O hw U Tryz.func74 (by decide+kernel) V (by simp[evs,Y]) (qN V) λZ back=>C 3 V (Ao (v:=.pointer (some F.uA)) V (λρ h=>Ep (a:=F.uA) 1 0 Tryz.underlying122 (A5 Tryz.type120) V V V (h _ _ V)) ?_);refine YC (kk:=kk) K V V V V (JL.done ?_);exact JL.fin V V (BK.none Tryz.func74 V) (back _ _ _ _ h)
def Jj(m:M4):LP:=if m.l=false/\m.k=false/\m.s=false/\m.w≠0 then .FC m else .FW
def Sx(m:M4):LP:=if m.s=true then .FT true else if m.k=false/\m.w≠0 then .FC {m with l:=false} else .FW
set_option maxHeartbeats 4000000 in
theorem Yi{Z:Operand}{nw:M4}(U:s.q=false)(a4:ops[i]?=some ⟨d,.call ⟨.value (.func 141),#[x,Z],ats⟩,ty,pp,af,g⟩)(hw:A3 L ops ⟨d,.call ⟨.value (.func 141),#[x,Z],ats⟩,ty,pp,af,g⟩=some true)(a5:((b.kind != .early)&&BA n d)=true)(a6:ev L x=some (.pointer (some F.uA)))(a7:ev L Z=some (.int .i32 nw.num))(ai:nw.l=false)(a8:DU nw)(ac:CO nw)
  (h:JL (Bd Tryz.prog false) (Stop Tryz.prog F (.lk kk .FW)) b n (AE L d (.tuple #[])) ds (.inRegion ops rest::k) cs s):
  JL (Bd Tryz.prog false) (Stop Tryz.prog F (.lk kk (if nw.s=true then .FT true else if nw.k=false/\nw.w≠0 then .FC nw else .FW))) b n L ds (.inRegion ops (i::rest)::k) cs s:=by
 refine HQ (vs:=[.pointer (some F.uA),.int .i32 nw.num]) a4 hw a5 Tryz.func141 (by decide+kernel) V (by simp[evs,a6,a7]) (qN V) λaj back=>C 4 V (Ao (v:=.int .i32 ({nw with l:=true}:M4).num) V (λρ h=>cT ac ai (h _ _ V) (h _ _ V)) ?_);refine Ao (v:=Dv (BP ({nw with l:=true}:M4)&&& 1)) V (λρ h=>Fi (c:=1) (m:={nw with l:=true}) ac (h _ _ V) (h _ _ V) (by decide)) (Ao (v:=.bool false) V (λρ h=>Yl.to (Yl.eql (h _ _ V) (h _ _ V)) (by rw[qX (λe=>by have q:=(Sb _).1 e;cases q)])) ?_);refine C 6 V (Ao (v:=Dv (BP nw&&& 4)) V (λρ h=>Fi (c:=4) ac (h _ _ V) (h _ _ V) (by decide)) ?_);refine C 2 V (GY (p:=((BP nw&&& 4:Nat):Int)=0) V (λc=>?_) (λc=>?_))
 .have al:=(Iw nw).1 c;rw[d7 (by rw[al];exact so)];refine C 6 V ?_;refine IV ?_;refine EW [(0,.pointer (some F.uA)),(4,.int .i32 nw.num)] V ?_;refine Xd λam ap=>?_;have a9:(if nw.k=false/\nw.w≠0 then LP.FC nw else .FW)=Jj nw:=by unfold Jj;rw[ai,al];simp
  rw[a9];refine WU (P:=Tryz.prog) (F:=F) (s:=s) (kk:=kk) (ph:=λm=>LP.FC m) (ok:=DU) (head:=λ(X:Ph->GP) (a:M4)=>JL (Bd Tryz.prog false) (X (.lk kk (Jj a))) (base 141) Tryz.f141.ntmps ([(0,.pointer (some F.uA)),(4,.int .i32 (a:M4).num)]) [] am (aj::cs) s) ?_ nw a8;intro Y b0 aq hC old aw;have K:CO old:=aw.CO;show JL (Bd Tryz.prog false) (Y (.lk kk (Jj old))) (base 141) Tryz.f141.ntmps [(0,.pointer (some F.uA)),(4,.int .i32 old.num)] [] am (aj::cs) s;rw[ap];refine C 5 V (Ao (v:=Dv old.w) V (λρ h=>Jt K (h _ _ V) (h _ _ V)) ?_);refine C 2 V (MZ (q:=(old.w:Int)=0) (i:=17) V (λc2=>?_) (λc2=>?_))
  .have O:Jj old=.FW:=by unfold Jj;rw[d7 (λe=>e.2.2.2 (by omega))]
   refine C 6 V ?_;rw[O];exact JL.ret V V (BK.none Tryz.func141 V) (back _ _ _ _ (Oy (λg s=>aq _ g s) h))
  .refine Ao (v:=.int .i32 (old:M4).num) V (λρ h=>Yl.move (h _ _ V)) (Ao (v:=Dv (BP old&&& 7)) V (λρ h=>Fi (c:=7) K (h _ _ V) (h _ _ V) (by decide)) ?_);refine C 3 V (GY (p:=((BP old&&& 7:Nat):Int)≠0) V (λc3=>?_) (λc3=>?_))
   .have O:Jj old=.FW:=by unfold Jj;rw[d7 (λe=>c3 ((W2 old).2 ⟨e.1,e.2.1,e.2.2.1⟩))]
    rw[O];exact JL.ret V V (BK.none Tryz.func141 V) (back _ _ _ _ (Oy (λg s=>aq _ g s) h))
   .have bb:=(W2 old).1 (th.1 c3);obtain⟨l0,b1,b2,w0⟩:=old;obtain⟨z1,a0,a1⟩:=bb;simp only at z1 a0 a1 c2;subst z1 a0 a1;have a2:w0≠0:=by omega
    have O:Jj ⟨false,false,false,w0⟩=.FC ⟨false,false,false,w0⟩:=by unfold Jj;rw[d0 ⟨rfl,rfl,rfl,a2⟩]
    rw[O];refine C 4 V (Ao (v:=.int .i32 (⟨false,false,false,w0 - 1⟩:M4).num) V (λρ h=>cW (m:=⟨false,false,false,w0⟩) K a2 (h _ _ V) (h _ _ V)) ?_);refine Ao (v:=.int .i32 (⟨false,true,false,w0 - 1⟩:M4).num) V (λρ h=>Pl (c:=2) (m:=⟨false,false,false,w0 - 1⟩) (by unfold CO at K ⊢;simp only at K ⊢;omega) (by decide) (SG _) V (h _ _ V) (h _ _ V)) (C 7 V ?_);refine JL.uA V V (C 2 V ?_);refine λT be=>(Bd Tryz.prog false).stop (hC ⟨false,false,false,w0⟩ _ aw λX b3 bg a3 bi bo=>?_);refine Q9 (kk:=kk) (p:=.FC ⟨false,false,false,w0⟩) (old:=⟨false,false,false,w0⟩) (nw:=⟨false,true,false,w0 - 1⟩) bg U V V V V V PX V V V (λq bv=>⟨some (.FT false),by simp[Fam.Ci],?_⟩) (λm q hm bv=>⟨some .H0,by simp[Fam.Ci,hm],?_⟩) T be;refine JL.done (C 5 V ?_);refine Ao (v:=.pointer (some F.qA)) V (λρ h=>Ep (a:=F.uA) 0 1 Tryz.underlying120 Ob V V V (h _ _ V)) (TN (kk:=kk) (st:=false) a3 U V V V V V5 V V ?_);exact JL.done (JL.ret V V (BK.none Tryz.func141 V) (back _ _ _ _ (Oy (λg s=>bi _ g s) h)));refine JL.done (C 5 V ?_);refine JL.uA V V (HR (kk:=kk) (p:=.H0) a3 U V V V V V HL ju V λag b4 bw=>⟨some (Jj ag),aX.2 V,?_⟩);refine C 3 V (JL.again ?_);rw[← ap];exact EW [(0,.pointer (some F.uA)),(4,.int .i32 ag.num)] V (bo ag bw)
 .have bx:nw.s=true:=by rcases tI nw.s with hh | hh;exact hh;exact absurd ((Iw nw).2 hh) c
  rw[d0 bx];refine C 3 V (Ao (v:=.pointer (some F.qA)) V (λρ h=>Ep (a:=F.uA) 0 1 Tryz.underlying120 Ob V V V (h _ _ V)) ?_);refine TN (kk:=kk) (st:=true) DF.stop U V V V V V5 V V (JL.done ?_);exact JL.fin V V (BK.none Tryz.func141 V) (back _ _ _ _ h)
set_option maxHeartbeats 4000000 in
theorem XU(K:s.q=false)(ag:ops[i]?=some ⟨d,.call ⟨.value (.func 108),#[x],ats⟩,ty,pp,af,g⟩)(hw:A3 L ops ⟨d,.call ⟨.value (.func 108),#[x],ats⟩,ty,pp,af,g⟩=some true)(ai:((b.kind != .early)&&BA n d)=true)(aj:ev L x=some (.pointer (some F.uA)))
  (h:JL (Bd Tryz.prog false) (Stop Tryz.prog F .IG) b n (AE L d (.tuple #[])) ds (.inRegion ops rest::k) cs s):
  JL (Bd Tryz.prog false) (Stop Tryz.prog F (.lk kk .Hp)) b n L ds (.inRegion ops (i::rest)::k) cs s:=by
 refine HQ (vs:=[.pointer (some F.uA)]) ag hw ai Tryz.func108 (by decide+kernel) V (by simp[evs,aj]) (qN V) λa0 back=>C 6 V (JL.uA V V ?_);refine HR (kk:=kk) (p:=.Hp) DF.stop K V V V V V HL iL V λa1 a2 a3=>⟨some .K1,aX.2 V,?_⟩;refine C 4 V (QZ (kk:=kk) (p:=.K1) DF.stop K V (λ_ _=>V) V V V V Tryz.underlying223 Tryz.underlying150 Rr V ?_);refine Rt (kk:=kk) (p:=.KZ) (ad:=F.uA) DF.stop K V (λ_ _=>V) V V V V (by simp) jB V V (C 2 V ?_);refine Mf (kk:=kk) (p:=.KT) DF.stop K V (λ_ _=>V) V V V V (by simp) Xn (C 5 V ?_);refine JL.uA V V (HO (kk:=kk) (p:=.IA) (dl:= -1) DF.stop K V V V V V HY V V λm q Y=>⟨{m with l:=false},some (Sx m),?_,aX.2 V,?_⟩)
 .obtain⟨al,O,U,w3⟩:=m;obtain⟨g1,am⟩:=Y;simp only at g1;subst g1;have a4:w3<134217728:=am;have a5:=ta O;have a6:=ta U;have e:(⟨true,O,U,w3⟩:M4).num+(-1)=((2*O.toNat+4*U.toNat+8*w3:Nat):Int):=by simp only[M4.num,qV];omega
  rw[e,Gk (by omega)];simp only[M4.num,qM];omega
 .have Z:DU m:=Y.2;have ap:CO ({m with l:=false}:M4):=(show DU ({m with l:=false}:M4) from Z).CO;refine C 8 V ?_;refine GY (p:=({m with l:=false}:M4).num≠0) V (λc=>?_) (λc=>?_);refine JL.region (C 2 V ?_);refine Yi (kk:=kk) (nw:={m with l:=false}) K V V V V V V Z ap (C 2 V ?_);refine Mf (kk:=kk) (p:=.FW) DF.stop K V (λ_ _=>V) V V V V (by simp) Qm (JL.done ?_);exact JL.fin V V (BK.none Tryz.func108 V) (back _ _ _ _ h)
  .have aq:({m with l:=false}:M4).num=0:=th.1 c;have ac:m.k=false/\m.s=false/\m.w=0:=by
    obtain⟨al,O,U,w3⟩:=m;cases O<;>cases U<;>simp[M4.num] at aq ⊢<;>omega
   have aw:Sx m=.FW:=by unfold Sx;rw[d7 (by rw[ac.2.1];exact so),d7 (λe=>e.2 ac.2.2)]
   rw[aw];refine C 2 V (Mf (kk:=kk) (p:=.FW) DF.stop K V (λ_ _=>V) V V V V (by simp) Qm ?_);exact JL.done (JL.fin V V (BK.none Tryz.func108 V) (back _ _ _ _ h))
theorem JO.bO{M:Env}(K:b.roundOf=none)(O:s.q=false)(h:JO (Bd Tryz.prog false) (Stop Tryz.prog F .IG) b n M ds cs s):
  JO (Bd Tryz.prog false) (Stop Tryz.prog F (.lk kk .Hp)) b n M (dcall 75 #[.pointer (some F.uA)]::ds) cs s:=by
 refine JO.enter (vs:=[.pointer (some F.uA)]) K Tryz.func75 (by decide+kernel) V (qN V) λT U todo=>C 3 V (Ao (v:=.pointer (some F.uA)) V (λρ h=>Ep (a:=F.uA) 1 0 Tryz.underlying122 (A5 Tryz.type120) V V V (h _ _ V)) ?_);refine XU (kk:=kk) O V V V V (JL.done ?_);exact JL.out V (JO.leaveD V Tryz.func75 V (.inl V) (h T U todo))
end Pal
namespace Pal
open Go Go.Conc
open Go.ConcN (upd)
variable {ops:Ao_}{i:Nat}{rest:List Nat}{d:Option Tmp}{f:FuncId}{ats:Array TypeId}{ty t u tw:TypeId}{pp:String}{af:Ae_}{g:On_}{kk:Nat}
variable{w:World}
section
variable {P:Program}{F:Fam}{n:Nat}{L L':Env}{ds:Ld_}{k:Li_}{cs:Lf_}{s s':St}{b:Frame}
variable {x y z:Operand}
theorem X0{m:Nat}(h:Bz P t=some m)(w:World):(Go.sizeOf t).run P w=.ok m w:=by
 unfold Bz at h;simp only[Go.sizeOf,typeInfo,bind,Sem.bind,program,Sem.run];cases hi:P.info? t with
 | none=>rw[hi] at h;cases h
 | some j=>rw[hi] at h;simp at h;subst h;rfl
theorem dJ{K:Nat->Value}(h:F.FD w K)(O:kk<F.n):w.cell? ⟨F.fd,kk,none⟩=some (K kk)/\w.frozen? ⟨F.fd,kk,none⟩=false:=by
 unfold Fam.FD Fam.Jg at h;constructor;simp[World.cell?,h,O];simp[World.frozen?,h]
theorem Yu{O:Nat->Value}{v:Value}(h:F.FD w O)(ac:kk<F.n):w.setCell ⟨F.fd,kk,none⟩ v=F.H3 w (upd O kk v):=by
 unfold Fam.H3 World.setCell;congr 1;apply rC;intro i;unfold Fam.FD Fam.Jg at h;rw[se];have U:F.fd<w.heap.size:=by
  rcases f7 F.fd w.heap.size with K | K;exact K;simp[qQ K] at h
 by_cases e:F.fd=i;subst e;rw[qJ U,h];simp only[rH,rZ,Fam.Jg,ry,Obj.cells.injEq,uk];apply Array.ext;simp;intro j ag Y;by_cases e2:kk=j;subst e2;simp[upd];have Z:¬j=kk:=λe=>e2 e.symm;simp[upd,Z];rw[Array.getElem_setIfInBounds (by simpa using Y),d7 e2];simp;rw[f6 e,d7 e]
theorem Ym{X:Ph->GP}(ap:DF P F X){a:Option Addr}{l c:Nat}(aq:s.q=false)(Y:kk<F.n)
  (aw:ops[i]?=some ⟨d,.store t x y,ty,pp,af,g⟩) (Z:b.roundOf=none) (hw:A3 L ops ⟨d,.store t x y,ty,pp,af,g⟩=some true) (U:((b.kind != .early)&&BA n d)=true)
  (a0:Bz P t=some 1) (a1:(P.funcs[b.fn]?).any (·.norace)=false) (a2:ev L x=some (.pointer (some ⟨F.fd,kk,none⟩))) (a3:ev L y=some (.slice a l c)) (hm:F.msg kk (.slice a l c) s.E)
  (h:JL (Bd P false) (X (.lk kk .Hp)) b n (AE L d undef) ds (.inRegion ops rest::k) cs s):
  JL (Bd P false) (X (.lk kk .Gr)) b n L ds (.inRegion ops (i::rest)::k) cs s:=λT K=>by
 simp only[eM] at U
 refine(Bd P _).stop (ap _ _ _ {
  run:=rfl,offers:=rfl,quiet:=(by simp[Fam.Dr]),live:=λ_=>aq,act:=(by simp[Fam.act]),JE:=(by simp),FU:=(by simp),go:=(by simp),lk:=λk' l e a4=>by cases e;exact absurd rfl a4
  C9:=(by simp),store:=λk' e=>?_,fin:=(by simp)})
 cases e
 refine⟨_,hm,G (fr b (Dl T d undef) ds (.inRegion ops rest::k)) cs,rfl,λw a5 ac=>?_,h _ (K.put U.2 _)⟩
 let⟨c1,c2⟩:=dJ ac Y
 have ag:execOp (⟨T,ds⟩:Act).eval ⟨d,.store t x y,ty,pp,af,g⟩=(do Instr.storeAt t (.pointer (some ⟨F.fd,kk,none⟩)) (.slice a l c);pure Next.skip):=by
  rw[LY];simp only[execOp,K.ev a2,K.ev a3]
 have ai:(Value.slice a l c).cells=#[.slice a l c]:=rfl;have aj:(Value.slice a l c).oneCell'=true:=rfl;have al:(Addr.add ⟨F.fd,kk,none⟩ 0)=⟨F.fd,kk,none⟩:=by rw[EG rfl];rfl
 have am:=X0 (P:=P) a0 w;have O:=run_store P w ⟨F.fd,kk,none⟩ (.slice a l c) .plain aj;rw[c1] at O;simp only[c2,qP,rr] at O;rw[B3 Z,B3 Z,stepG_none (a:=⟨T,ds⟩) (w':=F.H3 w (upd a5 kk (.slice a l c))) aw (Cr K hw) (by simpa using U.1) (by
  rw[ag]
  simp[Instr.storeAt,Instr.sureAddr,storeVar,ai,am,storeCells,al,O,Yu ac Y,Result.andThen]),EU]
 have e2:listed P b.fn ⟨T,ds⟩ ⟨d,.store t x y,ty,pp,af,g⟩ w=#[⟨.cell ⟨F.fd,kk,none⟩,true,false⟩]:=by
  unfold listed;rw[ag];have a6:=events_store (P:=P) (w:=w) (es:=#[]) ⟨F.fd,kk,none⟩ (.slice a l c) .plain aj;have a7:(do Instr.storeAt t (.pointer (some ⟨F.fd,kk,none⟩)) (.slice a l c);pure Next.skip:Sem Next).events P w #[]=#[⟨.cell ⟨F.fd,kk,none⟩,true,false⟩]:=by
   simp[Instr.storeAt,Instr.sureAddr,storeVar,ai,am,storeCells,al,O,c1,c2,a6,Result.evThen]
  rw[a7,seen_def];simp[seenStep,a1]
 rw[e2]
end
end Pal
namespace Pal
open Go Go.Conc Go.Proofs
open Go.Proofs.Tryz
open Go.Conc.Lib Go.ConcR.Gen
theorem iS:(Tryz.prog.funcs[70]?).any (·.norace)=false:=by rw[func70];rfl
def JI(fu_:Nat)(K:A0)(p:AB)(j:Nat):Option (List Int):=
 (f120 fu_ K).bind λO=>
 (f119 fu_ ([O]:List (List (A7))) ((j:Nat):Int) p ([]:List ((Nat×AZ)×Bool))).bind λU=>
 some U.1
variable{F:Fam}{Z ac ai aj c2 fu_ j kf:Nat}{a1 ap:Ap}{p:AB}{O:A0}
set_option maxHeartbeats 1000000 in
theorem gm{E:LH}{al:Ap}{am op ag oi off:Nat}(a3:At E ac op [.slice ap p.length Z])(a4:Am Ay E ap Z p)(a5:At E ag ai [sV a1 O.1 c2,sV al O.2 am])(a6:Am (rL rI) E a1 c2 O.1)(a7:Am Ay E al am O.2)(hi:At E aj oi [iV ((j:Nat):Int)])(a8:At E kf off [.slice (some ⟨F.fd,0,none⟩) F.n F.n]){r:List Int}(a0:JI fu_ O p j=some r)(hj:j<F.n)(a9:∀E' a c,Le E E'->Am rI E' a c r->(r=[]->a=none)->F.msg j (.slice a r.length c) E'):
  Way Tryz.prog false (Stop Tryz.prog F (F.start j)) (born Tryz.prog ⟨.fn (.func 70) [.pointer (some F.sA),Ar ac op,Ar ag ai,Ar aj oi,.pointer (some F.uA),Ar kf off].toArray,#[]⟩) ⟨E,λ_=>none,false⟩:=by
 refine bp (fn:=Tryz.f70) (vs:=[.pointer (some F.sA),Ar ac op,Ar ag ai,Ar aj oi,.pointer (some F.uA),Ar kf off]) func70 (by decide+kernel) V (by simp) (qN V) ?_;obtain⟨H,bb⟩:∃H:LH,H=λ_=>none:=⟨_,V⟩;rw[← bb];have be:Au E H []:=trivial;refine(?_:JL (Bd Tryz.prog false) (Stop Tryz.prog F (.lk j .GQ)) (baseD 70) Tryz.f70.ntmps (G0 0 [.pointer (some F.sA),Ar ac op,Ar ag ai,Ar aj oi,.pointer (some F.uA),Ar kf off]) [] [.code _] [MA Tryz.prog] (Ak E H []));unfold JI at a0;refine C 2 V (JL.defer (vs:=[.pointer (some F.sA)]) V V V V V ?_);refine C 3 V (CJ 0 a3 BS V V V ?_);refine JS.makeMap V V V be λr1 bg=>Ao (v:=.agg #[sV ap p Z,.map (some r1)]) V (λρ h=>Dk [(0,1),(1,1)] h (Eg type133) underlying133 ⟨V,A5 type93,V,A5 type131,trivial⟩ V V) (JS.box (v:=.agg #[sV ap p Z,.map (some r1)]) V V V bg V λct bi=>?_);refine C 3 V (C8 1 bi V λcw K bo bv=>?_);refine Ei 5 λaq=>Dt 0 aq V V (GK 1 aq (a5.Ag K) F1 Ee V V V ?_);refine CY 4 aq 0 (hi.Ag K) AV V V V V ?_;let⟨a2,bw,bx⟩:=bs a0;refine JG.call (i:=2) (vs:=[.agg #[sV a1 O.1 c2,sV al O.2 am]]) (gG (a6.Ag K) (a7.Ag K) bw) (by decide+kernel) V V V (A4 func73 V) V bv ?_;rintro _ cy _ U ⟨b0,b1,rfl,rfl,b2⟩ b3;refine JG.one (i:=3) V (by decide+kernel) (Take.DL (pp:=(rL (rM rI false rI false))) [sV b0 a2 b1] ([a2]:List (List A7)) b3 V V V underlying138 Kv N7 (by decide) V V V ⟨⟨_,_,V,b2⟩,trivial⟩ λc0 c1 b4 b5=>?_);refine Cn [5,6] (BO 3 b4 b5 V λc3 Y b6 ca=>?_);let⟨cc,ce,ci⟩:=bs bx;refine Cw 0 (dQ b6 (bo.Ag (U.Ad Y)) (a4.Ag ((K.Ad U).Ad Y)) B5.nil ce) V V (A4 func72 V) ca V ?_;rintro _ c4 _ aw ⟨c5,c6,c7,rfl,rfl,ck,co,c8⟩ c9;refine C 3 V ?_;have cp:r=cc.1:=(ep ci).symm;subst cp;refine JL.region (Zh (kk:=j) V V V V V ?_);refine C 3 V (JL.defer (vs:=[.pointer (some F.uA)]) V V V V V ?_);refine C 2 V (CJ 0 (a8.Ag (((K.Ad U).Ad Y).Ad aw)) Ed V V V ?_);refine CJ 0 (hi.Ag (((K.Ad U).Ad Y).Ad aw)) AV V V V (C 1 V ?_);refine Ao (v:=Ar F.fd j) V (λρ h=>Yl.to (Gj (xs:=List.replicate F.n ()) (m:=((j:Nat):Int)) (xv:=()) (sf) (by simp[ix,hj]) underlying22 CE (h _ _ V) (h _ _ V)) (by show Ar F.fd (j*1)=_;rw[Nat.mul_one])) (Ym (kk:=j) DF.stop V hj V V V V CE iS V V (a9 _ _ _ (((K.Ad U).Ad Y).Ad aw) ck co) ?_);exact JL.done (JL.out V (JO.bO (kk:=j) V V (JO.iy Tryz.Lq V V (JO.leaveD V func70 V (.inr V) YB))))
variable{c:Nat}
theorem OL.fU{e:TypeId}{E:LH}{r:Nat}{seg:Seg}{xs:Lv_}(h:OL e rV E (Bh r) c seg xs)(Y:c=xs.length):seg=[(r,.cells xs.toArray e (0,0))]:=by
 obtain⟨wss,ag,K,Z⟩:=h;rcases ag with⟨ai,_⟩ | ⟨bk,f,aj,e2,ac,al,O⟩;cases ai
 cases aj;have hw:wss=xs.map λx=>[x]:=by
  apply r7;intro i;rw[rf];cases U:xs[i]? with
  | none=>rw[rb (by rw[K];exact List.getElem?_eq_none_iff.1 U)];rfl
  | some x=>
   have hi:i<wss.length:=by rw[K];exact(dY.1 U).1
   have:=(Z i x wss[i] U (bI hi)).1;rw[bI hi,this];rfl
 have am:wss.flatten=xs:=by
  rw[hw];clear hw O Z K ac al Y
  induction xs with
  | nil=>rfl
  | cons x xs ap=>simp[ap]
 rw[am] at O;have aw:rV.n=1:=V;have aq:f.toList=xs:=by
  rw[O];rw[sa (by rw[tY,ac,Y];exact qH _)]
 rw[e2,← aq]
noncomputable def Lu:Code:=match(Tryz.f44.body).bind (Kd 0) with | some (.loop c)=>c | _=>.skip
noncomputable def Xs:Code:=match(Tryz.f44.body).bind (Kd 2) with | some (.loop c)=>c | _=>.skip
variable{n:Nat}{ag:Ap}{xs:Nat->List Int}{H:LH}{k:Li_}{cs:Lf_}
set_option maxHeartbeats 1000000 in
theorem cK(am:F.n=n)(bx:0<n)(b0:n<=1000){E:LH}(aq:Am Ay E ap ai p)(aw:Am (rL rI) E a1 c2 O.1)(a0:Am Ay E ag aj O.2)(hlen:p.length=n){Y:Nat}(a2:At E Y 0 [.slice ap p.length ai])(a3:At E Z 0 [sV a1 O.1 c2,sV ag O.2 aj])(a4:At E kf 0 [.slice (some ⟨F.fd,0,none⟩) F.n F.n])(a5:∀j,j<n->JI fu_ O p j=some (xs j))(a6:∀j,j<n->∀E' a c,Am rI E' a c (xs j)->(xs j=[]->a=none)->F.msg j (.slice a (xs j).length c) E')(hj:j<n){ac:LH}(hle:Le E ac)(a7:Au ac H [])
  (h:∀U,Le E U->Au U H []->JL (Bd Tryz.prog true) (Stop Tryz.prog F (F.Fp j)) (base 44) Tryz.f44.ntmps [(2,Ar Z 0),(3,Ar Y 0),(6,.pointer (some F.uA)),(7,.pointer (some F.sA)),(8,Ar kf 0),(19,iV (p.length:Int)),(20,iV ((j+1:Nat):Int))] [] (.inLoop Lu::k) cs (Ak U H [])):
  JL (Bd Tryz.prog true) (Stop Tryz.prog F (.G5 j)) (base 44) Tryz.f44.ntmps [(2,Ar Z 0),(3,Ar Y 0),(6,.pointer (some F.uA)),(7,.pointer (some F.sA)),(8,Ar kf 0),(19,iV (p.length:Int)),(20,iV ((j:Nat):Int))] [] (.code Lu:: .inLoop Lu::k) cs (Ak ac H []):=by
 refine C 2 V (Ao (v:=.bool true) V (λρ h=>Yl.to (Yl.lss (h _ _ V) (h _ _ V)) (by rw[qR (show((j:Nat):Int)<(p.length:Int) by omega)])) ?_);refine C 9 V (BZ a7 BR λrn a8=>?_);refine JS.sx 0 a8 Av λa9=>?_;refine C8 0 a9 V λU bb be bg=>Il (S':=[]) (by simp) bg λbi=>?_;have K:=hle.trans bb;refine C 3 V (Zd Tryz.Lq V V V V V V ?_);refine C 2 V (Ao (v:=.func (.func 70) #[] ([.pointer (some F.sA),Ar Y 0,Ar Z 0,Ar rn 0,.pointer (some F.uA),Ar kf 0]:Lv_).toArray) V (λρ h=>L3 (by simp) (by simp[h (.tmp 7) _ rfl,h (.tmp 3) _ rfl,h (.tmp 2) _ rfl,h (.tmp 9) _ rfl,h (.tmp 6) _ rfl,h (.tmp 8) _ rfl])) ?_);have al:=gm (F:=F) (j:=j) (a2.Ag K) (aq.Ag K) (a3.Ag K) (aw.Ag K) (a0.Ag K) be (a4.Ag K) (a5 j hj) (by rw[am];exact hj) (λE' a c _ bo bv=>a6 j hj E' a c bo bv);refine dX (fi:=#[]) V V V V V V V (by first | exact al | (simp only[List.append_toArray,rG,tC,Array.empty_append];exact al)) ?_
 refine C 3 V ?_;have bw:Az (((j:Nat):Int)+1)=some (((j+1:Nat)):Int):=by unfold Az;rw[d0 (by omega)];simp
 refine Bw bw V V V (C 2 V ?_);exact AD (h U K bi) V
theorem Yk(Y:F.n=n)(aq:0<n)(aw:n<=1000){E:LH}(a0:Am Ay E ap ai p)(a2:Am (rL rI) E a1 c2 O.1)(a3:Am Ay E ag aj O.2)(hlen:p.length=n)(a4:At E Z 0 [.slice ap p.length ai])(a5:At E ac 0 [sV a1 O.1 c2,sV ag O.2 aj])(a6:At E kf 0 [.slice (some ⟨F.fd,0,none⟩) F.n F.n])(a7:∀j,j<n->JI fu_ O p j=some (xs j))(a8:∀j,j<n->∀E' a c,Am rI E' a c (xs j)->(xs j=[]->a=none)->F.msg j (.slice a (xs j).length c) E')
  (h:∀K,Le E K->Au K H []->JL (Bd Tryz.prog true) (Stop Tryz.prog F .Et) (base 44) Tryz.f44.ntmps [(2,Ar ac 0),(3,Ar Z 0),(6,.pointer (some F.uA)),(7,.pointer (some F.sA)),(8,Ar kf 0),(19,iV (p.length:Int)),(20,iV (p.length:Int))] [] (.code Lu:: .inLoop Lu::k) cs (Ak K H [])):
  ∀(m j:Nat),j+m=n->0<m->∀U,Le E U->Au U H []->JL (Bd Tryz.prog true) (Stop Tryz.prog F (.G5 j)) (base 44) Tryz.f44.ntmps [(2,Ar ac 0),(3,Ar Z 0),(6,.pointer (some F.uA)),(7,.pointer (some F.sA)),(8,Ar kf 0),(19,iV (p.length:Int)),(20,iV ((j:Nat):Int))] [] (.code Lu:: .inLoop Lu::k) cs (Ak U H []):=by
 intro m
 induction m with
 | zero=>intro j _ a9;cases a9
 | succ m bb=>
  intro j bi _ U hle be;refine cK Y aq aw a0 a2 a3 hlen a4 a5 a6 a7 a8 (by omega) hle be λK al am=>JL.again ?_;by_cases hm:m=0
  .subst hm;have bg:j+1=F.n:=by rw[Y];omega
   have e:F.Fp j=.Et:=by unfold Fam.Fp;rw[d0 bg]
   rw[e];have e2:((j+1:Nat):Int)=(p.length:Int):=by rw[hlen];omega
   rw[e2];exact h K al am
  .have e:F.Fp j=.G5 (j+1):=by unfold Fam.Fp;rw[d7 (by rw[Y];omega)]
   rw[e];exact bb (j+1) (by omega) (by omega) K al am
def Ki(fu_:Nat)(K:A0)(p:AB)(j:Nat):List Int:=(JI fu_ K p j).getD []
def Mn(n:Nat)(xs:Nat->List Int):(List Int)×Bool:=match(List.range n).find? (λj=> !(xs j).isEmpty) with | some j=>(xs j,true) | none=>([],false)
def f77(fu_:Nat)(K:A0)(p:AB):Option ((List Int)×Bool):=if p.length=0 then some ([],true) else if p.length<=1000/\(List.range p.length).all (λj=>(JI fu_ K p j).isSome)=true then some (Mn p.length (Ki fu_ K p)) else none
theorem YH{i:Nat}(hi:i<n)(K:xs i≠ [])(O:∀k,k<i->xs k=[]):Mn n xs=(xs i,true):=by
 unfold Mn;have:(List.range n).find? (λj=> !(xs j).isEmpty)=some i:=by
  rw[um];refine⟨by simp[K],by simpa using hi,λj hj=>by simp[O j hj]⟩
 rw[this]
theorem YI(K:∀k,k<n->xs k=[]):Mn n xs=([],false):=by
 unfold Mn;have:(List.range n).find? (λj=> !(xs j).isEmpty)=none:=by
  rw[tH];intro j hj;simp[K j (q7.1 hj)]
 rw[this]
theorem cr{E:LH}{a:Ap}{xs:List Int}(h:Am rI E a c xs)(K:xs≠ []):a.isNone=false:=by
 rcases h.2 with⟨e,_⟩ | ⟨bk,off,e,_⟩;exact absurd e K;rw[e];rfl
set_option maxHeartbeats 1000000 in
theorem fF{J:Judge Tryz.prog}{Q:Gs_}{Y:Frame}{fd:Nat}{f:Nat->Value}(aw:n<=1000){E:LH}(ag:Au E H [[(fd,.cells (Array.ofFn λi:Fin n=>f i) 28 (0,0))]])(hm:∀k,k<n->∃a c,f k=.slice a (xs k).length c/\Am rI E a c (xs k)/\(xs k=[]->a=none))
  (ai:∀i a c L',i<n->xs i≠ []->(∀k,k<i->xs k=[])->Am rI E a c (xs i)->look L' 4=some (.slice a (xs i).length c)->look L' 5=some (.bool true)->∀k',JL J Q (base 44) Tryz.f44.ntmps L' [] (.code .ret::k') (Y::cs) (Ak E H [[(fd,.cells (Array.ofFn λi:Fin n=>f i) 28 (0,0))]]))
  (aj:(∀k,k<n->xs k=[])->JL J Q (base 44) Tryz.f44.ntmps [] [] k (Y::cs) (Ak E H [[(fd,.cells (Array.ofFn λi:Fin n=>f i) 28 (0,0))]])):
  ∀m i,i+m=n->(∀k,k<i->xs k=[])->JL J Q (base 44) Tryz.f44.ntmps [(27,.slice (Bh fd) n n),(28,iV (n:Int)),(29,iV (i:Int))] [] (.code Xs:: .inLoop Xs:: .inBlock 2::k) (Y::cs) (Ak E H [[(fd,.cells (Array.ofFn λi:Fin n=>f i) 28 (0,0))]]):=by
 intro m
 induction m with
 | zero=>
  intro i hi K;refine C 2 V (Ao (v:=.bool false) V (λρ h=>Yl.to (Yl.lss (h _ _ V) (h _ _ V)) (by rw[qX (show ¬((i:Int)<(n:Int)) by omega)])) ?_);refine C 4 V (EW [] V ?_);exact aj λk a0=>K k (by omega)
 | succ m al=>
  intro i hi K;have O:i<n:=by omega
  let⟨a,c,am,ac,ap⟩:=hm i O;refine C 2 V (Ao (v:=.bool true) V (λρ h=>Yl.to (Yl.lss (h _ _ V) (h _ _ V)) (by rw[qR (show(i:Int)<(n:Int) by omega)])) ?_);refine C 8 V (Ao (v:=Ar fd i) V (λρ h=>Yl.to (Gj (xs:=List.replicate n ()) (m:=((i:Nat):Int)) (xv:=()) (sf) (by simp[ix,O]) underlying22 CE (h _ _ V) (h _ _ V)) (by show Ar fd (i*1)=_;rw[Nat.mul_one])) ?_);refine Ao (v:=.slice a (xs i).length c) V (λρ h=>Yl.load ET (h _ _ V) (BY (j:=0) (off:=i) ag V (by simp[O,am]))) (C 5 V ?_);refine Ao (v:=.bool (!a.isNone)) V (λρ h=>YR underlying28 (h _ _ V) (h _ _ V)) (JL.done ?_);by_cases U:xs i=[]
  .have Z:(!a.isNone)=false:=by rw[ap U];rfl
   rw[Z];refine C 4 V ?_;have aq:Az (((i:Nat):Int)+1)=some (((i+1:Nat)):Int):=by unfold Az;rw[d0 (by omega)];simp
   refine Bw aq V V V ?_;refine C 2 V ?_;refine JL.again ?_;refine DR ?_ (al (i+1) (by omega) (λk a1=>by
    by_cases e:k=i;subst e;exact U
    .exact K k (by omega)))
   exact⟨V,V,V,trivial⟩
  .have Z:(!a.isNone)=true:=by rw[cr ac U];rfl
   rw[Z];exact C 7 V (ai i a c _ O U K ac V V _)
set_option maxHeartbeats 2000000 in
theorem Xi{E:LH}{a8:Ap}{a9 bb:Nat}(ce:Am (rL rI) E a1 c2 O.1)(ci:Am Ay E a8 a9 O.2)(ck:Am Ay E ap bb p){r:(List Int)×Bool}(U:f77 fu_ O p=some r):
  AY (Hj Tryz.prog) 44 [.agg #[sV a1 O.1 c2,sV a8 O.2 a9],sV ap p bb] E [] (λw E' B'=>∃(be:Ap) (bg:Nat),w=.tuple #[sV be r.1 bg,.bool r.2]/\B'=[]/\Am rI E' be bg r.1):=by
 refine Mo func44 V V λQ ex cs H co Y=>?_;unfold f77 at U;refine C 2 V (Cs co λcp ey ct cw cy=>?_);refine Cs cy λc0 eA bi aj c1=>?_;refine Il (S':=[]) (by simp) c1 λbo=>?_;have bv:=ct.Ad bi;refine C 6 V (CJ 0 aj BS V V V ?_);refine JL.ln underlying93 V V V (C 2 V ?_);refine GY (p:=(p.length:Int)=0) V (λc3=>?_) (λc3=>?_);rw[d0 (by omega)] at U;have Z:=(ep U).symm;subst Z;refine C 5 V (AK func44 V V ?_);exact Y _ _ _ _ bv V ⟨none,0,V,V,Am.nil⟩ bo
 rw[d7 (by omega)] at U;split at U
 rotate_left
 .cases U
 rename_i hb;obtain⟨bw,c4⟩:=hb;have Z:=(ep U).symm;have ag:∀j,j<p.length->JI fu_ O p j=some (Ki fu_ O p j):=λj hj=>by
  have al:=q3.1 c4 j (q7.2 hj);let⟨x,a0⟩:=tA.1 al;unfold Ki;rw[a0];rfl
 generalize eC:Ki fu_ O p=xs at ag Z;have bx:0<p.length:=by omega
 refine C 3 V (BZ bo (Eg type122) λmu c5=>?_);refine C 3 V (BZ c5 (Eg type128) λwg c6=>?_);refine JL.done (Il (S':=[[(mu,.cells #[.int .i32 0,.int .u32 0] 122 (0,0))],[(wg,.cells #[.int .u64 0,.int .u32 0] 128 (0,0))]]) (by simp[Value.cells]) c6 λc7=>?_);refine C 2 V (CJ 0 aj BS V V V ?_);refine JL.ln underlying93 V V V ?_;have c8:Fx (p.length:Int) (Value.slice none 0 0)=some (List.replicate p.length nS):=by unfold Fx;rw[d0 (by omega)];simp
 refine JS.make (pp:=rV) c8 V V V V V underlying22 CE (BJ type28) (by decide) Jl (by decide) ⟨V,V⟩ c7 λfd eN c9 b0=>?_;have dd:=OL.fU c9 V;subst dd;obtain⟨K,b1⟩:∃K,K=List.replicate p.length (Value.slice none 0 0):=⟨_,V⟩;have b2:(List.replicate p.length (Value.slice none 0 0)).length=p.length:=by simp
 rw[← b1] at b0 b2 ⊢;rw[b2];refine BZ b0 (Eg type22) λkf dj=>?_;refine JS.sx 3 dj DD λea=>?_;refine C8 3 ea V λac am b3 eb=>Il (S':=[[(mu,.cells #[.int .i32 0,.int .u32 0] 122 (0,0))],[(wg,.cells #[.int .u64 0,.int .u32 0] 128 (0,0))],[(fd,.cells K.toArray 28 (0,0))]]) (by simp) eb λai=>?_;have aq:=bv.Ad am;refine C 4 V (CJ 0 (aj.Ag am) BS V V V ?_);refine JL.ln underlying93 V V V (C 3 V ?_);refine IV (EW [(2,Ar cp 0),(3,Ar c0 0),(6,.pointer (some (⟨mu,0,none⟩:Addr))),(7,.pointer (some (⟨wg,0,none⟩:Addr))),(8,Ar kf 0),(19,iV (p.length:Int)),(20,iV ((0:Nat):Int))] V ?_);have b4:=Nd.iff.1 ai;intro T ec;let F:Fam:=⟨wg,mu,fd,128,122,28,p.length,λkk v E=>kk<p.length/\∃a c,v=.slice a (xs kk).length c/\Am rI E a c (xs kk)/\(xs kk=[]->a=none),λg s=>(Hj Tryz.prog).ok Q g s⟩;have aw:=b4.1;simp only[q1,s7,qW,rh,rG,r8,uK,tc,fP,qG,not_or,rq,not_false_eq_true,uk,t6] at aw;have ed:(Ak ac H [[(mu,.cells #[.int .i32 0,.int .u32 0] 122 (0,0))],[(wg,.cells #[.int .u64 0,.int .u32 0] 128 (0,0))],[(fd,.cells K.toArray 28 (0,0))]]).H fd=some (F.Jg λ_=>nS):=by
  rw[KS (j:=2) ai rfl];have:(Array.ofFn λ_:Fin p.length=>Value.slice none 0 0)=K.toArray:=by
   rw[b1];apply Array.ext;simp;intro i al b5;simp
  show some (Obj.cells K.toArray 28 (0,0))=some (Obj.cells (Array.ofFn λ_:Fin p.length=>Value.slice none 0 0) 28 (0,0));rw[this]
 refine cz F (f₀:=λ_=>.slice none 0 0) (show 1<=p.length by omega) (show p.length<134217728 by omega) ?_ aw.1.1 (λe=>aw.2 e.symm) (λe=>aw.1.2 e.symm) (KS (j:=1) ai V) (KS (j:=0) ai V) ed ?_ (λg s h=>h);rintro kk v e0 e1 ee ⟨al,a,c,b5,a2,a3⟩;exact⟨al,a,c,b5,a2.Ag ee,a3⟩
 have ef:=Ys ai;show Way Tryz.prog true (Stop Tryz.prog F (.G5 0)) _ (⟨(Ak ac H [[(mu,.cells #[.int .i32 0,.int .u32 0] 122 (0,0))],[(wg,.cells #[.int .u64 0,.int .u32 0] 128 (0,0))],[(fd,.cells K.toArray 28 (0,0))]]).E,KG (Ak ac H [[(mu,.cells #[.int .i32 0,.int .u32 0] 122 (0,0))],[(wg,.cells #[.int .u64 0,.int .u32 0] 128 (0,0))],[(fd,.cells K.toArray 28 (0,0))]]).H wg mu fd,false⟩:St);rw[show(Ak ac H [[(mu,.cells #[.int .i32 0,.int .u32 0] 122 (0,0))],[(wg,.cells #[.int .u64 0,.int .u32 0] 128 (0,0))],[(fd,.cells K.toArray 28 (0,0))]]).E=ac from rfl,ef];have eg:Au ac H []:=trivial;have ej:H fd=none:=(b4.2 (fd,.cells K.toArray 28 (0,0)) (by simp)).2;refine Yk (F:=F) (n:=p.length) V bx bw (ck.Ag aq) (ce.Ag aq) (ci.Ag aq) V (aj.Ag am) (cw.Ag (bi.Ad am)) b3 ag (λj hj E' a c ek el=>⟨hj,a,c,V,ek,el⟩) (λem b6 e3=>?_) p.length 0 (by omega) bx ac AL eg T ec;refine C 2 V ?_;refine Ao (v:=.bool false) V (λρ h=>Yl.to (Yl.lss (h _ _ V) (h _ _ V)) (by rw[qX (show ¬((p.length:Int)<(p.length:Int)) by omega)])) ?_;refine C 6 V ?_;refine JL.wait Tryz.Lq (F:=F) (show p.length<2147483648 by omega) V V V V V (Q:=Q) (λg s h=>h) λa4 f ca eo e4 er=>?_;have a5:Au a4 H [[(fd,F.Jg f)]]:=Nd.iff.2 ⟨by simp,λq ag=>by
  simp at ag;subst ag;exact⟨eo,ej⟩⟩
 have es:(⟨a4,F.KH (Ak em H []).H f,false⟩:St)=Ak a4 H [[(fd,F.Jg f)]]:=by
  unfold Ak mk;congr 1
 rw[es];have cc:=(aq.Ad b6).Ad ca;refine C 4 V (CJ 0 (b3.Ag (b6.Ad ca)) Ed V V V ?_);refine JL.ln underlying22 V V V (C 3 V ?_);refine IV (EW [(27,.slice (Bh fd) p.length p.length),(28,iV (p.length:Int)),(29,iV ((0:Nat):Int))] V ?_);refine fF (n:=p.length) (f:=f) (xs:=xs) bw a5 (λk Y=>?_) (λi a c L' hi a0 a6 et a2 a3 k'=>?_) (λa6=>?_) p.length 0 (by omega) (λk Y=>absurd Y (Nat.not_lt_zero _));let⟨_,a,c,eu,e2,ew⟩:=er k Y;exact⟨a,c,eu,e2,ew⟩;rw[YH hi a0 a6] at Z;subst Z;exact JL.ret (v:=.tuple #[.slice a (xs i).length c,.bool true]) V V (BK.list func44 V (vs:=[.slice a (xs i).length c,.bool true]) ⟨a2,a3,trivial⟩) (Tj a5 λa7=>Y _ _ _ _ cc V ⟨a,c,V,V,et⟩ a7);rw[YI a6] at Z;subst Z;refine C 5 V (AK func44 V V ?_);exact Tj a5 λa7=>Y _ _ _ _ cc V ⟨none,0,V,V,Am.nil⟩ a7
end Pal
namespace Pal
open Go Go.Conc Go.Proofs
open Go.Proofs.Tryz
def Wc(fu_:Nat)(Z:A0×Int)(O:Bg)(K:Int):Option (Bq Int ((AB×(List Int)×Int)⊕(Unit))):=if K<(O.length:Int) then((ix O K).bind λU=>(f77 fu_ Z.1 U).bind λY=>if Y.2=true then(some (.done (Sum.inl (U,Y.1,0)))) else((Az (K+1)).bind λac=>some (.more ac))) else(some (.done (Sum.inr ())))
def f27(fu_:Nat)(p0:A0):Option (AB×(List Int)×Int):=(f70 fu_ p0 ([])).bind λK=>if K.2≠0 then(some ([],[],K.2)) else((f71 fu_ K.1 0).bind λO=>(f76 fu_ O).bind λU=>Option.bind (iter (Wc fu_ K U) fu_ 0) λY=>Sum.elim (λr=>some r) (λZ=>some ([],[],11)) Y)
variable{a1 ai:Ap}{aj c2 fu_:Nat}
theorem iK{E:LH}{p0:A0}(ck:Am (rL rI) E a1 c2 p0.1)(co:Am Ay E ai aj p0.2){r:AB×(List Int)×Int}(a9:f27 fu_ p0=some r):AY (Hj Tryz.prog) 27 [.agg #[sV a1 p0.1 c2,sV ai p0.2 aj]] E [] (λw E' B'=>∃(bb:Ap) (be:Nat) (bg:Ap) (bi:Nat),w=.tuple #[sV bb r.1 be,sV bg r.2.1 bi,iV r.2.2]/\B'=[]/\Am Ay E' bb be r.1/\Am rI E' bg bi r.2.1):=by
 refine Bm func27 λQ fN cs H cp a3=>?_;unfold f27 at a9;refine C 2 V (Cs cp λct gc Y cw cy=>?_);refine C 6 V (BQ cw Cb BD V V ?_);let⟨K,c0,c1⟩:=bs a9;refine BU (KL (ck.Ag Y) (co.Ag Y) Am.nil c0) V V Kt cy ?_;rintro _ ge _ a4 ⟨al,am,ap,aq,rfl,rfl,bo,bv⟩ c3;refine C 3 V (BZ c3 HM λbw c4=>?_);refine JS.sx 3 c4 Ee λc5=>?_;refine C8 3 c5 V λgg O bx b0=>C 8 V (AP c1 (λc6 c7=>?_) (λc6 c8=>?_));refine C 7 V ?_;cases c7;exact AK func27 V V (a3 ((Y.Ad a4).Ad O) V ⟨none,0,none,0,V,V,Am.nil,Am.nil⟩ b0);refine C 3 V (BQ bx F1 Ee V V ?_);let⟨gh,c9,dd⟩:=bs c8;refine BU (Sr (bo.Ag O) (bv.Ag O) c9) V V QC b0 ?_;rintro _ gt gE Z ⟨aw,a0,_,rfl,rfl,dj⟩ ea;let⟨ac,eb,ec⟩:=bs dd;refine C 5 V (Cw 4 (dN dj eb) V V (A4 func57 V) ea V ?_);rintro _ ed ee ag ⟨rfl,ef,a5⟩ eg;refine DR (L':=[(23,.tuple #[]),(0,.agg #[.slice a1 p0.1.length c2,.slice ai p0.2.length aj]),(1,Ar ct 0),(2,.slice none 0 0),(3,.slice none 0 0),(4,iV 0),(13,.agg #[.slice a1 p0.1.length c2,.slice ai p0.2.length aj]),(14,.tuple #[.agg #[.slice al K.1.1.length am,.slice ap K.1.2.length aq],iV K.2]),(12,.tuple #[.agg #[.slice al K.1.1.length am,.slice ap K.1.2.length aq],iV K.2]),(15,.agg #[.slice al K.1.1.length am,.slice ap K.1.2.length aq]),(16,iV K.2),(5,Ar bw 0),(6,iV K.2),(17,iV K.2),(18,.bool (decide (K.2≠0))),(20,.agg #[.slice al K.1.1.length am,.slice ap K.1.2.length aq]),(21,.slice aw ac.length a0),(7,.slice aw ac.length a0),(22,.slice aw ac.length a0)]) ⟨V,V,V,V,V,V,V,V,V,V,V,V,V,V,V,V,by rw[a5];rfl,by rw[a5];rfl,by rw[a5];rfl,trivial⟩ ?_;refine C 5 V (JL.ln underlying96 V V V ?_);let⟨b1,ej,b2⟩:=bs ec;refine C 2 V (Bu (λL s=>∃(b3:Unit) (b4:LH),b1=Sum.inr b3/\Jm ed H b4 [] [] L s) ?_ ?_);rintro _ _ ⟨b3,b4,rfl,rfl,rfl,ek,el⟩;have em:=elim_inr b2;refine C 6 V ?_;cases em;exact AK func27 V V (a3 (((((Y.Ad a4).Ad O).Ad Z).Ad ag).Ad ek) V ⟨none,0,none,0,V,V,Am.nil,Am.nil⟩ el);intro eo;refine JL.block (Du ej (λa6=>[ee]) (λa6=>[(5,Ar bw 0),(24,sV aw ac a0),(25,iV (ac.length:Int)),(26,iV a6)]) AL eg ?_);rintro a6 er U a7 b5 ⟨gO,a2⟩ et;have b6:=a2;unfold Wc at b6;refine C 5 V (AP b6 (λeu ew=>?_) (λeu ex=>?_));let⟨ey,eA,eC⟩:=bs ew;refine C 5 V (HS 0 (ef.Ag U) eA V V V V V V underlying96 BB ?_);rintro g3 g4 f93 _ eN ⟨ca,cc,rfl,ce⟩ e0 g5 g6 g7 g8;refine Ao (v:=sV ca ey cc) V (λρ h=>Yl.load BS (h _ _ V) (BY (j:=0) a7 eN (e0 0 _ V))) (C 4 V ?_);refine BQ (bx.Ag ((Z.Ad ag).Ad U)) F1 Ee V V ?_;let⟨ha,e1,e3⟩:=bs eC;refine C 1 V (BU (Xi (bo.Ag (((O.Ad Z).Ad ag).Ad U)) (bv.Ag (((O.Ad Z).Ad ag).Ad U)) ce e1) V V (A4 func44 V) a7 ?_);rintro _ hb _ a8 ⟨e4,e5,rfl,rfl,e6⟩ ci;refine C 10 V (Cm e3 (λe7 e8=>?_) (λe7 ff=>?_));refine C 8 V (JS.drop 0 ci V λfk=>?_);cases e8;obtain rfl:=b5 _ a2;have fl:=elim_inl b2;cases fl;exact AK func27 V V (a3 ((((((Y.Ad a4).Ad O).Ad Z).Ad ag).Ad U).Ad a8) V ⟨ca,cc,e4,e5,V,V,(ce.Ag a8),e6⟩ fk);let⟨fm,fo,fs⟩:=bs ff;refine C 3 V (Bw fo V V V ?_);refine C 2 V ?_;cases fs;exact et fm (U.Ad a8) ci V a2;refine JL.exit V (JS.drop 0 a7 V λfv=>?_);cases ex;have fw:b1=(Sum.inr ()):=(b5 _ a2).symm;exact AD (eo _ _ ⟨(),er,fw,V,V,U,fv⟩) V
variable {J:Judge Tryz.prog}
variable {E:LH}
def Wd(fu_:Nat)(p0:List Int)(K:AB×Int):Option (Bq (AB×Int) (AB)):=(Az (K.2+2)).bind λO=>if O<(p0.length:Int) then((ix p0 K.2).bind λU=>(Az (K.2+1)).bind λY=>(ix p0 Y).bind λZ=>(Az (K.2+2)).bind λac=>(ix p0 ac).bind λag=>(CZ K.1 ([(U,Z,ag)]:AB)).bind λai=>(Az (K.2+3)).bind λaj=>some (.more (ai,aj))) else(some (.done K.1))
def f67(fu_:Nat)(p0:List Int):Option (AB):=Option.bind (iter (Wd fu_ p0) fu_ ([],0)) λK=>some K
theorem PT{p0:List Int}(am:Am rI E a1 c2 p0){r:AB}(a3:f67 fu_ p0=some r):AY J 30 [sV a1 p0 c2] E [] (λw E' B'=>∃(a4:Ap) (a5:Nat) (g0:Seg),w= sV a4 r a5/\B'=g0/\OL 27 Ay E' a4 a5 g0 r):=by
 refine Bm func30 λQ er cs H bg bi=>?_;unfold f67 at a3;let⟨a6,bo,bv⟩:=bs a3;refine C 13 V (Bu (λL s=>∃(ap:LH) (Y:Ap) (Z:Nat) (ac:Seg),Jn E H ap [ac] [(3,sV Y a6 Z)] L s (OL 27 Ay ap Y Z ac a6)) ?_ ?_);rintro _ _ ⟨ap,Y,Z,ac,rfl,rfl,bw,bx,b0⟩;refine C 5 V ?_;cases bv;exact AK func30 V V (bi bw V ⟨Y,Z,ac,V,(by first | rfl | simp | (simp[Value.cells])),b0⟩ bx);intro b1;refine JL.block (Co bo (λL s ag=>∃(ai:LH) (aj:Ap) (al:Nat) (O:Seg),Jn E H ai [O] [(0,sV a1 p0 c2),(3,sV aj ag.1 al),(4,iV ag.2)] L s (OL 27 Ay ai aj al O ag.1)) ⟨E,none,0,[],V,V,AL,bg,OL.nil⟩ ?_);rintro _ _ ag ⟨ai,aj,al,O,rfl,rfl,U,a7,a8⟩ b2 ⟨et,aq⟩ b3;have a9:=aq;unfold Wd at a9;let⟨eu,b4,b5⟩:=bs a9;refine C 4 V (Bw b4 V V V ?_);refine C 1 V (JL.ln underlying28 V V V ?_);refine C 2 V (AP b5 (λb6 ca=>?_) (λb6 cc=>?_));refine C 3 V (Ei 17 λK=>?_);refine A9 K V [0,1,2] V ?_;let⟨aw,ce,ci⟩:=bs ca;refine CU 3 (am.Ag U) ce K underlying28 Av ?_;rintro ew ex _ rfl ck;refine CY 4 K 0 ck AV V V V V (A9 K V [5,6] V ?_);let⟨ey,co,cp⟩:=bs ci;refine A6 7 K V V (λρ h s' bb=>F5 (h _ _ V) (h _ _ V) co) ?_;let⟨a0,ct,cw⟩:=bs cp;refine CU 8 (am.Ag U) ct K underlying28 Av ?_;rintro eA eC _ rfl cy;refine CY 9 K 0 cy AV V V V V (A9 K V [10,11] V ?_);let⟨eN,c0,c1⟩:=bs cw;refine A6 12 K V V (λρ h s' bb=>F5 (h _ _ V) (h _ _ V) c0) ?_;let⟨a2,c3,c4⟩:=bs c1;refine CU 13 (am.Ag U) c3 K underlying28 Av ?_;rintro e0 e1 _ rfl c5;refine CY 14 K 0 c5 AV V V V V (A6 (v:=.agg #[iV aw,iV a0,iV a2]) 15 K V V (λρ h s' bb=>Dk [(0,1),(1,1),(2,1)] h BC underlying27 ⟨V,A5 type3,V,A5 type3,V,A5 type3,trivial⟩ V V) ?_);refine JG.one (i:=16) V (by decide+kernel) (Take.DL (pp:=Ay) [.agg #[iV aw,iV a0,iV a2]] ([(aw,a0,a2)]:AB) a7 V V V underlying23 AX BC (by decide) V V V ⟨⟨_,_,V,V,⟨_,_,V,V,V⟩⟩,trivial⟩ λe3 c6 c7 c8=>?_);refine Cn [17,18] (BF (S':=[O,c6]) V c8 λc9=>?_);refine BO 1 c7 c9 V λdd be dj ea=>?_;let⟨eb,ec,ed⟩:=bs c4;refine FM (pp:=Ay) 0 ec V V V V V V V underlying23 underlying23 AX (BJ type27) BC V (by decide) (by decide) (a8.Ag be) dj ea V λee ef eg ej ek=>?_;let⟨el,em,eo⟩:=bs ed;refine C 5 V (Bw em V V V ?_);refine C 2 V ?_;cases eo;exact AD (b3 _ _ (eb,el) ⟨dd,ee,ef,eg,V,V,(U.Ad be),ek,ej⟩ aq) V;refine JL.exit V ?_;cases cc;obtain rfl:=b2 _ aq;exact AD (b1 _ _ ⟨ai,aj,al,O,V,V,U,a7,a8⟩) V
def f110(fu_:Nat)(p0:List Int)(p1:List Int):Option (A0):=(f67 fu_ ([0,1,5,1,2,5,2,3,2,0,3,1,3,1,1]:List Int)).bind λK=>(f67 fu_ p1).bind λO=>(CZ K O).bind λU=>some (([p0,[],([3]:List Int),([1]:List Int)]:AZ),U)
variable{dn:Nat}{p1:List Int}
theorem R8{aq:Ap}{p0:List Int}(a9:Am rI E a1 c2 p0)(bb:Am rI E aq dn p1){r:A0}(a0:f110 fu_ p0 p1=some r):AY J 50 [sV a1 p0 c2,sV aq p1 dn] E [] (λw E' B'=>∃(a2:Ap) (a3:Nat) (a4:Ap) (a5:Nat),w=.agg #[sV a2 r.1 a3,sV a4 r.2 a5]/\B'=[]/\Am (rL rI) E' a2 a3 r.1/\Am Ay E' a4 a5 r.2):=by
 refine Bm func50 λQ er cs H be bg=>?_;unfold f110 at a0;refine C 2 V (BZ be GV λY bi=>?_);refine C 4 V (FO (pp:=rI) [iV 3] [3] V V V underlying28 Av BR (by decide) V V V ⟨V,trivial⟩ bi λbo bv bw bx=>?_);refine FO (pp:=rI) [iV 1] [1] V V V underlying28 Av BR (by decide) V V V ⟨V,trivial⟩ bx λb0 b1 b2 b3=>BF (S':=[[],[(Y,.cells #[nS,nS] 25 (0,0))],bv,b1]) V b3 λb4=>BO 2 bw b4 V λet ac b5 b6=>BO 3 (b2.Ag ac) b6 V λeu ag ca cc=>FO (pp:=(rL rI)) [sV a1 p0 c2,nS,.slice (Bh bo) (([3]:List Int)).length 1,.slice (Bh b0) (([1]:List Int)).length 1] [p0,[],([3]:List Int),([1]:List Int)] V V V underlying22 CE Jl (by decide) V V V ⟨⟨_,_,V,(a9.Ag (ac.Ad ag))⟩,⟨_,_,V,Am.nil⟩,⟨_,_,V,(b5.Ag ag)⟩,⟨_,_,V,ca⟩,trivial⟩ cc λK ai ce ci=>BF (S':=[[],[(Y,.cells #[nS,nS] 25 (0,0))],[],[],ai]) V ci λck=>FO (pp:=rI) [iV 0,iV 1,iV 5,iV 1,iV 2,iV 5,iV 2,iV 3,iV 2,iV 0,iV 3,iV 1,iV 3,iV 1,iV 1] [0,1,5,1,2,5,2,3,2,0,3,1,3,1,1] V V V underlying28 Av BR (by decide) V V V ⟨V,V,V,V,V,V,V,V,V,V,V,V,V,V,V,trivial⟩ ck λew ex co cp=>BO 5 co cp V λey aj ct cw=>?_;let⟨eA,cy,c0⟩:=bs a0;refine BU (PT ct cy) V V N8 cw ?_;rintro _ eC c1 al ⟨eN,e0,_,rfl,rfl,c3⟩ c4;refine BF (S':=[[],[(Y,.cells #[nS,nS] 25 (0,0))],[],[],ai,[],c1]) V c4 λc5=>?_;let⟨e1,c6,c7⟩:=bs c0;refine C 1 V (BU (PT (bb.Ag (((ac.Ad ag).Ad aj).Ad al)) c6) V V N8 c5 ?_);rintro _ e3 e4 am ⟨e5,e6,_,rfl,rfl,c8⟩ c9;refine BO 7 c8 c9 V λe7 ap dd dj=>?_;let⟨Z,ea,eb⟩:=bs c7;refine FM (pp:=Ay) 6 ea V V V V V V V underlying23 underlying23 AX (BJ type27) BC V (by decide) (by decide) (c3.Ag (am.Ad ap)) dd dj V λO U ec ed ee=>BF (S':=[[],[(Y,.cells #[nS,nS] 25 (0,0))],[],[],ai,[],ec,[]]) V ee λef=>Ao (v:=.agg #[.slice (Bh K) (([p0,[],([3]:List Int),([1]:List Int)]:AZ)).length 4,sV O Z U]) V (λρ h=>Dk [(0,1),(1,1)] h GV underlying25 ⟨V,A5 type22,V,A5 type23,trivial⟩ V V) (JS.sx 1 ef BD λeg=>?_);refine JL.done (BO 4 (ce.Ag (((aj.Ad al).Ad am).Ad ap)) eg V λe8 a6 ej ek=>?_);refine BO 6 (ed.Ag a6) ek V λff a7 el em=>BF (S':=[[],[(Y,.cells #[.slice (Bh K) (([p0,[],([3]:List Int),([1]:List Int)]:AZ)).length 4,sV O Z U] 25 (0,0))],[],[],[],[],[],[]]) V em λa8=>?_;cases eb;refine JL.ret (v:=.agg #[.slice (Bh K) (([p0,[],([3]:List Int),([1]:List Int)]:AZ)).length 4,sV O Z U]) V V (BK.list func50 V (vs:=[.agg #[.slice (Bh K) (([p0,[],([3]:List Int),([1]:List Int)]:AZ)).length 4,sV O Z U]]) ⟨⟨_,V,Ld.many (vs:=[.slice (Bh K) (([p0,[],([3]:List Int),([1]:List Int)]:AZ)).length 4,sV O Z U]) Cb BD (Em (off:=0) 1 a8 V V)⟩,trivial⟩) (DW 1 a8 V λeo=>?_);exact bg (((((((ac.Ad ag).Ad aj).Ad al).Ad am).Ad ap).Ad a6).Ad a7) V ⟨(Bh K),4,O,U,V,V,(ej.Ag a7),el⟩ eo
def f63(fu_:Nat):Option (A0):=(f110 fu_ ([1,2,3]:List Int) ([])).bind λK=>some K
theorem PY{r:A0}(ac:f63 fu_=some r):AY J 21 [] E [] (λw E' B'=>∃(ag:Ap) (ai:Nat) (aj:Ap) (al:Nat),w=.agg #[sV ag r.1 ai,sV aj r.2 al]/\B'=[]/\Am (rL rI) E' ag ai r.1/\Am Ay E' aj al r.2):=by
 refine Bm func21 λQ bg cs H ap aq=>?_;unfold f63 at ac;refine C 2 V (BZ ap GV λr1 aw=>?_);refine C 3 V (FO (pp:=rI) [iV 1,iV 2,iV 3] [1,2,3] V V V underlying28 Av BR (by decide) V V V ⟨V,V,V,trivial⟩ aw λbi bo a0 a1=>?_);refine BO 2 a0 a1 V λbv a2 a3 a4=>?_;let⟨K,a5,a6⟩:=bs ac;refine BU (R8 a3 Am.nil a5) V V QE a4 ?_;rintro _ bw _ a7 ⟨O,U,Y,Z,rfl,rfl,a8,a9⟩ bb;refine JS.sx 1 bb BD λam=>?_;refine JL.done ?_;obtain rfl:=(oi a6);refine JL.ret (v:=.agg #[sV O K.1 U,sV Y K.2 Z]) V V (BK.list func21 V (vs:=[.agg #[sV O K.1 U,sV Y K.2 Z]]) ⟨⟨_,V,Ld.many (vs:=[sV O K.1 U,sV Y K.2 Z]) Cb BD (Em (off:=0) 1 am V V)⟩,trivial⟩) (DW 1 am V λbe=>?_);exact aq (a2.Ad a7) V ⟨O,U,Y,Z,V,V,a8,a9⟩ be
def f64(fu_:Nat):Option (A0):=(f110 fu_ ([]) ([])).bind λK=>some K
theorem jz{r:A0}(ac:f64 fu_=some r):AY J 26 [] E [] (λw E' B'=>∃(ag:Ap) (ai:Nat) (aj:Ap) (al:Nat),w=.agg #[sV ag r.1 ai,sV aj r.2 al]/\B'=[]/\Am (rL rI) E' ag ai r.1/\Am Ay E' aj al r.2):=by
 refine Bm func26 λQ a7 cs H ap aq=>?_;unfold f64 at ac;refine C 2 V (BZ ap GV λr1 aw=>?_);let⟨K,a0,a1⟩:=bs ac;refine C 3 V (BU (R8 Am.nil Am.nil a0) V V QE aw ?_);rintro _ a8 _ a2 ⟨O,U,Y,Z,rfl,rfl,a3,a4⟩ a5;refine JS.sx 1 a5 BD λam=>?_;refine JL.done ?_;obtain rfl:=(oi a1);refine JL.ret (v:=.agg #[sV O K.1 U,sV Y K.2 Z]) V V (BK.list func26 V (vs:=[.agg #[sV O K.1 U,sV Y K.2 Z]]) ⟨⟨_,V,Ld.many (vs:=[sV O K.1 U,sV Y K.2 Z]) Cb BD (Em (off:=0) 1 am V V)⟩,trivial⟩) (DW 1 am V λa6=>?_);exact aq a2 V ⟨O,U,Y,Z,V,V,a3,a4⟩ a6
def f65(fu_:Nat):Option (A0):=(f110 fu_ ([5,1]:List Int) ([])).bind λK=>some K
theorem jl{r:A0}(ac:f65 fu_=some r):AY J 28 [] E [] (λw E' B'=>∃(ag:Ap) (ai:Nat) (aj:Ap) (al:Nat),w=.agg #[sV ag r.1 ai,sV aj r.2 al]/\B'=[]/\Am (rL rI) E' ag ai r.1/\Am Ay E' aj al r.2):=by
 refine Bm func28 λQ bg cs H ap aq=>?_;unfold f65 at ac;refine C 2 V (BZ ap GV λr1 aw=>?_);refine C 3 V (FO (pp:=rI) [iV 5,iV 1] [5,1] V V V underlying28 Av BR (by decide) V V V ⟨V,V,trivial⟩ aw λbi bo a0 a1=>?_);refine BO 2 a0 a1 V λbv a2 a3 a4=>?_;let⟨K,a5,a6⟩:=bs ac;refine BU (R8 a3 Am.nil a5) V V QE a4 ?_;rintro _ bw _ a7 ⟨O,U,Y,Z,rfl,rfl,a8,a9⟩ bb;refine JS.sx 1 bb BD λam=>?_;refine JL.done ?_;obtain rfl:=(oi a6);refine JL.ret (v:=.agg #[sV O K.1 U,sV Y K.2 Z]) V V (BK.list func28 V (vs:=[.agg #[sV O K.1 U,sV Y K.2 Z]]) ⟨⟨_,V,Ld.many (vs:=[sV O K.1 U,sV Y K.2 Z]) Cb BD (Em (off:=0) 1 am V V)⟩,trivial⟩) (DW 1 am V λbe=>?_);exact aq (a2.Ad a7) V ⟨O,U,Y,Z,V,V,a8,a9⟩ be
def f66(fu_:Nat):Option (AB):=(f67 fu_ ([0,1,1,0,2,3,0,3,2]:List Int)).bind λK=>some K
theorem iP{r:AB}(K:f66 fu_=some r):AY J 29 [] E [] (λw E' B'=>∃(O:Ap) (U:Nat),w= sV O r U/\B'=[]/\Am Ay E' O U r):=by
 refine Bm func29 λQ a6 cs H Y Z=>?_;unfold f66 at K;refine C 6 V (FO (pp:=rI) [iV 0,iV 1,iV 1,iV 0,iV 2,iV 3,iV 0,iV 3,iV 2] [0,1,1,0,2,3,0,3,2] V V V underlying28 Av BR (by decide) V V V ⟨V,V,V,V,V,V,V,V,V,trivial⟩ Y λr1 g2 ac ag=>?_);refine BO 1 ac ag V λa7 ai aj al=>?_;let⟨a8,am,ap⟩:=bs K;refine BU (PT aj am) V V N8 al ?_;rintro _ a9 bb aq ⟨aw,a0,_,rfl,rfl,a1⟩ a2;refine C 2 V (BO 2 a1 a2 V λbe a3 a4 a5=>?_);cases ap;exact AK func29 V V (Z ((ai.Ad aq).Ad a3) V ⟨aw,a0,V,V,a4⟩ a5)
def Pp(fu_:Nat)(p0:List Int)(p1:List Int)(K:Int):Option (Bq Int ((Bool)⊕(Unit))):=Option.bind (if K<(p0.length:Int) then(some (decide (K<(p1.length:Int)))) else(some false)) λO=>if O=true then((ix p0 K).bind λU=>(ix p1 K).bind λY=>if U≠Y then(some (.done (Sum.inl false))) else((Az (K+1)).bind λZ=>some (.more Z))) else(some (.done (Sum.inr ())))
def f29(fu_:Nat)(p0:List Int)(p1:List Int):Option Bool:=Option.bind (iter (Pp fu_ p0 p1) fu_ 0) λK=>Sum.elim (λr=>some r) (λO=>some (decide ((p0.length:Int)=(p1.length:Int)))) K
variable{O:Ap}{U:Nat}{r:Bool}
theorem Mv{p0:List Int}(a7:Am rI E a1 c2 p0)(a8:Am rI E O U p1)(am:f29 fu_ p0 p1=some r):AY J 17 [sV a1 p0 c2,sV O p1 U] E [] (λw E' B'=>w=.bool r/\B'=[]):=by
 refine Bm func17 λQ c5 cs H a9 ap=>?_;unfold f29 at am;let⟨aq,bb,aw⟩:=bs am;refine C 9 V (Bu (λL s=>∃(a0:Unit) (a2:LH),aq=Sum.inr a0/\Jm E H a2 [] [(0,sV a1 p0 c2),(1,sV O p1 U)] L s) ?_ ?_);rintro _ _ ⟨a0,a2,rfl,rfl,rfl,be,bg⟩;have bi:=elim_inr aw;refine C 3 V (JL.ln underlying28 V V V ?_);refine C 1 V (JL.ln underlying28 V V V ?_);refine C 3 V ?_;cases bi;exact AK func17 V V (ap be V ⟨V,V⟩ bg);intro bo;refine JL.block (Du bb (λac=>[]) (λac=>[(0,sV a1 p0 c2),(1,sV O p1 U),(5,iV ac)]) AL a9 ?_);rintro ac ai Y a3 a4 ⟨c6,ag⟩ bv;have a5:=ag;unfold Pp at a5;refine C 5 V (JL.ln underlying28 V V V ?_);let⟨bw,bx,b0⟩:=bs a5;refine C 2 V (Hh [] (λL s=>∃(aj:LH),Jm ai H aj [] [(0,sV a1 p0 c2),(1,sV O p1 U),(5,iV ac),(15,.bool bw)] L s) ?_ ?_);rintro _ _ ⟨aj,rfl,rfl,Z,al⟩;refine JL.done (Cm b0 (λb1 b2=>?_) (λb1 b3=>?_));refine C 4 V (Ei 8 λK=>?_);refine A9 K V [0,1] V ?_;let⟨c7,b4,b5⟩:=bs b2;refine CU 2 (a7.Ag (Y.Ad Z)) b4 K underlying28 Av ?_;rintro c8 c9 _ rfl b6;refine CY 3 K 0 b6 AV V V V V (A9 K V [4,5] V ?_);let⟨dd,ca,cc⟩:=bs b5;refine CU 6 (a8.Ag (Y.Ad Z)) ca K underlying28 Av ?_;rintro dj ea _ rfl ce;refine CY 7 K 0 ce AV V V V V (Cn [8] ?_);refine C 2 V (AP cc (λci ck=>?_) (λci co=>?_));refine C 4 V ?_;cases ck;obtain rfl:=a4 _ ag;have cp:=elim_inl aw;cases cp;exact AK func17 V V (ap (Y.Ad Z) V ⟨V,V⟩ al);let⟨ct,cw,cy⟩:=bs co;refine C 4 V (Bw cw V V V ?_);refine C 2 V ?_;cases cy;exact bv ct (Y.Ad Z) al V ag;refine JL.exit V ?_;cases b3;have c0:aq=(Sum.inr ()):=(a4 _ ag).symm;exact AD (bo _ _ ⟨(),aj,c0,V,V,(Y.Ad Z),al⟩) V;intro a6;refine Hy 10 bx (λc1 c3=>?_) (λc1 c4=>?_);refine C 2 V (JL.ln underlying28 V V V ?_);refine C 2 V ?_;cases c3;exact AD (a6 _ _ ⟨ai,V,V,AL,a3⟩) V;refine C 5 V ?_;cases c4;exact AD (a6 _ _ ⟨ai,V,V,AL,a3⟩) V
def PG(fu_:Nat)(p0:AB)(p1:AB)(K:Int):Option (Bq Int ((Bool)⊕(Unit))):=Option.bind (if K<(p0.length:Int) then(some (decide (K<(p1.length:Int)))) else(some false)) λO=>if O=true then((ix p0 K).bind λU=>(ix p1 K).bind λY=>if U≠Y then(some (.done (Sum.inl false))) else((Az (K+1)).bind λZ=>some (.more Z))) else(some (.done (Sum.inr ())))
def f26(fu_:Nat)(p0:AB)(p1:AB):Option Bool:=Option.bind (iter (PG fu_ p0 p1) fu_ 0) λK=>Sum.elim (λr=>some r) (λO=>some (decide ((p0.length:Int)=(p1.length:Int)))) K
theorem PZ{p0 p1:AB}(a9:Am Ay E a1 c2 p0)(bb:Am Ay E O U p1)(aq:f26 fu_ p0 p1=some r):AY J 19 [sV a1 p0 c2,sV O p1 U] E [] (λw E' B'=>w=.bool r/\B'=[]):=by
 refine Bm func19 λQ c7 cs H be aw=>?_;unfold f26 at aq;let⟨a0,bg,a2⟩:=bs aq;refine C 9 V (Bu (λL s=>∃(a3:Unit) (a4:LH),a0=Sum.inr a3/\Jm E H a4 [] [(0,sV a1 p0 c2),(1,sV O p1 U)] L s) ?_ ?_);rintro _ _ ⟨a3,a4,rfl,rfl,rfl,bi,bo⟩;have bv:=elim_inr a2;refine C 3 V (JL.ln underlying23 V V V ?_);refine C 1 V (JL.ln underlying23 V V V ?_);refine C 3 V ?_;cases bv;exact AK func19 V V (aw bi V ⟨V,V⟩ bo);intro bw;refine JL.block (Du bg (λaj=>[]) (λaj=>[(0,sV a1 p0 c2),(1,sV O p1 U),(5,iV aj)]) AL be ?_);rintro aj am Y a5 a6 ⟨c8,al⟩ bx;have a7:=al;unfold PG at a7;refine C 5 V (JL.ln underlying23 V V V ?_);let⟨b0,b1,b2⟩:=bs a7;refine C 2 V (Hh [] (λL s=>∃(Z:LH),Jm am H Z [] [(0,sV a1 p0 c2),(1,sV O p1 U),(5,iV aj),(15,.bool b0)] L s) ?_ ?_);rintro _ _ ⟨Z,rfl,rfl,ac,ap⟩;refine JL.done (Cm b2 (λb3 b4=>?_) (λb3 b5=>?_));refine C 4 V (Ei 8 λK=>?_);refine A9 K V [0,1] V ?_;let⟨ag,b6,ca⟩:=bs b4;refine CU 2 (a9.Ag (Y.Ad ac)) b6 K underlying23 AX ?_;rintro c9 dd _ ⟨_,_,rfl,rfl,⟨_,_,rfl,rfl,rfl⟩⟩ cc;refine GK 3 K cc C7 AX V V V (A9 K V [4,5] V ?_);let⟨ai,ce,ci⟩:=bs ca;refine CU 6 (bb.Ag (Y.Ad ac)) ce K underlying23 AX ?_;rintro dj ea _ ⟨_,_,rfl,rfl,⟨_,_,rfl,rfl,rfl⟩⟩ ck;refine GK 7 K ck C7 AX V V V (Cn [8] ?_);refine Ao (v:=.bool (decide (ag≠ai))) V (λρ h=>Rv (E:=Z) (E':=Z) (ws:=[iV ag.1,iV ag.2.1,iV ag.2.2]) (ws':=[iV ai.1,iV ai.2.1,iV ai.2.2]) (a:=ag) (b:=ai) il (by decide) (by decide+kernel) ⟨_,_,V,V,⟨_,_,V,V,V⟩⟩ ⟨_,_,V,V,⟨_,_,V,V,V⟩⟩ (h _ _ V) (h _ _ V)) (JL.done ?_);refine AP ci (λco cp=>?_) (λco ct=>?_);refine C 4 V ?_;cases cp;obtain rfl:=a6 _ al;have cw:=elim_inl a2;cases cw;exact AK func19 V V (aw (Y.Ad ac) V ⟨V,V⟩ ap);let⟨cy,c0,c1⟩:=bs ct;refine C 4 V (Bw c0 V V V ?_);refine C 2 V ?_;cases c1;exact bx cy (Y.Ad ac) ap V al;refine JL.exit V ?_;cases b5;have c3:a0=(Sum.inr ()):=(a6 _ al).symm;exact AD (bw _ _ ⟨(),Z,c3,V,V,(Y.Ad ac),ap⟩) V;intro a8;refine Hy 10 b1 (λc4 c5=>?_) (λc4 c6=>?_);refine C 2 V (JL.ln underlying23 V V V ?_);refine C 2 V ?_;cases c5;exact AD (a8 _ _ ⟨am,V,V,AL,a5⟩) V;refine C 5 V ?_;cases c6;exact AD (a8 _ _ ⟨am,V,V,AL,a5⟩) V
def f18(fu_:Nat):Option Bool:=(f63 fu_).bind λx1=>(f43 fu_ x1).bind λO=>(f63 fu_).bind λag=>(f33 fu_ ag).bind λU=>(f63 fu_).bind λai=>(f22 fu_ ai).bind λY=>(f63 fu_).bind λaj=>(f24 fu_ aj).bind λZ=>(f64 fu_).bind λal=>(f39 fu_ al).bind λac=>(f65 fu_).bind λam=>(f27 fu_ am).bind λK=>Option.bind (if O.2=0 then(some (decide (U.2=0))) else(some false)) λap=>Option.bind (if ap=true then(some (decide (Y.2=0))) else(some false)) λaq=>Option.bind (if aq=true then(some (decide (Z.2=0))) else(some false)) λaw=>Option.bind (if aw=true then(some (decide (ac.2=0))) else(some false)) λa0=>Option.bind (if a0=true then(some (decide (K.2.2=0))) else(some false)) λa1=>Option.bind (if a1=true then(some (decide (Z.1=16))) else(some false)) λa2=>Option.bind (if a2=true then((f29 fu_ O.1 ([(-6),1,3,2]:List Int)).bind λa3=>some a3) else(some false)) λa4=>Option.bind (if a4=true then((f29 fu_ U.1 ([1,2,3]:List Int)).bind λa5=>some a5) else(some false)) λa6=>Option.bind (if a6=true then((f66 fu_).bind λa7=>(f26 fu_ Y.1 a7).bind λa8=>some a8) else(some false)) λa9=>Option.bind (if a9=true then((f29 fu_ ac.1 ([0]:List Int)).bind λbb=>some bb) else(some false)) λbe=>Option.bind (if be=true then((f67 fu_ ([0,2,6,2,3,3,3,1,1]:List Int)).bind λbg=>(f26 fu_ K.1 bg).bind λbi=>some bi) else(some false)) λbo=>Option.bind (if bo=true then((f29 fu_ K.2.1 ([0,1,2]:List Int)).bind λbv=>some bv) else(some false)) λbw=>some bw
theorem WZ{E:LH}(b4:f18 fu_=some r):AY (Hj Tryz.prog) 5 [] E [] (λw E' B'=>w=.bool r/\B'=[]):=by
 refine Bm func5 λQ lh cs H eo er=>?_;unfold f18 at b4;let⟨x1,et,eu⟩:=bs b4;refine C 6 V (BU (PY et) V V N5 eo ?_);rintro _ li _ ew ⟨lj,ll,lm,lq,rfl,rfl,ex,ey⟩ eA;let⟨a7,eC,eN⟩:=bs eu;refine BU (ig ex ey eC) V V (A4 func20 V) eA ?_;rintro _ lr _ e0 ⟨a8,a9,rfl,rfl,e1⟩ e3;let⟨ls,e4,e5⟩:=bs eN;refine C 8 V (BU (PY e4) V V N5 e3 ?_);rintro _ lu _ b5 ⟨lw,lx,lz,lA,rfl,rfl,e6,e7⟩ e8;refine BF (S':=[[],[],[],[]]) V e8 λff=>?_;let⟨ap,fk,fl⟩:=bs e5;refine BU (iY e6 e7 fk) V V (A4 func22 V) ff ?_;rintro _ lB _ b6 ⟨aq,aw,rfl,rfl,fm⟩ fo;let⟨lC,fs,fv⟩:=bs fl;refine C 8 V (BU (PY fs) V V N5 fo ?_);rintro _ lD _ b1 ⟨lE,lF,lG,lH,rfl,rfl,fw,fN⟩ gc;let⟨ag,ge,gg⟩:=bs fv;refine BU (ij fw fN ge) V V (A4 func23 V) gc ?_;rintro _ lI _ b2 ⟨al,am,rfl,rfl,gh⟩ gt;refine BF (S':=[[],[],[],[],[],[],[]]) V gt λgE=>?_;let⟨lJ,gO,g3⟩:=bs gg;refine C 8 V (BU (PY gO) V V N5 gE ?_);rintro _ lK _ bo ⟨lL,lM,lN,lO,rfl,rfl,g4,g5⟩ g6;let⟨a0,g7,g8⟩:=bs g3;refine B9 (jq g4 g5 g7) V V (A4 func24 V) g6 λlP bv ha=>?_;let⟨lQ,hb,hc⟩:=bs g8;refine C 8 V (BU (jz hb) V V (A4 func26 V) ha ?_);rintro _ lR _ bw ⟨lS,lT,lU,lV,rfl,rfl,he,hf⟩ hg;refine BF (S':=[[],[],[],[],[],[],[],[],[],[]]) V hg λhk=>?_;let⟨O,hl,hm⟩:=bs hc;refine BU (jk he hf hl) V V (A4 func25 V) hk ?_;rintro _ lW _ bx ⟨ai,aj,rfl,rfl,hn⟩ ho;let⟨lX,hp,hq⟩:=bs hm;refine C 8 V (BU (jl hp) V V (A4 func28 V) ho ?_);rintro _ lY _ be ⟨lZ,l3,l4,l5,rfl,rfl,hr,hs⟩ ht;let⟨K,hu,hv⟩:=bs hq;refine BU (iK hr hs hu) V V (A4 func27 V) ht ?_;rintro _ l6 _ bg ⟨Z,ac,U,Y,rfl,rfl,hw,hx⟩ hy;refine BF (S':=[[],[],[],[],[],[],[],[],[],[],[],[],[]]) V hy λca=>?_;let⟨hz,hA,hB⟩:=bs hv;refine C 13 V (Gm 6 52 [] [(1,sV a8 a7.1 a9),(3,sV aq ap.1 aw),(5,sV al ag.1 am),(6,iV ag.2),(7,iV a0.1),(8,iV a0.2),(9,sV ai O.1 aj),(10,iV O.2),(11,sV Z K.1 ac),(12,sV U K.2.1 Y),(13,iV K.2.2),(50,.bool hz)] (λl7 a1 cc=>?_) (λce=>?_));let⟨hC,hD,hE⟩:=bs hB;refine C 1 V (Gm 10 48 [] [(1,sV a8 a7.1 a9),(3,sV aq ap.1 aw),(5,sV al ag.1 am),(7,iV a0.1),(8,iV a0.2),(9,sV ai O.1 aj),(10,iV O.2),(11,sV Z K.1 ac),(12,sV U K.2.1 Y),(13,iV K.2.2),(54,.bool hC)] (λl8 a2 ci=>?_) (λck=>?_));let⟨hF,hG,hH⟩:=bs hE;refine C 1 V (Gm 14 44 [] [(1,sV a8 a7.1 a9),(3,sV aq ap.1 aw),(5,sV al ag.1 am),(7,iV a0.1),(9,sV ai O.1 aj),(10,iV O.2),(11,sV Z K.1 ac),(12,sV U K.2.1 Y),(13,iV K.2.2),(58,.bool hF)] (λl9 a3 co=>?_) (λcp=>?_));let⟨hI,hJ,hK⟩:=bs hH;refine C 1 V (Gm 18 40 [] [(1,sV a8 a7.1 a9),(3,sV aq ap.1 aw),(5,sV al ag.1 am),(7,iV a0.1),(9,sV ai O.1 aj),(11,sV Z K.1 ac),(12,sV U K.2.1 Y),(13,iV K.2.2),(62,.bool hI)] (λma a4 ct=>?_) (λcw=>?_));let⟨hL,hM,hN⟩:=bs hK;refine C 1 V (Gm 22 36 [] [(1,sV a8 a7.1 a9),(3,sV aq ap.1 aw),(5,sV al ag.1 am),(7,iV a0.1),(9,sV ai O.1 aj),(11,sV Z K.1 ac),(12,sV U K.2.1 Y),(66,.bool hL)] (λmb a5 cy=>?_) (λc0=>?_));let⟨hO,hP,hQ⟩:=bs hN;refine C 1 V (Gm 26 32 [] [(1,sV a8 a7.1 a9),(3,sV aq ap.1 aw),(5,sV al ag.1 am),(9,sV ai O.1 aj),(11,sV Z K.1 ac),(12,sV U K.2.1 Y),(70,.bool hO)] (λmc a6 c1=>?_) (λc2=>?_));let⟨hR,hS,hT⟩:=bs hQ;refine C 1 V (Gm 31 27 [] [(3,sV aq ap.1 aw),(5,sV al ag.1 am),(9,sV ai O.1 aj),(11,sV Z K.1 ac),(12,sV U K.2.1 Y),(75,.bool hR)] (λmd bb c3=>?_) (λc4=>?_));obtain⟨hU,hV,hW⟩:=bs hT;refine C 1 V (Gm 36 22 [] [(5,sV al ag.1 am),(9,sV ai O.1 aj),(11,sV Z K.1 ac),(12,sV U K.2.1 Y),(80,.bool hU)] (λme bi c5=>?_) (λc6=>?_));let⟨hX,hY,h0⟩:=bs hW;refine C 1 V (Gm 41 17 [] [(9,sV ai O.1 aj),(11,sV Z K.1 ac),(12,sV U K.2.1 Y),(85,.bool hX)] (λmf b0 c7=>?_) (λc8=>?_));let⟨h1,h2,h3⟩:=bs h0;refine C 1 V (Gm 46 12 [] [(11,sV Z K.1 ac),(12,sV U K.2.1 Y),(90,.bool h1)] (λmg b3 c9=>?_) (λdd=>?_));let⟨h4,h5,h6⟩:=bs h3;refine C 1 V (Gm 52 6 [] [(12,sV U K.2.1 Y),(96,.bool h4)] (λmh dj ea=>?_) (λeb=>?_));let⟨h7,h8,h9⟩:=bs h6;refine C 1 V (Gm 57 1 [] [(101,.bool h7)] (λmi ia ih=>?_) (λec=>?_));refine C 2 V ?_;cases h9;exact AK func5 V V (er (((((((((((((((((((((((ew.Ad e0).Ad b5).Ad b6).Ad b1).Ad b2).Ad bo).Ad bv).Ad bw).Ad bx).Ad be).Ad bg).Ad a1).Ad a2).Ad a3).Ad a4).Ad a5).Ad a6).Ad bb).Ad bi).Ad b0).Ad b3).Ad dj).Ad ia) V ⟨V,V⟩ ih);refine Fy 97 h8 (λii io=>?_) (λii i0=>?_);refine C 1 V (FO (pp:=rI) [iV 0,iV 1,iV 2] [0,1,2] V V V underlying28 Av BR (by decide) V V V ⟨V,V,V,trivial⟩ ea λmj ml i1 i3=>?_);refine BO 0 i1 i3 V λmm ed i4 i5=>?_;let⟨mo,i6,i7⟩:=bs io;refine B9 (Mv (hx.Ag (((((((((((a1.Ad a2).Ad a3).Ad a4).Ad a5).Ad a6).Ad bb).Ad bi).Ad b0).Ad b3).Ad dj).Ad ed)) i4 i6) V V LW i5 λmp i8 i9=>BF (S':=[[],[]]) V i9 λjg=>C 1 V ?_;cases i7;exact ec (ed.Ad i8) jg V;refine C 4 V ?_;cases i0;exact ec AL ea V;refine Fy 91 h5 (λji jj=>?_) (λji jp=>?_);refine C 1 V (FO (pp:=rI) [iV 0,iV 2,iV 6,iV 2,iV 3,iV 3,iV 3,iV 1,iV 1] [0,2,6,2,3,3,3,1,1] V V V underlying28 Av BR (by decide) V V V ⟨V,V,V,V,V,V,V,V,V,trivial⟩ c9 λmq mr jr jt=>?_);refine BO 0 jr jt V λms ee jy jT=>?_;obtain⟨mv,jU,jV⟩:=bs jj;refine BU (PT jy jU) V V N8 jT ?_;rintro _ mw jW ef ⟨my,mz,_,rfl,rfl,jX⟩ jY;refine BF (S':=[[],jW]) V jY λjZ=>BO 1 jX jZ V λmB eg j0 j1=>?_;let⟨mC,j2,j3⟩:=bs jV;refine B9 (PZ (hw.Ag ((((((((((((a1.Ad a2).Ad a3).Ad a4).Ad a5).Ad a6).Ad bb).Ad bi).Ad b0).Ad b3).Ad ee).Ad ef).Ad eg)) j0 j2) V V N3 j1 λmD j4 j5=>C 1 V ?_;cases j3;exact eb (((ee.Ad ef).Ad eg).Ad j4) j5 V;refine C 5 V ?_;cases jp;exact eb AL c9 V;refine Fy 86 h2 (λj6 j7=>?_) (λj6 j8=>?_);refine C 1 V (FO (pp:=rI) [iV 0] [0] V V V underlying28 Av BR (by decide) V V V ⟨V,trivial⟩ c7 λmE mF j9 kb=>?_);refine BO 0 j9 kb V λmG ej kc ke=>?_;let⟨mH,kf,kg⟩:=bs j7;refine B9 (Mv (hn.Ag (((((((((((be.Ad bg).Ad a1).Ad a2).Ad a3).Ad a4).Ad a5).Ad a6).Ad bb).Ad bi).Ad b0).Ad ej)) kc kf) V V LW ke λmI kh ki=>BF (S':=[[],[]]) V ki λkj=>C 1 V ?_;cases kg;exact dd (ej.Ad kh) kj V;refine C 4 V ?_;cases j8;exact dd AL c7 V;refine Fy 81 hY (λkl km=>?_) (λkl kn=>?_);let⟨mJ,ko,kp⟩:=bs km;refine C 1 V (BU (iP ko) V V (A4 func29 V) c5 ?_);rintro _ mK _ ek ⟨mL,mM,rfl,rfl,kq⟩ kr;let⟨mO,ks,kt⟩:=bs kp;refine B9 (PZ (gh.Ag ((((((((((((((bo.Ad bv).Ad bw).Ad bx).Ad be).Ad bg).Ad a1).Ad a2).Ad a3).Ad a4).Ad a5).Ad a6).Ad bb).Ad bi).Ad ek)) kq ks) V V N3 kr λmP ku kv=>C 1 V ?_;cases kt;exact c8 (ek.Ad ku) kv V;refine C 4 V ?_;cases kn;exact c8 AL c5 V;refine Fy 76 hV (λkx ky=>?_) (λkx kz=>?_);refine C 1 V (FO (pp:=rI) [iV 1,iV 2,iV 3] [1,2,3] V V V underlying28 Av BR (by decide) V V V ⟨V,V,V,trivial⟩ c3 λmQ mR kA kB=>?_);refine BO 0 kA kB V λmS el kC kD=>?_;let⟨mT,kF,kG⟩:=bs ky;refine B9 (Mv (fm.Ag (((((((((((((((b1.Ad b2).Ad bo).Ad bv).Ad bw).Ad bx).Ad be).Ad bg).Ad a1).Ad a2).Ad a3).Ad a4).Ad a5).Ad a6).Ad bb).Ad el)) kC kF) V V LW kD λmU kI kJ=>BF (S':=[[],[]]) V kJ λkK=>C 1 V ?_;cases kG;exact c6 (el.Ad kI) kK V;refine C 4 V ?_;cases kz;exact c6 AL c3 V;refine Fy 71 hS (λkL kM=>?_) (λkL kN=>?_);refine C 1 V (FO (pp:=rI) [iV (-6),iV 1,iV 3,iV 2] [(-6),1,3,2] V V V underlying28 Av BR (by decide) V V V ⟨V,V,V,V,trivial⟩ c1 λmV mW kO kP=>?_);refine BO 0 kO kP V λmX em kQ kR=>?_;let⟨mY,kS,kT⟩:=bs kM;refine B9 (Mv (e1.Ag ((((((((((((((((b5.Ad b6).Ad b1).Ad b2).Ad bo).Ad bv).Ad bw).Ad bx).Ad be).Ad bg).Ad a1).Ad a2).Ad a3).Ad a4).Ad a5).Ad a6).Ad em)) kQ kS) V V LW kR λmZ kU kV=>BF (S':=[[],[]]) V kV λkW=>C 1 V ?_;cases kT;exact c4 (em.Ad kU) kW V;refine C 4 V ?_;cases kN;exact c4 AL c1 V;refine Fy 67 hP (λkX kY=>?_) (λkX kZ=>?_);refine C 3 V ?_;cases kY;exact c2 AL cy V;refine C 3 V ?_;cases kZ;exact c2 AL cy V;refine Fy 63 hM (λk0 k1=>?_) (λk0 k2=>?_);refine C 3 V ?_;cases k1;exact c0 AL ct V;refine C 3 V ?_;cases k2;exact c0 AL ct V;refine Fy 59 hJ (λk3 k4=>?_) (λk3 k5=>?_);refine C 3 V ?_;cases k4;exact cw AL co V;refine C 3 V ?_;cases k5;exact cw AL co V;refine Fy 55 hG (λk6 k7=>?_) (λk6 k8=>?_);refine C 3 V ?_;cases k7;exact cp AL ci V;refine C 3 V ?_;cases k8;exact cp AL ci V;refine Fy 51 hD (λk9 la=>?_) (λk9 lb=>?_);refine C 3 V ?_;cases la;exact ck AL cc V;refine C 3 V ?_;cases lb;exact ck AL cc V;refine Hy 47 hA (λld lf=>?_) (λld lg=>?_);refine C 3 V ?_;cases lf;exact ce AL ca V;refine C 3 V ?_;cases lg;exact ce AL ca V
variable {E:LH}
def PK(fu_:Nat)(p0:A0)(K:Int):Option (Bq Int ((Bool)⊕(Unit))):=if K<(p0.1.length:Int) then((ix p0.1 K).bind λO=>if 20<(O.length:Int) then(some (.done (Sum.inl true))) else((Az (K+1)).bind λU=>some (.more U))) else(some (.done (Sum.inr ())))
def f17(fu_:Nat)(p0:A0):Option Bool:=Option.bind (if 20<(p0.1.length:Int) then(some true) else(some (decide (20<(p0.2.length:Int))))) λK=>if K=true then(some true) else(Option.bind (iter (PK fu_ p0) fu_ 0) λO=>Sum.elim (λr=>some r) (λU=>some false) O)
theorem g9{am:Ap}{p0:A0}(bb:Am (rL rI) E a1 c2 p0.1)(c8:Am Ay E am dn p0.2)(aq:f17 fu_ p0=some r):AY J 4 [.agg #[sV a1 p0.1 c2,sV am p0.2 dn]] E [] (λw E' B'=>w=.bool r/\B'=[]):=by
 refine Bm func4 λQ c9 cs H be ac=>?_;unfold f17 at aq;refine C 2 V (Cs be λaw ag U Y a0=>?_);refine C 5 V (BH 0 Y underlying25 DD Ed ?_);refine JL.ln underlying22 V V V ?_;let⟨bg,bi,bo⟩:=bs aq;refine C 2 V (Hh [] (λL s=>∃(ai:LH),Jm ag H ai [] [(1,Ar aw 0),(13,.bool bg)] L s) ?_ ?_);rintro _ _ ⟨ai,rfl,rfl,K,a2⟩;refine JL.done (Cm bo (λbv bw=>?_) (λbv bx=>?_));refine C 4 V ?_;cases bw;exact AK func4 V V (ac (U.Ad K) V ⟨V,V⟩ a2);let⟨a3,b0,a4⟩:=bs bx;refine C 6 V (Bu (λL s=>∃(a5:Unit) (a6:LH),a3=Sum.inr a5/\Jm ai H a6 [] [] L s) ?_ ?_);rintro _ _ ⟨a5,a6,rfl,rfl,rfl,b1,b2⟩;have b3:=elim_inr a4;refine C 4 V ?_;cases b3;exact AK func4 V V (ac ((U.Ad K).Ad b1) V ⟨V,V⟩ b2);intro b4;refine JL.block (Du b0 (λaj=>[]) (λaj=>[(1,Ar aw 0),(3,iV aj)]) AL a2 ?_);rintro aj b5 O al a7 ⟨dd,Z⟩ b6;have a8:=Z;unfold PK at a8;refine C 4 V (BH 0 (Y.Ag (K.Ad O)) underlying25 DD Ed ?_);refine JL.ln underlying22 V V V (C 2 V ?_);refine AP a8 (λca cc=>?_) (λca ce=>?_);refine C 5 V (BH 0 (Y.Ag (K.Ad O)) underlying25 DD Ed ?_);let⟨dj,ci,ck⟩:=bs cc;refine C 1 V (JS.ix (bb.Ag ((U.Ad K).Ad O)) ci underlying22 CE ?_);rintro ea eb _ ⟨ec,ed,rfl,ee⟩ co;refine CJ 0 co ET V V V (JL.ln underlying28 V V V ?_);refine C 2 V (AP ck (λcp ct=>?_) (λcp cw=>?_));refine C 4 V ?_;cases ct;obtain rfl:=a7 _ Z;have cy:=elim_inl a4;cases cy;exact AK func4 V V (ac ((U.Ad K).Ad O) V ⟨V,V⟩ al);let⟨c0,c1,c3⟩:=bs cw;refine C 4 V (Bw c1 V V V ?_);refine C 2 V ?_;cases c3;exact b6 c0 O al V Z;refine JL.exit V ?_;cases ce;have c4:a3=(Sum.inr ()):=(a7 _ Z).symm;exact AD (b4 _ _ ⟨(),b5,c4,V,V,O,al⟩) V;intro a9;refine Hy 8 bi (λc5 c6=>?_) (λc5 c7=>?_);refine C 5 V ?_;cases c6;exact AD (a9 _ _ ⟨ag,V,V,AL,a0⟩) V;refine BH 1 Y underlying25 Cv EO ?_;refine JL.ln underlying23 V V V (C 2 V ?_);cases c7;exact AD (a9 _ _ ⟨ag,V,V,AL,a0⟩) V
def f104(fu_:Nat)(p0:List Int):Option ((List Int)):=(CZ ([]:List Int) p0).bind λK=>some K
theorem fZ{p0:List Int}(Y:Am rI E a1 c2 p0){r:(List Int)}(K:f104 fu_ p0=some r):AY J 61 [sV a1 p0 c2] E [] (λw E' B'=>∃(O:Ap) (U:Nat),w= sV O r U/\B'=[]/\Am rI E' O U r):=by
 refine Bm func61 λQ a4 cs H Z ac=>?_;unfold f104 at K;refine C 6 V (Mk (pp:=rI) V V V underlying28 Av Z λa5 a6 ag ai=>?_);let⟨a7,aj,al⟩:=bs K;refine C 1 V (FM (pp:=rI) 1 aj V V V V V V V underlying28 underlying28 Av (BJ type3) BR V (by decide) (by decide) ag Y ai V λam ap a8 aq aw=>?_);refine C 2 V (BO 1 aq aw V λa9 a0 a2 a3=>?_);cases al;exact AK func61 V V (ac a0 V ⟨am,ap,V,V,a2⟩ a3)
def Pj(fu_:Nat)(p0:AZ)(K:AZ×Int):Option (Bq (AZ×Int) (AZ)):=if K.2<(p0.length:Int) then((ix p0 K.2).bind λO=>(f104 fu_ O).bind λU=>(ix K.1 K.2).bind λZ=>(Az (K.2+1)).bind λY=>some (.more ((K.1.set (Int.toNat K.2) U),Y))) else(some (.done K.1))
def f68(fu_:Nat)(p0:AZ):Option (AZ):=(Fx (p0.length:Int) ([]:List Int)).bind λK=>Option.bind (iter (Pj fu_ p0) fu_ (K,0)) λO=>some O
theorem Xf{p0:AZ}(bg:Am (rL rI) E a1 c2 p0){r:AZ}(a2:f68 fu_ p0=some r):AY J 34 [sV a1 p0 c2] E [] (λw E' B'=>∃(a3:Ap) (a4:Nat),w= sV a3 r a4/\B'=[]/\Am (rL rI) E' a3 a4 r):=by
 refine Bm func34 λQ eu cs H bi bo=>?_;unfold f68 at a2;refine C 7 V (JL.ln underlying22 V V V ?_);let⟨bv,bw,bx⟩:=bs a2;refine JS.make (pp:=(rL rI)) bw V V V V V underlying22 CE (BJ type28) (by decide) Jl (by decide) ⟨_,_,V,Am.nil⟩ bi λb0 b1 b2 b3=>?_;let⟨a5,b4,b5⟩:=bs bx;refine C 7 V (Bu (λL s=>∃(am:LH) (Z:Ap) (ac:Nat) (ap:Seg),Jn E H am [ap] [(3,sV Z a5 ac)] L s (OL 28 (rL rI) am Z ac ap a5)) ?_ ?_);rintro _ _ ⟨am,Z,ac,ap,rfl,rfl,b6,ca,cc⟩;refine C 5 V (BO 0 cc ca V λew ce ci ck=>?_);cases b5;exact AK func34 V V (bo (b6.Ad ce) V ⟨Z,ac,V,V,ci⟩ ck);intro co;refine JL.block (Co b4 (λL s K=>∃(ag:LH) (U:Ap) (Y:Nat) (ai:Seg),Jn E H ag [ai] [(0,sV a1 p0 c2),(3,sV U K.1 Y),(4,iV K.2)] L s (OL 28 (rL rI) ag U Y ai K.1)) ⟨E,(Bh b0),bv.length,b1,V,V,AL,b3,b2⟩ ?_);rintro _ _ K ⟨ag,U,Y,ai,rfl,rfl,aq,a6,a7⟩ cp ⟨ex,aw⟩ ct;have a8:=aw;unfold Pj at a8;refine C 5 V (JL.ln underlying22 V V V ?_);refine C 2 V (AP a8 (λcw cy=>?_) (λcw c0=>?_));let⟨c1,c3,c4⟩:=bs cy;refine C 8 V (JS.ix (bg.Ag aq) c3 underlying22 CE ?_);rintro c5 c6 _ ⟨c7,c8,rfl,c9⟩ dd;refine CJ 0 dd ET V V V ?_;let⟨O,dj,ea⟩:=bs c4;refine BU (fZ c9 dj) V V (A4 func61 V) a6 ?_;rintro _ eb _ a9 ⟨aj,al,rfl,rfl,ec⟩ ed;let⟨ey,ee,ef⟩:=bs ea;refine HS 0 (a7.Ag a9) ee V V V V V V underlying22 CE ?_;rintro bb a0 f78 _ eg ⟨eA,eC,rfl,eN⟩ e0 ej ek e1 e3;refine JS.store (v:=sV aj O al) (off:=a0) 0 V V V ed V V CE (by simp[Value.cells,CL]) eg (by have:=ej;simp only[Rp.n,rK,rN,rB,rP,rL] at this;show _+1<=_;omega) λel=>?_;have em:=ek O [sV aj O al] ⟨_,_,V,ec⟩;have be:(K.1.set (Int.toNat K.2) O).length=K.1.length:=qY;refine DR (L':=[(0,.slice a1 p0.length c2),(3,.slice U ((K.1.set (Int.toNat K.2) O)).length Y),(4,iV K.2),(8,iV K.2),(9,.slice a1 p0.length c2),(10,iV (p0.length:Int)),(11,.bool (decide (K.2<(p0.length:Int)))),(14,.slice U ((K.1.set (Int.toNat K.2) O)).length Y),(15,iV K.2),(16,.slice a1 p0.length c2),(17,iV K.2),(18,Ar c5 c6),(19,.slice c7 c1.length c8),(20,.slice aj O.length al),(21,Ar bb a0)]) ⟨V,by rw[be];rfl,V,V,V,V,V,by rw[be];rfl,V,V,V,V,V,V,V,trivial⟩ ?_;let⟨eo,er,et⟩:=bs ef;refine C 4 V (Bw er V V V ?_);refine C 2 V ?_;cases et;exact AD (ct _ _ ((K.1.set (Int.toNat K.2) O),eo) ⟨eb,U,Y,[(bb,.cells (Bf f78 a0 [sV aj O al]) 28 (0,0))],V,V,(aq.Ad a9),el,em⟩ aw) V;refine JL.exit V ?_;cases c0;obtain rfl:=cp _ aw;exact AD (co _ _ ⟨ag,U,Y,ai,V,V,aq,a6,a7⟩) V
def f69(fu_:Nat)(p0:AB):Option (AB):=(CZ ([]:AB) p0).bind λK=>some K
theorem iO{p0:AB}(Y:Am Ay E a1 c2 p0){r:AB}(K:f69 fu_ p0=some r):AY J 10 [sV a1 p0 c2] E [] (λw E' B'=>∃(O:Ap) (U:Nat),w= sV O r U/\B'=[]/\Am Ay E' O U r):=by
 refine Bm func10 λQ a4 cs H Z ac=>?_;unfold f69 at K;refine C 6 V (Mk (pp:=Ay) V V V underlying23 AX Z λa5 a6 ag ai=>?_);let⟨a7,aj,al⟩:=bs K;refine C 1 V (FM (pp:=Ay) 1 aj V V V V V V V underlying23 underlying23 AX (BJ type27) BC V (by decide) (by decide) ag Y ai V λam ap a8 aq aw=>?_);refine C 2 V (BO 1 aq aw V λa9 a0 a2 a3=>?_);cases al;exact AK func10 V V (ac a0 V ⟨am,ap,V,V,a2⟩ a3)
def f21(fu_:Nat)(p0:A0):Option (A0):=(f68 fu_ p0.1).bind λK=>(f69 fu_ p0.2).bind λO=>some (K,O)
theorem W1{aj:Ap}{al:Nat}{p0:A0}(a6:Am (rL rI) E a1 c2 p0.1)(a7:Am Ay E aj al p0.2){r:A0}(am:f21 fu_ p0=some r):AY J 12 [.agg #[sV a1 p0.1 c2,sV aj p0.2 al]] E [] (λw E' B'=>∃(ap:Ap) (aq:Nat) (aw:Ap) (a0:Nat),w=.agg #[sV ap r.1 aq,sV aw r.2 a0]/\B'=[]/\Am (rL rI) E' ap aq r.1/\Am Ay E' aw a0 r.2):=by
 refine Bm func12 λQ b3 cs H a8 a9=>?_;unfold f21 at am;refine C 2 V (Cs a8 λb4 b5 ai a2 bb=>?_);refine BZ bb GV λb6 be=>?_;refine C 2 V (Ei 5 λZ=>?_);refine JG.fd 0 Z underlying25 DD V V V V (CY 1 Z 0 a2 Ed V V V V ?_);refine JG.fd 3 Z underlying25 Cv V V V V (CY 4 Z 1 a2 EO V V V V ?_);let⟨ac,bg,bi⟩:=bs am;refine JG.call (i:=2) (vs:=[sV a1 p0.1 c2]) (Xf (a6.Ag ai) bg) (by decide+kernel) V V V (A4 func34 V) V be ?_;rintro _ ca _ a3 ⟨K,O,rfl,rfl,bo⟩ bv;refine Cn [5,6,7] ?_;let⟨ag,bw,bx⟩:=bs bi;refine BU (iO (a7.Ag (ai.Ad a3)) bw) V V MN bv ?_;rintro _ cc _ a4 ⟨U,Y,rfl,rfl,b0⟩ b1;refine Ao (v:=.agg #[sV K ac O,sV U ag Y]) V (λρ h=>Dk [(0,1),(1,1)] h GV underlying25 ⟨V,A5 type22,V,A5 type23,trivial⟩ V V) (JS.sx 2 b1 BD λa5=>?_);refine JL.done ?_;cases bx;refine JL.ret (v:=.agg #[sV K ac O,sV U ag Y]) V V (BK.list func12 V (vs:=[.agg #[sV K ac O,sV U ag Y]]) ⟨⟨_,V,Ld.many (vs:=[sV K ac O,sV U ag Y]) Cb BD (Em (off:=0) 2 a5 V V)⟩,trivial⟩) (DW 2 a5 V λb2=>?_);exact a9 ((ai.Ad a3).Ad a4) V ⟨K,O,U,Y,V,V,(bo.Ag a4),b0⟩ b2
def f20(fu_:Nat)(p0:List Int):Option ((B4)):=some (p0,0,2685821657736338717)
theorem iX{p0:List Int}(Z:Am rI E a1 c2 p0){r:(B4)}(K:f20 fu_ p0=some r):AY J 6 [sV a1 p0 c2] E [] (λw E' B'=>∃(O:Nat) (U:Ap) (Y:Nat),w= Ar O 0/\B'=[(O,.cells #[sV U r.1 Y,iV r.2.1,.int .u64 ((r.2.2:Nat):Int)] 61 (0,0))]/\Am rI E' U Y r.1):=by
 refine Bm func6 λQ al cs H ac ag=>?_;unfold f20 at K;refine C 7 V (Ao (v:=.agg #[sV a1 p0 c2,iV 0,.int .u64 ((2685821657736338717:Nat):Int)]) V (λρ h=>Dk [(0,1),(1,1),(2,1)] h (Eg type61) underlying61 ⟨V,A5 type28,V,A5 type3,V,A5 type59,trivial⟩ V V) ?_);refine JS.box (v:=.agg #[sV a1 p0 c2,iV 0,.int .u64 ((2685821657736338717:Nat):Int)]) V V V ac V λai aj=>C 2 V ?_;cases K;exact AK func6 V V (ag AL V ⟨ai,a1,c2,V,(by first | rfl | simp | (simp[Value.cells])),Z⟩ aj)
def f92(fu_:Nat)(p0:Int)(p1:Int)(p2:Int):Option Bool:=Option.bind (if p1<=p0 then(some (decide (p0<=p2))) else(some false)) λx1=>some x1
variable{p2:Int}
theorem P0{p0 p1:Int}(K:f92 fu_ p0 p1 p2=some r):AY J 35 [iV p0,iV p1,iV p2] E [] (λw E' B'=>w=.bool r/\B'=[]):=by
 refine Bm func35 λQ ap cs H O Y=>?_;unfold f92 at K;let⟨x1,Z,ac⟩:=bs K;refine C 10 V (Gm 8 1 [] [(14,.bool x1)] (λaq ag ai=>?_) (λU=>?_));refine C 2 V ?_;cases ac;exact AK func35 V V (Y ag V ⟨V,V⟩ ai);refine Hy 10 Z (λaj al=>?_) (λaj am=>?_);refine C 4 V ?_;cases al;exact U AL O V;refine C 4 V ?_;cases am;exact U AL O V
def f88(fu_:Nat)(p0:Int)(p1:Int×Int×Int)(p2:Int):Option Int:=(Az (p0 - 1)).bind λK=>(f92 fu_ p1.1 0 K).bind λO=>Option.bind (if(!O)=true then(some true) else((Az (p0 - 1)).bind λU=>(f92 fu_ p1.2.1 0 U).bind λY=>some (!Y))) λZ=>if Z=true then(some 3) else(if p1.1=p1.2.1 then(some 8) else((f92 fu_ p1.2.2 1 p2).bind λac=>if(!ac)=true then(some 1) else(some 0)))
theorem Xk{p0:Int}{p1:Int×Int×Int}{r:Int}(ag:f88 fu_ p0 p1 p2=some r):AY J 36 [iV p0,.agg #[iV p1.1,iV p1.2.1,iV p1.2.2],iV p2] E [] (λw E' B'=>w=iV r/\B'=[]):=by
 refine Bm func36 λQ ck cs H ap Y=>?_;unfold f88 at ag;refine C 2 V (Cs ap λr2 co Z U aq=>?_);refine C 6 V (BH 0 U underlying27 Av AV ?_);let⟨cp,aw,a0⟩:=bs ag;refine C 1 V (Cx aw V V V ?_);let⟨a1,a2,a3⟩:=bs a0;refine B9 (P0 a2) V V N2 aq λct K ai=>Ao (v:=.bool (!a1)) V (λρ h=>Yl.not (h _ _ V)) ?_;let⟨a4,a5,a6⟩:=bs a3;refine C 1 V (Gm 14 1 [] [(2,iV p2),(4,Ar r2 0),(21,.bool a4)] (λcw O ac=>?_) (λaj=>?_));refine C 2 V (Cm a6 (λa7 a8=>?_) (λa7 a9=>?_));refine C 4 V ?_;cases a8;exact AK func36 V V (Y ((Z.Ad K).Ad O) V ⟨V,V⟩ ac);refine C 2 V (BH 0 (U.Ag (K.Ad O)) underlying27 Av AV ?_);refine BH 1 (U.Ag (K.Ad O)) underlying27 Av AV ?_;refine C 3 V (AP a9 (λbb be=>?_) (λbb bg=>?_));refine C 4 V ?_;cases be;exact AK func36 V V (Y ((Z.Ad K).Ad O) V ⟨V,V⟩ ac);refine C 2 V (BH 2 (U.Ag (K.Ad O)) underlying27 Av AV ?_);let⟨bi,bo,bv⟩:=bs bg;refine C 1 V (B9 (P0 bo) V V N2 ac λcy al am=>?_);refine Ao (v:=.bool (!bi)) V (λρ h=>Yl.not (h _ _ V)) (C 2 V ?_);refine Cm bv (λbw bx=>?_) (λbw b0=>?_);refine C 4 V ?_;cases bx;exact AK func36 V V (Y (((Z.Ad K).Ad O).Ad al) V ⟨V,V⟩ am);refine C 6 V ?_;cases b0;exact AK func36 V V (Y (((Z.Ad K).Ad O).Ad al) V ⟨V,V⟩ am);refine Fy 14 a5 (λb1 b2=>?_) (λb1 b3=>?_);refine C 7 V ?_;cases b2;exact aj AL ai V;refine BH 1 (U.Ag K) underlying27 Av AV ?_;let⟨c0,b4,b5⟩:=bs b3;refine C 1 V (Cx b4 V V V ?_);let⟨b6,ca,cc⟩:=bs b5;refine B9 (P0 ca) V V N2 ai λc1 ce ci=>Ao (v:=.bool (!b6)) V (λρ h=>Yl.not (h _ _ V)) (C 1 V ?_);cases cc;exact aj ce ci V
def Mr(fu_:Nat)(p0:A0)(O:Int)(K:Int):Option (Bq Int ((Int)⊕(Unit))):=(ix p0.1 O).bind λU=>if K<(U.length:Int) then((ix p0.1 O).bind λY=>(ix Y K).bind λZ=>(f92 fu_ Z 1 9).bind λac=>if(!ac)=true then(some (.done (Sum.inl 1))) else((Az (K+1)).bind λag=>some (.more ag))) else(some (.done (Sum.inr ())))
def Ms(fu_:Nat)(p0:A0)(K:Int):Option (Bq Int ((Int)⊕(Unit))):=if K<(p0.1.length:Int) then((ix p0.1 K).bind λO=>if 3<(O.length:Int) then(some (.done (Sum.inl 6))) else(Option.bind (iter (Mr fu_ p0 K) fu_ 0) λU=>Sum.elim (λr=>some (.done (Sum.inl r))) (λZ=>(Az (K+1)).bind λY=>some (.more Y)) U)) else(some (.done (Sum.inr ())))
def Pm(fu_:Nat)(p0:A0)(K:Int):Option (Bq Int ((Int)⊕(Unit))):=if K<(p0.2.length:Int) then((ix p0.2 K).bind λU=>(f88 fu_ (p0.1.length:Int) U 9).bind λO=>if O≠0 then(some (.done (Sum.inl O))) else((Az (K+1)).bind λY=>some (.more Y))) else(some (.done (Sum.inr ())))
def f48(fu_:Nat)(p0:A0):Option Int:=if(p0.1.length:Int)<2 then(some 7) else(if 5<(p0.1.length:Int) then(some 6) else(Option.bind (iter (Ms fu_ p0) fu_ 0) λK=>Sum.elim (λr=>some r) (λU=>if 8<(p0.2.length:Int) then(some 6) else(Option.bind (iter (Pm fu_ p0) fu_ 0) λO=>Sum.elim (λr=>some r) (λY=>some 0) O)) K))
theorem W5{a7:Ap}{p0:A0}(aq:Am (rL rI) E a1 c2 p0.1)(cw:Am Ay E a7 dn p0.2){r:Int}(a9:f48 fu_ p0=some r):AY J 8 [.agg #[sV a1 p0.1 c2,sV a7 p0.2 dn]] E [] (λw E' B'=>w=iV r/\B'=[]):=by
 refine Bm func8 λQ hz cs H cy U=>?_;unfold f48 at a9;refine C 2 V (Cs cy λai c0 K Y aw=>?_);refine C 4 V (BH 0 Y underlying25 DD Ed ?_);refine JL.ln underlying22 V V V (C 8 V ?_);refine AP a9 (λc1 c3=>?_) (λc1 c4=>?_);refine C 4 V ?_;cases c3;exact AK func8 V V (U K V ⟨V,V⟩ aw);refine C 7 V (AP c4 (λc5 c6=>?_) (λc5 c7=>?_));refine C 4 V ?_;cases c6;exact AK func8 V V (U K V ⟨V,V⟩ aw);let⟨bb,c8,a0⟩:=bs c7;refine C 6 V (Bu (λL s=>∃(be:Unit) (a2:LH),bb=Sum.inr be/\Jm c0 H a2 [] [(1,Ar ai 0),(3,iV (p0.1.length:Int))] L s) ?_ ?_);rintro _ _ ⟨be,a2,rfl,rfl,rfl,Z,bg⟩;have c9:=elim_inr a0;refine C 3 V (BH 1 (Y.Ag Z) underlying25 Cv EO ?_);refine JL.ln underlying23 V V V (C 2 V ?_);refine AP c9 (λdd dj=>?_) (λdd ea=>?_);refine C 4 V ?_;cases dj;exact AK func8 V V (U (K.Ad Z) V ⟨V,V⟩ bg);let⟨bi,eb,bo⟩:=bs ea;refine C 6 V (Bu (λL s=>∃(bv:Unit) (bw:LH),bi=Sum.inr bv/\Jm a2 H bw [] [] L s) ?_ ?_);rintro _ _ ⟨bv,bw,rfl,rfl,rfl,ec,ed⟩;have ee:=elim_inr bo;refine C 4 V ?_;cases ee;exact AK func8 V V (U ((K.Ad Z).Ad ec) V ⟨V,V⟩ ed);intro ef;refine JL.block (Du eb (λa3=>[]) (λa3=>[(1,Ar ai 0),(3,iV (p0.1.length:Int)),(6,iV a3)]) AL bg ?_);rintro a3 eg ag bx b0 ⟨hA,am⟩ ej;have b1:=am;unfold Pm at b1;refine C 4 V (BH 1 (Y.Ag (Z.Ad ag)) underlying25 Cv EO ?_);refine JL.ln underlying23 V V V (C 2 V ?_);refine AP b1 (λek el=>?_) (λek em=>?_);refine C 6 V (BH 1 (Y.Ag (Z.Ad ag)) underlying25 Cv EO ?_);let⟨hB,eo,er⟩:=bs el;refine C 1 V (JS.ix (cw.Ag ((K.Ad Z).Ad ag)) eo underlying23 AX ?_);rintro hC hD _ ⟨_,_,rfl,rfl,⟨_,_,rfl,rfl,rfl⟩⟩ et;refine BQ et C7 AX V V ?_;let⟨hE,eu,ew⟩:=bs er;refine B9 (Xk eu) V V (A4 func36 V) bx λhF b2 b3=>C 7 V (AP ew (λex ey=>?_) (λex eA=>?_));refine C 5 V ?_;cases ey;obtain rfl:=b0 _ am;have eC:=elim_inl bo;cases eC;exact AK func8 V V (U (((K.Ad Z).Ad ag).Ad b2) V ⟨V,V⟩ b3);let⟨eN,e0,e1⟩:=bs eA;refine C 4 V (Bw e0 V V V ?_);refine C 2 V ?_;cases e1;exact ej eN (ag.Ad b2) b3 V am;refine JL.exit V ?_;cases em;have e3:bi=(Sum.inr ()):=(b0 _ am).symm;exact AD (ef _ _ ⟨(),eg,e3,V,V,ag,bx⟩) V;intro e4;refine JL.block (Du c8 (λaj=>[]) (λaj=>[(1,Ar ai 0),(3,iV (p0.1.length:Int)),(4,iV aj)]) AL aw ?_);rintro aj b4 O a4 a5 ⟨hG,al⟩ e5;have b5:=al;unfold Ms at b5;refine C 7 V (AP b5 (λe6 e7=>?_) (λe6 e8=>?_));refine C 6 V (BH 0 (Y.Ag O) underlying25 DD Ed ?_);let⟨hH,ff,fk⟩:=bs e7;refine C 1 V (JS.ix (aq.Ag (K.Ad O)) ff underlying22 CE ?_);rintro hI hJ _ ⟨hK,hL,rfl,hM⟩ fl;refine CJ 0 fl ET V V V (JL.ln underlying28 V V V ?_);refine C 2 V (AP fk (λfm fo=>?_) (λfm fs=>?_));refine C 4 V ?_;cases fo;obtain rfl:=a5 _ al;have fv:=elim_inl a0;cases fv;exact AK func8 V V (U (K.Ad O) V ⟨V,V⟩ a4);let⟨b6,fw,ca⟩:=bs fs;refine C 5 V (Bu (λL s=>∃(cc:Unit) (ce:LH),b6=Sum.inr cc/\Jm b4 H ce [] [(1,Ar ai 0),(3,iV (p0.1.length:Int)),(4,iV aj)] L s) ?_ ?_);rintro _ _ ⟨cc,ce,rfl,rfl,rfl,fN,gc⟩;have ge:=elim_inr ca;let⟨gg,gh,gt⟩:=bs ge;refine C 3 V (Bw gh V V V ?_);refine C 2 V ?_;cases gt;exact e5 gg (O.Ad fN) gc V al;intro gE;refine JL.block (Du fw (λa6=>[]) (λa6=>[(1,Ar ai 0),(3,iV (p0.1.length:Int)),(4,iV aj),(5,iV a6)]) AL a4 ?_);rintro a6 gO ac ci ck ⟨hN,ap⟩ g3;have co:=ap;unfold Mr at co;refine C 4 V (BH 0 (Y.Ag (O.Ad ac)) underlying25 DD Ed ?_);let⟨hO,g4,g5⟩:=bs co;refine C 1 V (JS.ix (aq.Ag ((K.Ad O).Ad ac)) g4 underlying22 CE ?_);rintro hP hQ _ ⟨hR,hS,rfl,hT⟩ g6;refine CJ 0 g6 ET V V V (JL.ln underlying28 V V V ?_);refine C 2 V (AP g5 (λg7 g8=>?_) (λg7 ha=>?_));refine C 5 V (BH 0 (Y.Ag (O.Ad ac)) underlying25 DD Ed ?_);let⟨hU,hb,hc⟩:=bs g8;refine C 1 V (JS.ix (aq.Ag ((K.Ad O).Ad ac)) hb underlying22 CE ?_);rintro hV hW _ ⟨hX,hY,rfl,he⟩ hf;refine CJ 0 hf ET V V V ?_;let⟨h0,hg,hk⟩:=bs hc;refine C 1 V (JS.ix he hg underlying28 Av ?_);rintro h1 h2 _ rfl hl;refine CJ 0 hl AV V V V ?_;let⟨hm,hn,ho⟩:=bs hk;refine B9 (P0 hn) V V N2 ci λh3 cp ct=>Ao (v:=.bool (!hm)) V (λρ h=>Yl.not (h _ _ V)) (JL.done ?_);refine Cm ho (λhp hq=>?_) (λhp hr=>?_);refine C 4 V ?_;cases hq;obtain rfl:=ck _ ap;have hs:=elim_inl ca;cases hs;obtain rfl:=a5 _ al;have ht:=elim_inl a0;cases ht;exact AK func8 V V (U (((K.Ad O).Ad ac).Ad cp) V ⟨V,V⟩ ct);let⟨hu,hv,hw⟩:=bs hr;refine C 4 V (Bw hv V V V ?_);refine C 2 V ?_;cases hw;exact g3 hu (ac.Ad cp) ct V ap;refine JL.exit V ?_;cases ha;have hx:b6=(Sum.inr ()):=(ck _ ap).symm;exact AD (gE _ _ ⟨(),gO,hx,V,V,ac,ci⟩) V;refine JL.exit V ?_;cases e8;have hy:bb=(Sum.inr ()):=(a5 _ al).symm;exact AD (e4 _ _ ⟨(),b4,hy,V,V,O,a4⟩) V
def PI(fu_:Nat)(p0:AZ)(p1:AZ)(K:Int):Option (Bq Int ((Bool)⊕(Unit))):=Option.bind (if K<(p0.length:Int) then(some (decide (K<(p1.length:Int)))) else(some false)) λO=>if O=true then((ix p0 K).bind λU=>(ix p1 K).bind λY=>(f29 fu_ U Y).bind λZ=>if(!Z)=true then(some (.done (Sum.inl false))) else((Az (K+1)).bind λac=>some (.more ac))) else(some (.done (Sum.inr ())))
def f80(fu_:Nat)(p0:AZ)(p1:AZ):Option Bool:=Option.bind (iter (PI fu_ p0 p1) fu_ 0) λK=>Sum.elim (λr=>some r) (λO=>some (decide ((p0.length:Int)=(p1.length:Int)))) K
theorem iw{p0 p1:AZ}(a9:Am (rL rI) E a1 c2 p0)(bb:Am (rL rI) E O U p1)(al:f80 fu_ p0 p1=some r):AY J 47 [sV a1 p0 c2,sV O p1 U] E [] (λw E' B'=>w=.bool r/\B'=[]):=by
 refine Bm func47 λQ ea cs H be am=>?_;unfold f80 at al;let⟨ap,bg,aq⟩:=bs al;refine C 9 V (Bu (λL s=>∃(aw:Unit) (a0:LH),ap=Sum.inr aw/\Jm E H a0 [] [(0,sV a1 p0 c2),(1,sV O p1 U)] L s) ?_ ?_);rintro _ _ ⟨aw,a0,rfl,rfl,rfl,bi,bo⟩;have bv:=elim_inr aq;refine C 3 V (JL.ln underlying22 V V V ?_);refine C 1 V (JL.ln underlying22 V V V ?_);refine C 3 V ?_;cases bv;exact AK func47 V V (am bi V ⟨V,V⟩ bo);intro bw;refine JL.block (Du bg (λac=>[]) (λac=>[(0,sV a1 p0 c2),(1,sV O p1 U),(5,iV ac)]) AL be ?_);rintro ac ai Y a2 a3 ⟨eb,ag⟩ bx;have a4:=ag;unfold PI at a4;refine C 5 V (JL.ln underlying22 V V V ?_);let⟨b0,b1,b2⟩:=bs a4;refine C 2 V (Hh [] (λL s=>∃(aj:LH),Jm ai H aj [] [(0,sV a1 p0 c2),(1,sV O p1 U),(5,iV ac),(15,.bool b0)] L s) ?_ ?_);rintro _ _ ⟨aj,rfl,rfl,Z,a5⟩;refine JL.done (Cm b2 (λb3 b4=>?_) (λb3 b5=>?_));refine C 4 V (Ei 8 λK=>?_);refine A9 K V [0,1] V ?_;let⟨ec,b6,ca⟩:=bs b4;refine CU 2 (a9.Ag (Y.Ad Z)) b6 K underlying22 CE ?_;rintro ed ee _ ⟨ef,eg,rfl,cc⟩ ce;refine CY 3 K 0 ce ET V V V V (A9 K V [4,5] V ?_);let⟨ej,ci,ck⟩:=bs ca;refine CU 6 (bb.Ag (Y.Ad Z)) ci K underlying22 CE ?_;rintro ek el _ ⟨em,eo,rfl,co⟩ cp;refine CY 7 K 0 cp ET V V V V (Cn [8,9] ?_);let⟨ct,cw,cy⟩:=bs ck;refine B9 (Mv cc co cw) V V LW a5 λer a6 a7=>Ao (v:=.bool (!ct)) V (λρ h=>Yl.not (h _ _ V)) (JL.done ?_);refine Cm cy (λc0 c1=>?_) (λc0 c3=>?_);refine C 4 V ?_;cases c1;obtain rfl:=a3 _ ag;have c4:=elim_inl aq;cases c4;exact AK func47 V V (am ((Y.Ad Z).Ad a6) V ⟨V,V⟩ a7);let⟨c5,c6,c7⟩:=bs c3;refine C 4 V (Bw c6 V V V ?_);refine C 2 V ?_;cases c7;exact bx c5 ((Y.Ad Z).Ad a6) a7 V ag;refine JL.exit V ?_;cases b5;have c8:ap=(Sum.inr ()):=(a3 _ ag).symm;exact AD (bw _ _ ⟨(),aj,c8,V,V,(Y.Ad Z),a5⟩) V;intro a8;refine Hy 10 b1 (λc9 dd=>?_) (λc9 dj=>?_);refine C 2 V (JL.ln underlying22 V V V ?_);refine C 2 V ?_;cases dd;exact AD (a8 _ _ ⟨ai,V,V,AL,a2⟩) V;refine C 5 V ?_;cases dj;exact AD (a8 _ _ ⟨ai,V,V,AL,a2⟩) V
def f30(fu_:Nat)(p0:A0)(p1:A0):Option Bool:=(f80 fu_ p0.1 p1.1).bind λK=>Option.bind (if K=true then((f26 fu_ p0.2 p1.2).bind λO=>some O) else(some false)) λU=>some U
theorem iT{Y:Ap}{Z:Nat}{ac:Ap}{ag:Nat}{p0 p1:A0}(a0:Am (rL rI) E a1 c2 p0.1)(a2:Am Ay E Y Z p0.2)(a3:Am (rL rI) E ac ag p1.1)(a4:Am Ay E ai aj p1.2)(al:f30 fu_ p0 p1=some r):AY J 18 [.agg #[sV a1 p0.1 c2,sV Y p0.2 Z],.agg #[sV ac p1.1 ag,sV ai p1.2 aj]] E [] (λw E' B'=>w=.bool r/\B'=[]):=by
 refine Bm func18 λQ b6 cs H a5 a6=>?_;unfold f30 at al;refine C 2 V (Cs a5 λca cc O am a7=>?_);refine Cs a7 λce ci K ap a8=>?_;refine C 4 V (BH 0 (am.Ag K) underlying25 DD Ed ?_);refine BH 0 ap underlying25 DD Ed ?_;let⟨ck,a9,bb⟩:=bs al;refine B9 (iw (a0.Ag (O.Ad K)) (a3.Ag (O.Ad K)) a9) V V (A4 func47 V) a8 λco U be=>BF (S':=[[],[],[],[]]) V be λaq=>?_;let⟨bg,bi,bo⟩:=bs bb;refine C 1 V (Gm 12 1 [] [(16,.bool bg)] (λcp bv bw=>?_) (λaw=>?_));refine C 2 V ?_;cases bo;exact AK func18 V V (a6 (((O.Ad K).Ad U).Ad bv) V ⟨V,V⟩ bw);refine Fy 10 bi (λbx b0=>?_) (λbx b1=>?_);refine BH 1 (am.Ag (K.Ad U)) underlying25 Cv EO ?_;refine BH 1 (ap.Ag U) underlying25 Cv EO ?_;let⟨ct,b2,b3⟩:=bs b0;refine B9 (PZ (a2.Ag ((O.Ad K).Ad U)) (a4.Ag ((O.Ad K).Ad U)) b2) V V N3 aq λcw b4 b5=>C 1 V ?_;cases b3;exact aw b4 b5 V;refine C 6 V ?_;cases b1;exact aw AL aq V
variable {E:LH}
def f83(fu_:Nat)(p0:B4):Option (Nat×(B4)):=(Az (p0.2.1+1)).bind λO=>Option.bind (if O<=(p0.1.length:Int) then((Az (O - 1)).bind λU=>(ix p0.1 U).bind λY=>some (((((DO O)*11400714819323198485)%2^64) ^^^ (((DO Y)*14029467366897019727)%2^64))%2^64)) else(some (((DO O)*11400714819323198485)%2^64))) λK=>some (((((((((((p0.2.2 ^^^ K)%2^64)*18397679294719823053)%2^64) ^^^ (((((p0.2.2 ^^^ K)%2^64)*18397679294719823053)%2^64)>>>33))%2^64)*14181476777654086739)%2^64) ^^^ (((((((((p0.2.2 ^^^ K)%2^64)*18397679294719823053)%2^64) ^^^ (((((p0.2.2 ^^^ K)%2^64)*18397679294719823053)%2^64)>>>33))%2^64)*14181476777654086739)%2^64)>>>29))%2^64)>>>11,(p0.1,O,(((((p0.2.2 ^^^ K)%2^64)*18397679294719823053)%2^64) ^^^ (((((p0.2.2 ^^^ K)%2^64)*18397679294719823053)%2^64)>>>33))%2^64))
variable{bk:Nat}{p0:B4}
theorem iu(ai:Am rI E a1 c2 p0.1){r:Nat×(B4)}(aj:f83 fu_ p0=some r):AY J 39 [Ar bk 0] E [(bk,.cells #[sV a1 p0.1 c2,iV p0.2.1,.int .u64 ((p0.2.2:Nat):Int)] 61 (0,0))] (λw E' B'=>∃(al:Ap) (am:Nat),w=.int .u64 ((r.1:Nat):Int)/\B'=[(bk,.cells #[sV al r.2.1 am,iV r.2.2.1,.int .u64 ((r.2.2.2:Nat):Int)] 61 (0,0))]/\Am rI E' al am r.2.1):=by
 refine Bm func39 λQ bw cs H ap a3=>?_;unfold f83 at aj;refine C 8 V (JL.fd underlying61 Av V V V ?_);refine Ao (v:=iV p0.2.1) V (λρ h=>Yl.load AV (h _ _ V) (BY (j:=0) (off:=1) ap V V)) ?_;let⟨Y,a4,a5⟩:=bs aj;refine Bw a4 V V V (C 1 V ?_);refine JL.fd underlying61 Av V V V (JS.sx 0 ap Av λU=>?_);refine C 5 V (JL.fd underlying61 Av V V V ?_);refine Ao (v:=iV Y) V (λρ h=>Yl.load AV (h _ _ V) (BY (j:=0) (off:=1) U V V)) (Ao (v:=.int .u64 ((DO Y:Nat):Int)) V (λρ h=>Yl.DO underlying3 underlying59 (h _ _ V)) ?_);refine Ao (v:=.int .u64 ((((DO Y)*11400714819323198485)%2^64:Nat):Int)) V (λρ h=>OR (h _ _ V) (h _ _ V)) (C 4 V ?_);refine F7 9 [bk] ⟨⟨0,_,V⟩,trivial⟩ U λK=>A9 K V [0,1] V (JG.fd 2 K underlying61 Av V V V V ?_);refine Ls 3 K 1 0 U AV ?_;refine A9 K V [4,5] V (JG.fd 6 K underlying61 CE V V V V ?_);refine Ls 7 K 0 0 U ET ?_;refine A6 8 K V V (λρ h s' Z=>Yl.len V underlying28 (h _ _ V)) (Cn [9] ?_);let⟨O,a6,a7⟩:=bs a5;refine C 2 V (FQ [bX bk #[sV a1 p0.1 c2,iV Y,.int .u64 ((p0.2.2:Nat):Int)] 61] [(0,Ar bk 0),(3,.int .u64 ((O:Nat):Int))] (λbx aq aw=>?_) (λa0=>?_));refine C 5 V (JL.fd underlying61 Kw V V V ?_);refine Ao (v:=.int .u64 ((p0.2.2:Nat):Int)) V (λρ h=>Yl.load NZ (h _ _ V) (BY (j:=0) (off:=2) aw V V)) (C 1 V ?_);refine Ao (v:=.int .u64 (((p0.2.2 ^^^ O)%2^64:Nat):Int)) V (λρ h=>OH (h _ _ V) (h _ _ V)) (Ao (v:=.int .u64 (((((p0.2.2 ^^^ O)%2^64)*18397679294719823053)%2^64:Nat):Int)) V (λρ h=>OR (h _ _ V) (h _ _ V)) ?_);refine C 1 V (JL.fd underlying61 Kw V V V ?_);refine JS.sx 0 aw Kw λac=>?_;refine C 2 V (F7 11 [bk] ⟨⟨0,_,V⟩,trivial⟩ ac λK=>?_);refine A9 K V [0,1,2] V (JG.fd 3 K underlying61 Kw V V V V ?_);refine Ls 4 K 2 0 ac NZ ?_;refine A9 K V [5,6] V (JG.fd 7 K underlying61 Kw V V V V ?_);refine Ls 8 K 2 0 ac NZ ?_;refine A6 (v:=.int .u64 ((((((p0.2.2 ^^^ O)%2^64)*18397679294719823053)%2^64)>>>33:Nat):Int)) 9 K V V (λρ h s' Z=>Me 33 (h _ _ V) (h _ _ V) (by decide)) (A6 (v:=.int .u64 (((((((p0.2.2 ^^^ O)%2^64)*18397679294719823053)%2^64) ^^^ (((((p0.2.2 ^^^ O)%2^64)*18397679294719823053)%2^64)>>>33))%2^64:Nat):Int)) 10 K V V (λρ h s' Z=>OH (h _ _ V) (h _ _ V)) ?_);refine Cn [11,12,13] (C 1 V ?_);refine JL.fd underlying61 Kw V V V (JS.sx 0 ac Kw λa2=>?_);refine C 5 V (JL.fd underlying61 Kw V V V ?_);refine Ao (v:=.int .u64 (((((((p0.2.2 ^^^ O)%2^64)*18397679294719823053)%2^64) ^^^ (((((p0.2.2 ^^^ O)%2^64)*18397679294719823053)%2^64)>>>33))%2^64:Nat):Int)) V (λρ h=>Yl.load NZ (h _ _ V) (BY (j:=0) (off:=2) a2 V V)) (Ao (v:=.int .u64 (((((((((p0.2.2 ^^^ O)%2^64)*18397679294719823053)%2^64) ^^^ (((((p0.2.2 ^^^ O)%2^64)*18397679294719823053)%2^64)>>>33))%2^64)*14181476777654086739)%2^64:Nat):Int)) V (λρ h=>OR (h _ _ V) (h _ _ V)) ?_);refine C 6 V (Ao (v:=.int .u64 ((((((((((p0.2.2 ^^^ O)%2^64)*18397679294719823053)%2^64) ^^^ (((((p0.2.2 ^^^ O)%2^64)*18397679294719823053)%2^64)>>>33))%2^64)*14181476777654086739)%2^64)>>>29:Nat):Int)) V (λρ h=>Me 29 (h _ _ V) (h _ _ V) (by decide)) ?_);refine Ao (v:=.int .u64 (((((((((((p0.2.2 ^^^ O)%2^64)*18397679294719823053)%2^64) ^^^ (((((p0.2.2 ^^^ O)%2^64)*18397679294719823053)%2^64)>>>33))%2^64)*14181476777654086739)%2^64) ^^^ (((((((((p0.2.2 ^^^ O)%2^64)*18397679294719823053)%2^64) ^^^ (((((p0.2.2 ^^^ O)%2^64)*18397679294719823053)%2^64)>>>33))%2^64)*14181476777654086739)%2^64)>>>29))%2^64:Nat):Int)) V (λρ h=>OH (h _ _ V) (h _ _ V)) (Ao (v:=.int .u64 ((((((((((((p0.2.2 ^^^ O)%2^64)*18397679294719823053)%2^64) ^^^ (((((p0.2.2 ^^^ O)%2^64)*18397679294719823053)%2^64)>>>33))%2^64)*14181476777654086739)%2^64) ^^^ (((((((((p0.2.2 ^^^ O)%2^64)*18397679294719823053)%2^64) ^^^ (((((p0.2.2 ^^^ O)%2^64)*18397679294719823053)%2^64)>>>33))%2^64)*14181476777654086739)%2^64)>>>29))%2^64)>>>11:Nat):Int)) V (λρ h=>Me 11 (h _ _ V) (h _ _ V) (by decide)) ?_);refine C 2 V ?_;cases a7;exact AK func39 V V (a3 aq V ⟨a1,c2,V,V,(ai.Ag aq)⟩ a2);refine AP a6 (λa8 a9=>?_) (λa8 bb=>?_);refine F7 14 [bk] ⟨⟨0,_,V⟩,trivial⟩ U λK=>A9 K V [0,1,2] V (JG.fd 3 K underlying61 CE V V V V ?_);refine Ls 4 K 0 0 U ET ?_;refine A9 K V [5,6] V (JG.fd 7 K underlying61 Av V V V V ?_);refine Ls 8 K 1 0 U AV ?_;let⟨b0,be,bg⟩:=bs a9;refine A6 9 K V V (λρ h s' Z=>Eo (h _ _ V) (h _ _ V) be) ?_;let⟨ag,bi,bo⟩:=bs bg;refine CU 10 ai bi K underlying28 Av ?_;rintro b1 b2 _ rfl bv;refine JG.lp 11 K 0 bv U ⟨⟨0,_,V⟩,trivial⟩ AV ?_;refine A6 (v:=.int .u64 ((DO ag:Nat):Int)) 12 K V V (λρ h s' Z=>Yl.DO underlying3 underlying59 (h _ _ V)) (A6 (v:=.int .u64 ((((DO ag)*14029467366897019727)%2^64:Nat):Int)) 13 K V V (λρ h s' Z=>OR (h _ _ V) (h _ _ V)) ?_);refine Cn [14,15] (Ao (v:=.int .u64 ((((((DO Y)*11400714819323198485)%2^64) ^^^ (((DO ag)*14029467366897019727)%2^64))%2^64:Nat):Int)) V (λρ h=>OH (h _ _ V) (h _ _ V)) ?_);refine C 2 V ?_;cases bo;exact a0 AL U V;refine JL.skip ?_;cases bb;exact a0 AL U V
def f36(fu_:Nat)(p0:B4)(p1:Int):Option (Int×(B4)):=(f83 fu_ p0).bind λK=>if p1<1 then(some (0,K.2)) else((Qb K.1 ((DO p1+1)%2^64)).bind λO=>some (NK O,K.2))
theorem Ke(am:Am rI E a1 c2 p0.1){r:Int×(B4)}(K:f36 fu_ p0 p2=some r):AY J 11 [Ar bk 0,iV p2] E [(bk,.cells #[sV a1 p0.1 c2,iV p0.2.1,.int .u64 ((p0.2.2:Nat):Int)] 61 (0,0))] (λw E' B'=>∃(O:Ap) (U:Nat),w=iV r.1/\B'=[(bk,.cells #[sV O r.2.1 U,iV r.2.2.1,.int .u64 ((r.2.2.2:Nat):Int)] 61 (0,0))]/\Am rI E' O U r.2.1):=by
 refine Bm func11 λQ a6 cs H ap Y=>?_;unfold f36 at K;let⟨a7,aq,aw⟩:=bs K;refine C 7 V (Cw 0 (iu am aq) V V (A4 func39 V) ap V ?_);rintro _ a8 _ Z ⟨ac,ag,rfl,rfl,ai⟩ aj;refine C 8 V (AP aw (λa0 a2=>?_) (λa0 a3=>?_));refine C 4 V ?_;cases a2;exact AK func11 V V (Y Z V ⟨ac,ag,V,V,ai⟩ aj);refine C 5 V (Ao (v:=.int .u64 ((DO p2:Nat):Int)) V (λρ h=>Yl.DO underlying3 underlying59 (h _ _ V)) ?_);refine Ao (v:=.int .u64 (((DO p2+1)%2^64:Nat):Int)) V (λρ h=>cG (h _ _ V) (h _ _ V)) ?_;let⟨al,a4,a5⟩:=bs a3;refine Ao (v:=.int .u64 ((al:Nat):Int)) V (λρ h=>aU (h _ _ V) (h _ _ V) a4) (Ao (v:=iV (NK al)) V (λρ h=>gX underlying59 underlying3 (h _ _ V)) ?_);refine C 2 V ?_;cases a5;exact AK func11 V V (Y Z V ⟨ac,ag,V,V,ai⟩ aj)
def f37(fu_:Nat)(p0:B4)(p1:Int)(p2:Int):Option (Int×(B4)):=(Az (p2 - p1)).bind λO=>(f36 fu_ p0 O).bind λK=>(Az (p1+K.1)).bind λU=>some (U,K.2)
theorem So{p1:Int}(Y:Am rI E a1 c2 p0.1){r:Int×(B4)}(K:f37 fu_ p0 p1 p2=some r):AY J 58 [Ar bk 0,iV p1,iV p2] E [(bk,.cells #[sV a1 p0.1 c2,iV p0.2.1,.int .u64 ((p0.2.2:Nat):Int)] 61 (0,0))] (λw E' B'=>∃(O:Ap) (U:Nat),w=iV r.1/\B'=[(bk,.cells #[sV O r.2.1 U,iV r.2.2.1,.int .u64 ((r.2.2.2:Nat):Int)] 61 (0,0))]/\Am rI E' O U r.2.1):=by
 refine Bm func58 λQ a4 cs H Z ac=>?_;unfold f37 at K;let⟨a5,ag,ai⟩:=bs K;refine C 10 V (Cx ag V V V ?_);let⟨a6,aj,al⟩:=bs ai;refine Cw 0 (Ke Y aj) V V JY Z V ?_;rintro _ a7 _ am ⟨ap,aq,rfl,rfl,aw⟩ a0;let⟨a8,a2,a3⟩:=bs al;refine Bw a2 V V V (C 2 V ?_);cases a3;exact AK func58 V V (ac am V ⟨ap,aq,V,V,aw⟩ a0)
def f32(fu_:Nat)(p0:B4)(p1:Int):Option (Bool×(B4)):=(Az (p1 - 1)).bind λO=>(f36 fu_ p0 O).bind λK=>some (decide (K.1=0),K.2)
theorem W6(Y:Am rI E a1 c2 p0.1){r:Bool×(B4)}(K:f32 fu_ p0 p2=some r):AY J 33 [Ar bk 0,iV p2] E [(bk,.cells #[sV a1 p0.1 c2,iV p0.2.1,.int .u64 ((p0.2.2:Nat):Int)] 61 (0,0))] (λw E' B'=>∃(O:Ap) (U:Nat),w=.bool r.1/\B'=[(bk,.cells #[sV O r.2.1 U,iV r.2.2.1,.int .u64 ((r.2.2.2:Nat):Int)] 61 (0,0))]/\Am rI E' O U r.2.1):=by
 refine Bm func33 λQ a2 cs H Z ac=>?_;unfold f32 at K;let⟨a3,ag,ai⟩:=bs K;refine C 8 V (Cx ag V V V ?_);let⟨a4,aj,al⟩:=bs ai;refine Cw 0 (Ke Y aj) V V JY Z V ?_;rintro _ a5 _ am ⟨ap,aq,rfl,rfl,aw⟩ a0;refine C 3 V ?_;cases al;exact AK func33 V V (ac am V ⟨ap,aq,V,V,aw⟩ a0)
def f81(fu_:Nat)(p0:B4)(p1:List Int):Option (Int×(B4)):=(Az ((p1.length:Int) - 1)).bind λO=>(f36 fu_ p0 O).bind λK=>(ix p1 K.1).bind λU=>some (U,K.2)
theorem WY{K:Ap}(ag:Am rI E a1 c2 p0.1)(ai:Am rI E K dn p1){r:Int×(B4)}(U:f81 fu_ p0 p1=some r):AY J 59 [Ar bk 0,sV K p1 dn] E [(bk,.cells #[sV a1 p0.1 c2,iV p0.2.1,.int .u64 ((p0.2.2:Nat):Int)] 61 (0,0))] (λw E' B'=>∃(Y:Ap) (Z:Nat),w=iV r.1/\B'=[(bk,.cells #[sV Y r.2.1 Z,iV r.2.2.1,.int .u64 ((r.2.2.2:Nat):Int)] 61 (0,0))]/\Am rI E' Y Z r.2.1):=by
 refine Bm func59 λQ a8 cs H aj al=>?_;unfold f81 at U;refine C 9 V (JL.ln underlying28 V V V ?_);let⟨a9,am,ap⟩:=bs U;refine Cx am V V V ?_;let⟨bb,aq,aw⟩:=bs ap;refine Cw 0 (Ke ag aq) V V JY aj V ?_;rintro _ be _ ac ⟨a0,a2,rfl,rfl,a3⟩ a4;let⟨bg,a5,a6⟩:=bs aw;refine JS.ix (ai.Ag ac) a5 underlying28 Av ?_;rintro bi bo _ rfl a7;refine CJ 0 a7 AV V V V (C 2 V ?_);cases a6;exact AK func59 V V (al ac V ⟨a0,a2,V,V,a3⟩ a4)
def f40(fu_:Nat)(p0:B4)(p1:Int):Option (Dq×(B4)):=(Az (p1 - 1)).bind λZ=>(f36 fu_ p0 Z).bind λK=>(f37 fu_ K.2 1 9).bind λO=>(f81 fu_ O.2 ([1,2,2,3,O.1]:List Int)).bind λU=>(Az (p1 - 1)).bind λac=>(f37 fu_ U.2 1 ac).bind λY=>(Az (K.1+Y.1)).bind λag=>(Qq ag p1).bind λai=>some ((K.1,ai,U.1),Y.2)
theorem WW(aw:Am rI E a1 c2 p0.1){r:Dq×(B4)}(ac:f40 fu_ p0 p2=some r):AY J 60 [Ar bk 0,iV p2] E [(bk,.cells #[sV a1 p0.1 c2,iV p0.2.1,.int .u64 ((p0.2.2:Nat):Int)] 61 (0,0))] (λw E' B'=>∃(ag:Ap) (ai:Nat),w=.agg #[iV r.1.1,iV r.1.2.1,iV r.1.2.2]/\B'=[(bk,.cells #[sV ag r.2.1 ai,iV r.2.2.1,.int .u64 ((r.2.2.2:Nat):Int)] 61 (0,0))]/\Am rI E' ag ai r.2.1):=by
 refine Bm func60 λQ dd cs H a0 a2=>?_;unfold f40 at ac;refine C 2 V (BZ a0 BC λdj a3=>?_);let⟨ea,a4,a5⟩:=bs ac;refine C 5 V (Cx a4 V V V ?_);let⟨O,a6,a7⟩:=bs a5;refine Cw 0 (Ke aw a6) V V JY a3 V ?_;rintro _ eb _ a8 ⟨ec,ed,rfl,rfl,a9⟩ bb;let⟨aj,be,bg⟩:=bs a7;refine C 2 V (Cw 0 (So a9 be) V V QF bb V ?_);rintro _ ee _ bi ⟨ef,eg,rfl,rfl,bo⟩ bv;refine FO (pp:=rI) [iV 1,iV 2,iV 2,iV 3,iV aj.1] [1,2,2,3,aj.1] V V V underlying28 Av BR (by decide) V V V ⟨V,V,V,V,V,trivial⟩ bv λej ek bw bx=>BO 2 bw bx V λel al b0 b1=>?_;let⟨U,b2,b3⟩:=bs bg;refine Cw 0 (WY (bo.Ag al) b0 b2) V V (A4 func59 V) b1 V ?_;rintro _ em _ b4 ⟨eo,er,rfl,rfl,b5⟩ b6;refine Ao (v:=.agg #[iV O.1,iV 0,iV U.1]) V (λρ h=>Dk [(0,1),(1,1),(2,1)] h BC underlying27 ⟨V,A5 type3,V,A5 type3,V,A5 type3,trivial⟩ V V) (BZ b6 BC λam ca=>?_);refine JS.sx 3 ca AX λZ=>?_;refine C 2 V (F7 8 [am] ⟨⟨3,_,V⟩,trivial⟩ Z λK=>?_);refine JG.fd 0 K underlying27 Av V V V V (Ls 1 K 0 3 Z AV ?_);refine A9 K V [2,3] V ?_;let⟨cc,ce,ci⟩:=bs b3;refine A6 4 K V V (λρ h s' ck=>Eo (h _ _ V) (h _ _ V) ce) (Dt 7 K V V ?_);let⟨et,co,cp⟩:=bs ci;refine Ol (i:=5) (vs:=[Ar bk 0,iV 1,iV cc]) 0 (by exact λx ct=>HW.mem (bks:=[am]) (by exact⟨⟨3,_,rfl⟩,trivial⟩) x (by simpa [AH] using ct)) (So b5 co) (by decide+kernel) V V V QF V Z V ?_;rintro _ eu _ cw ⟨cy,c0,rfl,rfl,c1⟩ c3;let⟨ew,c4,c5⟩:=bs cp;refine A6 6 K V V (λρ h s' ck=>F5 (h _ _ V) (h _ _ V) c4) (Cn [8,9,10] ?_);let⟨Y,c6,c7⟩:=bs c5;refine Ao (v:=iV Y) V (λρ h=>bZ (h _ _ V) (h _ _ V) c6) (JL.fd underlying27 Av V V V ?_);refine JS.sx 3 c3 Av λap=>?_;refine C 3 V (Ao V (λρ h=>F4 (vs:=[iV O.1,iV Y,iV U.1]) C7 AX (h _ _ V) (Em (off:=0) 3 ap V V)) ?_);refine JS.sx 1 ap AX λc8=>?_;refine JL.done (JS.drop 3 c8 V λaq=>?_);cases c7;refine JL.ret (v:=.agg #[iV O.1,iV Y,iV U.1]) V V (BK.list func60 V (vs:=[.agg #[iV O.1,iV Y,iV U.1]]) ⟨⟨_,V,Ld.many (vs:=[iV O.1,iV Y,iV U.1]) C7 AX (Em (off:=0) 1 aq V V)⟩,trivial⟩) (DW 1 aq V λc9=>?_);exact a2 ((((a8.Ad bi).Ad al).Ad b4).Ad cw) V ⟨cy,c0,V,V,c1⟩ c9
end Pal
namespace Pal
open Go Go.Conc
variable {P:Program}{J:Judge P}{Q:Gs_}{b:Frame}{n:Nat}{ds:Ld_}{ops:Ao_}{cs:Lf_}{fuel:Nat}{D:Nat->Bool}{listed:Array Bool}{L:Env}{s:St}{E' H:LH}{S:List Seg}
variable {d:Option Tmp}{t u ty e:TypeId}{p:String}{af:Ae_}{g:On_}{v:Value}{i:Nat}{kd:IntKind}
section
variable {k:Li_}{m:Nat}{E:LH}
variable {x y:Operand}
theorem Take.Wy{f:FuncId}{args:Array Operand}{ats:Array TypeId}{vs:Lv_}{seg:Seg}{R:Value->LH->Seg->Prop}(j:Nat)(O:Au E H S)(al:AY J f vs E seg R)
  (am:ops[i]?=some ⟨d,.call ⟨.value (.func f),args,ats⟩,ty,p,af,g⟩) (hw:A3 L ops ⟨d,.call ⟨.value (.func f),args,ats⟩,ty,p,af,g⟩=some true) (ap:BA n d=true) (hb:Ez P f=true) (aq:evs L args.toList=some vs) (U:S[j]?=some seg)
  (aw:∀v E' seg',Le E E'->R v E' seg'->Au E' H (S.set j seg')->AQ J Q b n ds ops k cs m DJ fuel (Bs listed i) (AE L d v) (Ak E' H (S.set j seg'))):
  Take J Q b n ds ops k cs m DJ fuel listed L (Ak E H S) i:=by
 have Y:S.flatten.Perm (seg++(S.set j []).flatten):=(Cl (seg':=seg) U).1.trans f8;have Z:Nd E H (seg++(S.set j []).flatten):=Nd.perm O Y;have a0:Ak E H S=mk E (By (S.set j []).flatten H) seg:=by
  rw[show Ak E H S=mk E H S.flatten from rfl,FN O Y];unfold mk;rw[Gu]
 have ac:=Fo.Ly (al (By (S.set j []).flatten H) (Nd.front Z)) (by rintro v s' ⟨E',B',_,_,_,rfl⟩;rfl);rw[← a0] at ac;refine⟨_,am,by simp[EJ],ap,hw,λρ ag=>?_⟩;have a1:args.map ρ=vs.toArray:=by
  rw[← GI ag aq];apply rW;simp
 have a2:ρ (.func f)=.func (.func f) #[] #[]:=ag _ _ V;simp only[execOp,resolve,bind,Sem.bind,Deferred.ofValue,a2,pure,invoke];have e: #[]++args.map ρ++ #[]=vs.toArray:=by rw[a1];simp
 rw[e];refine J0 hb ?_;rw[LZ];refine⟨_,ac,?_⟩;rintro v bg ⟨⟨E',B',hle,a3,a4,rfl⟩,w,a5⟩;have e2:mk E' (By (S.set j []).flatten H) B'=mk E' H (B'++(S.set j []).flatten):=by unfold mk;rw[Gu]
 have a6:Nd E H (S.set j []).flatten:=by
  have:=Z;rw[Nd.iff] at this ⊢;rw[ru,rS] at this;exact⟨this.1.2.1,λq a7=>this.2 q (rm _ a7)⟩
 have a8:Nd E' H (S.set j []).flatten:=a6.grow λx K=>by
  have a9:=a5.d x K;have bb:By B' (By (S.set j []).flatten H) x=none:=a9;exact(Ii bb).1
 have ai:Nd E' H (B'++(S.set j []).flatten):=Nd.glue a4 a8;have aj:(B'++(S.set j []).flatten).Perm (S.set j B').flatten:=f8.trans (Cl U).2.symm;have be:Au E' H (S.set j B'):=Nd.perm ai aj;rw[e2,FN ai aj];exact⟨V,λx o K=>hle _ _ K,aw v E' B' hle a3 be⟩
end
open Go.Proofs Go.Proofs.Tryz
variable {J:Judge Tryz.prog}{E:LH}
def Pg(fu_:Nat)(Y:Bool×(B4))(K:(List Int)×Int×Nat×(List Int)×Int):Option (Bq ((List Int)×Int×Nat×(List Int)×Int) ((List Int)×B4)):=if 0<K.2.2.2.2 then(Option.bind (if Y.1=true then((room K.2.2.2.1 1).bind λZ=>some (Z,K.1,K.2.1,K.2.2.1)) else((f81 fu_ (K.1,K.2.1,K.2.2.1) ([1,1,2,2,3,5]:List Int)).bind λO=>(room K.2.2.2.1 O.1).bind λac=>some (ac,O.2.1,O.2.2.1,O.2.2.2))) λU=>(Az (K.2.2.2.2 - 1)).bind λag=>some (.more (U.2.1,U.2.2.1,U.2.2.2,U.1,ag))) else(some (.done (K.2.2.2.1,K.1,K.2.1,K.2.2.1)))
def Pd(fu_:Nat)(Y:Int×(B4))(Z:Bool×(B4))(K:AZ×(List Int)×Int×Nat×Int):Option (Bq (AZ×(List Int)×Int×Nat×Int) ((List Int)×Int×Nat×AZ)):=if K.2.2.2.2<Y.1 then((f36 fu_ (K.2.1,K.2.2.1,K.2.2.2.1) 3).bind λO=>Option.bind (iter (Pg fu_ Z) fu_ (O.2.1,O.2.2.1,O.2.2.2,[],O.1)) λU=>(room K.1 U.1).bind λac=>(Az (K.2.2.2.2+1)).bind λag=>some (.more (ac,U.2.1,U.2.2.1,U.2.2.2,ag))) else(some (.done (K.2.1,K.2.2.1,K.2.2.2.1,K.1)))
def Pe(fu_:Nat)(U:Int×(B4))(K:AB×(List Int)×Int×Nat×Int):Option (Bq (AB×(List Int)×Int×Nat×Int) ((List Int)×Int×Nat×AB)):=if 0<K.2.2.2.2 then((f40 fu_ (K.2.1,K.2.2.1,K.2.2.2.1) U.1).bind λO=>(CZ K.1 ([O.1]:AB)).bind λY=>(Az (K.2.2.2.2 - 1)).bind λZ=>some (.more (Y,O.2.1,O.2.2.1,O.2.2.2,Z))) else(some (.done (K.2.1,K.2.2.1,K.2.2.2.1,K.1)))
def f31(fu_:Nat)(p0:B4)(p1:Int)(p2:Int):Option (A0×(B4)):=(f37 fu_ p0 2 p1).bind λZ=>(f32 fu_ Z.2 3).bind λK=>Option.bind (iter (Pd fu_ Z K) fu_ ([],K.2.1,K.2.2.1,K.2.2.2,0)) λO=>(f36 fu_ (O.1,O.2.1,O.2.2.1) p2).bind λU=>Option.bind (iter (Pe fu_ Z) fu_ ([],U.2.1,U.2.2.1,U.2.2.2,U.1)) λY=>some ((O.2.2.2,Y.2.2.2),(Y.1,Y.2.1,Y.2.2.1))
variable{bk c2 fu_:Nat}{a1:Ap}
theorem jc{p0:B4}{p1 p2:Int}(hw:Am rI E a1 c2 p0.1){r:A0×(B4)}(e4:f31 fu_ p0 p1 p2=some r):AY J 31 [Ar bk 0,iV p1,iV p2] E [(bk,.cells #[sV a1 p0.1 c2,iV p0.2.1,.int .u64 ((p0.2.2:Nat):Int)] 61 (0,0))] (λw E' B'=>∃(e5:Ap) (e6:Nat) (e7:Ap) (e8:Nat) (ff:Ap) (fk:Nat),w=.agg #[sV e5 r.1.1 e6,sV e7 r.1.2 e8]/\B'=[(bk,.cells #[sV ff r.2.1 fk,iV r.2.2.1,.int .u64 ((r.2.2.2:Nat):Int)] 61 (0,0))]/\Am (rL rI) E' e5 e6 r.1.1/\Am Ay E' e7 e8 r.1.2/\Am rI E' ff fk r.2.1):=by
 refine Bm func31 λQ lX cs H hx hy=>?_;unfold f31 at e4;refine C 2 V (BZ hx GV λO hz=>?_);refine C 3 V (BZ hz GV λU hA=>?_);let⟨a0,hB,hC⟩:=bs e4;refine C 5 V (Cw 0 (So hw hB) V V QF hA V ?_);rintro _ lY _ hD ⟨hE,hF,rfl,rfl,hG⟩ hH;refine BF (S':=[[(bk,.cells #[sV hE a0.2.1 hF,iV a0.2.2.1,.int .u64 ((a0.2.2.2:Nat):Int)] 61 (0,0))],[(O,.cells #[nS,nS] 25 (0,0))],[(U,.cells #[nS,nS] 25 (0,0))]]) V hH λhI=>?_;let⟨ca,hJ,hK⟩:=bs hC;refine C 5 V (Cw 0 (W6 hG hJ) V V (A4 func33 V) hI V ?_);rintro _ ea _ hL ⟨hM,hN,rfl,rfl,hO⟩ hP;let⟨Y,hQ,hR⟩:=bs hK;refine C 7 V (Bu (λL s=>∃(cc:LH) (eb:Ap) (ec:Nat) (ac:Ap) (ag:Nat) (aw:Seg),Jn ea H cc [bX bk #[sV eb Y.1 ec,iV Y.2.1,.int .u64 ((Y.2.2.1:Nat):Int)] 61,bX O #[nS,nS] 25,bX U #[sV ac Y.2.2.2 ag,nS] 25,aw] [(0,Ar bk 0),(2,iV p2),(6,Ar O 0),(7,Ar U 0),(8,iV a0.1)] L s (Am rI cc eb ec Y.1/\OL 28 (rL rI) cc ac ag aw Y.2.2.2)) ?_ ?_);rintro _ _ ⟨cc,eb,ec,ac,ag,aw,rfl,rfl,hS,hT,hU,hV⟩;let⟨lZ,hW,hX⟩:=bs hR;refine C 5 V (Cw 0 (Ke hU hW) V V JY hT V ?_);rintro _ ed _ fl ⟨hY,h0,rfl,rfl,h1⟩ h2;let⟨ai,h3,h4⟩:=bs hX;refine C 2 V (Bu (λL s=>∃(ce:LH) (bw:Ap) (bx:Nat) (a3:Ap) (a4:Nat) (ci:Seg),Jn ed H ce [bX bk #[sV bw ai.1 bx,iV ai.2.1,.int .u64 ((ai.2.2.1:Nat):Int)] 61,bX O #[nS,nS] 25,bX U #[sV ac Y.2.2.2 ag,sV a3 ai.2.2.2 a4] 25,aw,ci] [(6,Ar O 0),(7,Ar U 0)] L s (Am rI ce bw bx ai.1/\OL 27 Ay ce a3 a4 ci ai.2.2.2)) ?_ ?_);rintro _ _ ⟨ce,bw,bx,a3,a4,ci,rfl,rfl,fm,fo,h5,h6⟩;refine C 2 V (Ao V (λρ h=>F4 (vs:=[sV ac Y.2.2.2 ag,sV a3 ai.2.2.2 a4]) Cb BD (h _ _ V) (Em (off:=0) 2 fo V V)) ?_);refine JS.sx 1 fo BD λh7=>?_;refine BF (S':=[[(bk,.cells #[sV bw ai.1 bx,iV ai.2.1,.int .u64 ((ai.2.2.1:Nat):Int)] 61 (0,0))],[(O,.cells #[sV ac Y.2.2.2 ag,sV a3 ai.2.2.2 a4] 25 (0,0))],[(U,.cells #[sV ac Y.2.2.2 ag,sV a3 ai.2.2.2 a4] 25 (0,0))],aw,ci]) V h7 λh8=>JL.done (BO 3 (hV.Ag (fl.Ad fm)) h8 V λl3 ee h9 ia=>?_);refine BO 4 (h6.Ag ee) ia V λl4 ef ih ii=>JS.drop 2 ii V λfs=>?_;cases h4;refine JL.ret (v:=.agg #[sV ac Y.2.2.2 ag,sV a3 ai.2.2.2 a4]) V V (BK.list func31 V (vs:=[.agg #[sV ac Y.2.2.2 ag,sV a3 ai.2.2.2 a4]]) ⟨⟨_,V,Ld.many (vs:=[sV ac Y.2.2.2 ag,sV a3 ai.2.2.2 a4]) Cb BD (Em (off:=0) 1 fs V V)⟩,trivial⟩) (DW 1 fs V λio=>?_);exact hy ((((((hD.Ad hL).Ad hS).Ad fl).Ad fm).Ad ee).Ad ef) V ⟨ac,ag,a3,a4,bw,bx,V,V,(h9.Ag ef),ih,(h5.Ag (ee.Ad ef))⟩ io;intro i0;refine JL.block (Co h3 (λL s al=>∃(b0:LH) (a5:Ap) (a6:Nat) (a8:Seg) (ck:Ap) (co:Nat),Jn ed H b0 [bX bk #[sV ck al.2.1 co,iV al.2.2.1,.int .u64 ((al.2.2.2.1:Nat):Int)] 61,bX O #[nS,nS] 25,bX U #[sV ac Y.2.2.2 ag,sV a5 al.1 a6] 25,aw,a8] [(0,Ar bk 0),(6,Ar O 0),(7,Ar U 0),(8,iV a0.1),(13,iV al.2.2.2.2)] L s (OL 27 Ay b0 a5 a6 a8 al.1/\Am rI b0 ck co al.2.1)) ⟨ed,none,0,[],hY,h0,V,V,AL,h2,OL.nil,h1⟩ ?_);rintro _ _ al ⟨b0,a5,a6,a8,ck,co,rfl,rfl,cp,ct,cw,eg⟩ i1 ⟨l5,b1⟩ ej;have fv:=b1;unfold Pe at fv;refine C 6 V (AP fv (λi3 i4=>?_) (λi3 i5=>?_));refine C 3 V (Ei 6 λfw=>?_);refine JG.fd 0 fw underlying25 Cv V V V V (A9 fw V [2,3] V ?_);let⟨K,fN,ek⟩:=bs i4;refine EH (i:=1) (j:=4) V (by decide+kernel) ?_ ?_;refine Take.y0 (v:=sV a5 al.1 a6) V V V (λρ h=>Yl.load EO (h _ _ V) (BY (j:=2) ct V V)) (JG.one (i:=4) V (by decide+kernel) ?_);refine Take.Wy (vs:=[Ar bk 0,iV a0.1]) 0 ct (WW eg fN) V V V (A4 func60 V) V V ?_;rintro _ l6 _ gc ⟨el,em,rfl,rfl,i6⟩ i7;refine JG.one (i:=5) V (by decide+kernel) (Take.DL (pp:=Ay) [.agg #[iV K.1.1,iV K.1.2.1,iV K.1.2.2]] ([K.1]:AB) i7 V V V underlying23 AX BC (by decide) V V V ⟨⟨_,_,V,V,⟨_,_,V,V,V⟩⟩,trivial⟩ λl7 i8 i9 jg=>?_);refine Cn [6,7,8] (BF (S':=[[(bk,.cells #[sV el K.2.1 em,iV K.2.2.1,.int .u64 ((K.2.2.2:Nat):Int)] 61 (0,0))],[(O,.cells #[nS,nS] 25 (0,0))],[(U,.cells #[sV ac Y.2.2.2 ag,sV a5 al.1 a6] 25 (0,0))],aw,a8,i8]) V jg λji=>?_);refine BO 5 i9 ji V λjj eo jp jr=>?_;let⟨ge,jt,jy⟩:=bs ek;refine FM (pp:=Ay) 4 jt V V V V V V V underlying23 underlying23 AX (BJ type27) BC V (by decide) (by decide) (cw.Ag (gc.Ad eo)) jp jr V λgg gh gt jT jU=>JL.fd underlying25 Cv V V V (JS.sx 2 jU Cv λjV=>?_);refine BF (S':=[[(bk,.cells #[sV el K.2.1 em,iV K.2.2.1,.int .u64 ((K.2.2.2:Nat):Int)] 61 (0,0))],[(O,.cells #[nS,nS] 25 (0,0))],[(U,.cells #[sV ac Y.2.2.2 ag,sV gg ge gh] 25 (0,0))],aw,gt,[]]) V jV λjW=>?_;let⟨jX,jY,jZ⟩:=bs jy;refine C 4 V (Cx jY V V V ?_);refine C 2 V ?_;cases jZ;exact AD (ej _ _ (ge,K.2.1,K.2.2.1,K.2.2.2,jX) ⟨jj,gg,gh,gt,el,em,V,V,((cp.Ad gc).Ad eo),jW,jT,(i6.Ag eo)⟩ b1) V;refine Take.Wy (vs:=[Ar bk 0,iV a0.1]) 0 ct (WW eg fN) V V V (A4 func60 V) V V ?_;rintro _ l8 _ cy ⟨bg,bi,rfl,rfl,gE⟩ er;refine EH (i:=1) (j:=5) V (by decide+kernel) ?_ ?_;refine Take.y0 (v:=sV a5 al.1 a6) V V V (λρ h=>Yl.load EO (h _ _ V) (BY (j:=2) er V V)) (JG.one (i:=5) V (by decide+kernel) ?_);refine Take.DL (pp:=Ay) [.agg #[iV K.1.1,iV K.1.2.1,iV K.1.2.2]] ([K.1]:AB) er V V V underlying23 AX BC (by decide) V V V ⟨⟨_,_,V,V,⟨_,_,V,V,V⟩⟩,trivial⟩ λl9 j0 j1 j2=>Cn [6,7,8] (BF (S':=[[(bk,.cells #[sV bg K.2.1 bi,iV K.2.2.1,.int .u64 ((K.2.2.2:Nat):Int)] 61 (0,0))],[(O,.cells #[nS,nS] 25 (0,0))],[(U,.cells #[sV ac Y.2.2.2 ag,sV a5 al.1 a6] 25 (0,0))],aw,a8,j0]) V j2 λj3=>?_);refine BO 5 j1 j3 V λj4 et j5 j6=>?_;let⟨gO,j7,j8⟩:=bs ek;refine FM (pp:=Ay) 4 j7 V V V V V V V underlying23 underlying23 AX (BJ type27) BC V (by decide) (by decide) (cw.Ag (cy.Ad et)) j5 j6 V λg3 g4 g5 j9 kb=>JL.fd underlying25 Cv V V V (JS.sx 2 kb Cv λkc=>?_);refine BF (S':=[[(bk,.cells #[sV bg K.2.1 bi,iV K.2.2.1,.int .u64 ((K.2.2.2:Nat):Int)] 61 (0,0))],[(O,.cells #[nS,nS] 25 (0,0))],[(U,.cells #[sV ac Y.2.2.2 ag,sV g3 gO g4] 25 (0,0))],aw,g5,[]]) V kc λke=>?_;let⟨kf,kg,kh⟩:=bs j8;refine C 4 V (Cx kg V V V ?_);refine C 2 V ?_;cases kh;exact AD (ej _ _ (gO,K.2.1,K.2.2.1,K.2.2.2,kf) ⟨j4,g3,g4,g5,bg,bi,V,V,((cp.Ad cy).Ad et),ke,j9,(gE.Ag et)⟩ b1) V;refine Take.DL (pp:=Ay) [.agg #[iV K.1.1,iV K.1.2.1,iV K.1.2.2]] ([K.1]:AB) er V V V underlying23 AX BC (by decide) V V V ⟨⟨_,_,V,V,⟨_,_,V,V,V⟩⟩,trivial⟩ λma ki kj g6=>JG.one (i:=1) V (by decide+kernel) (Take.y0 (v:=sV a5 al.1 a6) V V V (λρ h=>Yl.load EO (h _ _ V) (BY (j:=2) g6 V V)) ?_);refine Cn [6,7,8] (BF (S':=[[(bk,.cells #[sV bg K.2.1 bi,iV K.2.2.1,.int .u64 ((K.2.2.2:Nat):Int)] 61 (0,0))],[(O,.cells #[nS,nS] 25 (0,0))],[(U,.cells #[sV ac Y.2.2.2 ag,sV a5 al.1 a6] 25 (0,0))],aw,a8,ki]) V g6 λkl=>?_);refine BO 5 kj kl V λkm eu kn ko=>?_;let⟨g7,kp,kq⟩:=bs ek;refine FM (pp:=Ay) 4 kp V V V V V V V underlying23 underlying23 AX (BJ type27) BC V (by decide) (by decide) (cw.Ag (cy.Ad eu)) kn ko V λg8 ha hb kr ks=>JL.fd underlying25 Cv V V V (JS.sx 2 ks Cv λkt=>?_);refine BF (S':=[[(bk,.cells #[sV bg K.2.1 bi,iV K.2.2.1,.int .u64 ((K.2.2.2:Nat):Int)] 61 (0,0))],[(O,.cells #[nS,nS] 25 (0,0))],[(U,.cells #[sV ac Y.2.2.2 ag,sV g8 g7 ha] 25 (0,0))],aw,hb,[]]) V kt λku=>?_;let⟨kv,kx,ky⟩:=bs kq;refine C 4 V (Cx kx V V V ?_);refine C 2 V ?_;cases ky;exact AD (ej _ _ (g7,K.2.1,K.2.2.1,K.2.2.2,kv) ⟨km,g8,ha,hb,bg,bi,V,V,((cp.Ad cy).Ad eu),ku,kr,(gE.Ag eu)⟩ b1) V;refine JL.exit V ?_;cases i5;obtain rfl:=i1 _ b1;exact AD (i0 _ _ ⟨b0,ck,co,a5,a6,a8,V,V,cp,ct,eg,cw⟩) V;intro kz;refine JL.block (Co hQ (λL s Z=>∃(b2:LH) (am:Ap) (ap:Nat) (a2:Seg) (c0:Ap) (c1:Nat),Jn ea H b2 [bX bk #[sV c0 Z.2.1 c1,iV Z.2.2.1,.int .u64 ((Z.2.2.2.1:Nat):Int)] 61,bX O #[nS,nS] 25,bX U #[sV am Z.1 ap,nS] 25,a2] [(0,Ar bk 0),(2,iV p2),(6,Ar O 0),(7,Ar U 0),(8,iV a0.1),(9,.bool ca.1),(10,iV Z.2.2.2.2)] L s (OL 28 (rL rI) b2 am ap a2 Z.1/\Am rI b2 c0 c1 Z.2.1)) ⟨ea,none,0,[],hM,hN,V,V,AL,hP,OL.nil,hO⟩ ?_);rintro _ _ Z ⟨b2,am,ap,a2,c0,c1,rfl,rfl,hc,he,hf,hg⟩ kA ⟨mb,ew⟩ kB;have hk:=ew;unfold Pd at hk;refine C 7 V (AP hk (λkC kD=>?_) (λkC kF=>?_));let⟨mc,kG,kI⟩:=bs kD;refine C 11 V (Cw 0 (Ke hg kG) V V JY he V ?_);rintro _ ex _ hl ⟨kJ,kK,rfl,rfl,kL⟩ kM;let⟨aq,kN,kO⟩:=bs kI;refine C 2 V (Bu (λL s=>∃(c3:LH) (c4:Ap) (c5:Nat) (ey:Seg) (b3:Ap) (b4:Nat),Jn ex H c3 [bX bk #[sV b3 aq.2.1 b4,iV aq.2.2.1,.int .u64 ((aq.2.2.2:Nat):Int)] 61,bX O #[nS,nS] 25,bX U #[sV am Z.1 ap,nS] 25,a2,ey] [(0,Ar bk 0),(2,iV p2),(6,Ar O 0),(7,Ar U 0),(8,iV a0.1),(9,.bool ca.1),(10,iV Z.2.2.2.2),(11,sV c4 aq.1 c5)] L s (OL 3 rI c3 c4 c5 ey aq.1/\Am rI c3 b3 b4 aq.2.1)) ?_ ?_);rintro _ _ ⟨c3,c4,c5,ey,b3,b4,rfl,rfl,hm,hn,kP,kQ⟩;refine JL.region (JL.fd underlying25 DD V V V ?_);refine Ao (v:=sV am Z.1 ap) V (λρ h=>Yl.load Ed (h _ _ V) (BY (j:=2) (off:=0) hn V V)) (C 1 V ?_);refine BO 4 kP hn V λkR eA kS kT=>BF (S':=[[(bk,.cells #[sV b3 aq.2.1 b4,iV aq.2.2.1,.int .u64 ((aq.2.2.2:Nat):Int)] 61 (0,0))],[(O,.cells #[nS,nS] 25 (0,0))],[(U,.cells #[sV am Z.1 ap,nS] 25 (0,0))],a2,[]]) V kT λkU=>?_;obtain⟨kV,kW,kX⟩:=bs kO;refine JS.app (pp:=(rL rI)) (v:=sV c4 aq.1 c5) (a:=am) (c:=ap) 3 kW V V V V (λ_=>V) V (λ_=>V) V V V underlying22 underlying22 underlying22 CE (BJ type28) Jl V (by decide) (by decide) (by decide) (by decide) (hf.Ag ((hl.Ad hm).Ad eA)) ⟨_,_,V,kS⟩ kU V λmd kY kZ k0 k1 k2=>JL.fd underlying25 DD V V V (JS.sx 2 k2 DD λk3=>?_);let⟨k4,k5,k6⟩:=bs kX;refine C 4 V (Bw k5 V V V ?_);refine C 2 V ?_;cases k6;exact AD (kB _ _ (kV,aq.2.1,aq.2.2.1,aq.2.2.2,k4) ⟨kR,kY,kZ,k0,b3,b4,V,V,(((hc.Ad hl).Ad hm).Ad eA),k3,k1,(kQ.Ag eA)⟩ ew) V;intro k7;refine JL.block (Co kN (λL s aj=>∃(a9:LH) (bb:Ap) (be:Nat) (bo:Ap) (bv:Nat) (b5:Seg),Jn ex H a9 [bX bk #[sV bb aj.1 be,iV aj.2.1,.int .u64 ((aj.2.2.1:Nat):Int)] 61,bX O #[nS,nS] 25,bX U #[sV am Z.1 ap,nS] 25,a2,b5] [(0,Ar bk 0),(2,iV p2),(6,Ar O 0),(7,Ar U 0),(8,iV a0.1),(9,.bool ca.1),(10,iV Z.2.2.2.2),(11,sV bo aj.2.2.2.1 bv),(12,iV aj.2.2.2.2)] L s (Am rI a9 bb be aj.1/\OL 3 rI a9 bo bv b5 aj.2.2.2.1)) ⟨ex,kJ,kK,none,0,[],V,V,AL,kM,kL,OL.nil⟩ ?_);rintro _ _ aj ⟨a9,bb,be,bo,bv,b5,rfl,rfl,ho,eC,eN,e0⟩ k8 ⟨me,e1⟩ k9;have hp:=e1;unfold Pg at hp;refine C 6 V (AP hp (λla lb=>?_) (λla ld=>?_));let⟨a7,lf,lg⟩:=bs lb;refine C 7 V (Bu (λL s=>∃(b6:LH) (c6:Ap) (c7:Nat) (c8:Seg) (c9:Ap) (dd:Nat),Jn a9 H b6 [bX bk #[sV c9 a7.2.1 dd,iV a7.2.2.1,.int .u64 ((a7.2.2.2:Nat):Int)] 61,bX O #[nS,nS] 25,bX U #[sV am Z.1 ap,nS] 25,a2,c8] [(0,Ar bk 0),(2,iV p2),(6,Ar O 0),(7,Ar U 0),(8,iV a0.1),(9,.bool ca.1),(10,iV Z.2.2.2.2),(11,sV c6 a7.1 c7),(12,iV aj.2.2.2.2)] L s (OL 3 rI b6 c6 c7 c8 a7.1/\Am rI b6 c9 dd a7.2.1)) ?_ ?_);rintro _ _ ⟨b6,c6,c7,c8,c9,dd,rfl,rfl,lh,li,lj,ll⟩;let⟨lm,lq,lr⟩:=bs lg;refine C 3 V (Cx lq V V V ?_);refine C 2 V ?_;cases lr;exact AD (k9 _ _ (a7.2.1,a7.2.2.1,a7.2.2.2,a7.1,lm) ⟨b6,c9,dd,c6,c7,c8,V,V,(ho.Ad lh),li,ll,lj⟩ e1) V;intro hq;refine Cm lf (λls lu=>?_) (λls lw=>?_);let⟨mf,lx,lz⟩:=bs lu;refine C 2 V (JS.app (pp:=rI) (v:=iV 1) (a:=bo) (c:=bv) 4 lx V V V V (λ_=>V) V (λ_=>V) V V V underlying28 underlying28 underlying28 Av (BJ type3) BR V (by decide) (by decide) (by decide) (by decide) e0 V eC V λmg lA lB hr lC lD=>?_);refine BF (S':=[[(bk,.cells #[sV bb aj.1 be,iV aj.2.1,.int .u64 ((aj.2.2.1:Nat):Int)] 61 (0,0))],[(O,.cells #[nS,nS] 25 (0,0))],[(U,.cells #[sV am Z.1 ap,nS] 25 (0,0))],a2,hr]) V lD λlE=>C 2 V ?_;cases lz;exact AD (hq _ _ ⟨a9,lA,lB,hr,bb,be,V,V,AL,lE,lC,eN⟩) V;refine C 3 V (FO (pp:=rI) [iV 1,iV 1,iV 2,iV 2,iV 3,iV 5] [1,1,2,2,3,5] V V V underlying28 Av BR (by decide) V V V ⟨V,V,V,V,V,V,trivial⟩ eC λmh lF lG lH=>?_);refine BF (S':=[[(bk,.cells #[sV bb aj.1 be,iV aj.2.1,.int .u64 ((aj.2.2.1:Nat):Int)] 61 (0,0))],[(O,.cells #[nS,nS] 25 (0,0))],[(U,.cells #[sV am Z.1 ap,nS] 25 (0,0))],a2,b5,lF]) V lH λlI=>BO 5 lG lI V λmi e3 lJ lK=>?_;let⟨dj,lL,lM⟩:=bs lw;refine Cw 0 (WY (eN.Ag e3) lJ lL) V V (A4 func59 V) lK V ?_;rintro _ lN _ hs ⟨ht,hu,rfl,rfl,lO⟩ lP;let⟨mj,lQ,lR⟩:=bs lM;refine JS.app (pp:=rI) (v:=iV dj.1) (a:=bo) (c:=bv) 4 lQ V V V V (λ_=>V) V (λ_=>V) V V V underlying28 underlying28 underlying28 Av (BJ type3) BR V (by decide) (by decide) (by decide) (by decide) (e0.Ag (e3.Ad hs)) V lP V λml lS lT hv lU lV=>BF (S':=[[(bk,.cells #[sV ht dj.2.1 hu,iV dj.2.2.1,.int .u64 ((dj.2.2.2:Nat):Int)] 61 (0,0))],[(O,.cells #[nS,nS] 25 (0,0))],[(U,.cells #[sV am Z.1 ap,nS] 25 (0,0))],a2,hv,[]]) V lV λlW=>C 2 V ?_;cases lR;exact AD (hq _ _ ⟨lN,lS,lT,hv,ht,hu,V,V,(e3.Ad hs),lW,lU,lO⟩) V;refine JL.exit V ?_;cases ld;obtain rfl:=k8 _ e1;exact AD (k7 _ _ ⟨a9,bo,bv,b5,bb,be,V,V,ho,eC,e0,eN⟩) V;refine JL.exit V ?_;cases kF;obtain rfl:=kA _ ew;exact AD (kz _ _ ⟨b2,c0,c1,am,ap,a2,V,V,hc,he,hg,hf⟩) V
variable {J:Judge Tryz.prog}{E:LH}
def f38(fu_:Nat)(p0:A0)(p1:Int×Int×Int):Option (A0):=(CZ ([]:AB) p0.2).bind λK=>(CZ K ([p1]:AB)).bind λO=>some (p0.1,O)
variable{p0:A0}{p1:Int×Int×Int}
theorem iU{O:Ap}{U:Nat}(ac:Am (rL rI) E a1 c2 p0.1)(ag:Am Ay E O U p0.2){r:A0}(cw:f38 fu_ p0 p1=some r):AY J 32 [.agg #[sV a1 p0.1 c2,sV O p0.2 U],.agg #[iV p1.1,iV p1.2.1,iV p1.2.2]] E [] (λw E' B'=>∃(cy:Ap) (c0:Nat) (c1:Ap) (c3:Nat),w=.agg #[sV cy r.1 c0,sV c1 r.2 c3]/\B'=[]/\Am (rL rI) E' cy c0 r.1/\Am Ay E' c1 c3 r.2):=by
 refine Bm func32 λQ k3 cs H e3 ai=>?_;unfold f38 at cw;refine C 2 V (JS.box (v:=.agg #[sV a1 p0.1 c2,sV O p0.2 U]) V V V e3 V λY e4=>?_);refine Cs e4 λk4 k5 K e5 e6=>?_;refine BZ e6 GV λZ e7=>?_;refine BF (S':=[[],[(Y,.cells #[sV a1 p0.1 c2,sV O p0.2 U] 25 (0,0))],[],[(Z,.cells #[nS,nS] 25 (0,0))]]) V e7 λbi=>C 2 V (Ei 6 λc4=>?_);refine JG.fd 1 c4 underlying25 Cv V V V V (GK 4 c4 e5 C7 AX V V V ?_);let⟨k6,aj,al⟩:=bs cw;refine Ma (i:=0) (j:=2) (l:=5) V (by decide+kernel) ?_ ?_ ?_;refine Take.JC (pp:=Ay) bi V V V underlying23 AX λk7 k8 b5 b4=>EH (i:=2) (j:=5) V (by decide+kernel) ?_ ?_;refine Take.y0 (v:=sV O p0.2 U) V V V (λρ h=>Yl.load EO (h _ _ V) (BY (j:=1) b4 V V)) (EH (i:=3) (j:=5) V (by decide+kernel) ?_ ?_);refine Take.GZ (pp:=Ay) 4 b4 aj V V V V V V V underlying23 underlying23 AX (BJ type27) BC V (by decide) (by decide) b5 (ag.Ag K) V λk9 la lb e8 ff fk=>JG.one (i:=5) V (by decide+kernel) (Take.DL (pp:=Ay) [.agg #[iV p1.1,iV p1.2.1,iV p1.2.2]] ([p1]:AB) fk V V V underlying23 AX BC (by decide) V V V ⟨⟨_,_,V,V,⟨_,_,V,V,V⟩⟩,trivial⟩ λld fl fm fo=>?_);refine Cn [6,7,8] (Fh 4 V fo λfs=>?_);refine JS.drop 4 fs V λfv=>BF (S':=[[],[(Y,.cells #[sV a1 p0.1 c2,sV O p0.2 U] 25 (0,0))],[],[(Z,.cells #[nS,nS] 25 (0,0))],[],fl,e8]) V fv λfw=>BO 5 fm fw V λlf b6 fN gc=>?_;let⟨bo,ge,gg⟩:=bs al;refine FM (pp:=Ay) 6 ge V V V V V V V underlying23 underlying23 AX (BJ type27) BC V (by decide) (by decide) (ff.Ag b6) fN gc V λam ap gh gt gE=>JL.fd underlying25 Cv V V V (JS.sx 1 gE Cv λgO=>?_);refine BF (S':=[[],[(Y,.cells #[sV a1 p0.1 c2,sV am bo ap] 25 (0,0))],[],[(Z,.cells #[nS,nS] 25 (0,0))],[],[],gh]) V gO λc5=>C 3 V (Ao V (λρ h=>F4 (vs:=[sV a1 p0.1 c2,sV am bo ap]) Cb BD (h _ _ V) (Em (off:=0) 1 c5 V V)) ?_);refine JS.sx 3 c5 BD λg3=>?_;refine JL.done (BO 6 gt g3 V λlg c6 g4 g5=>?_);refine JS.drop 1 g5 V λc7=>?_;cases gg;refine JL.ret (v:=.agg #[sV a1 p0.1 c2,sV am bo ap]) V V (BK.list func32 V (vs:=[.agg #[sV a1 p0.1 c2,sV am bo ap]]) ⟨⟨_,V,Ld.many (vs:=[sV a1 p0.1 c2,sV am bo ap]) Cb BD (Em (off:=0) 3 c7 V V)⟩,trivial⟩) (DW 3 c7 V λg6=>?_);exact ai ((K.Ad b6).Ad c6) V ⟨a1,c2,am,ap,V,V,(ac.Ag ((K.Ad b6).Ad c6)),g4⟩ g6;refine Take.DL (pp:=Ay) [.agg #[iV p1.1,iV p1.2.1,iV p1.2.2]] ([p1]:AB) b4 V V V underlying23 AX BC (by decide) V V V ⟨⟨_,_,V,V,⟨_,_,V,V,V⟩⟩,trivial⟩ λlh g7 g8 ha=>JG.one (i:=3) V (by decide+kernel) (Take.GZ (pp:=Ay) 4 ha aj V V V V V V V underlying23 underlying23 AX (BJ type27) BC V (by decide) (by decide) b5 (ag.Ag K) V λli lj ll hb hc he=>?_);refine Cn [6,7,8] (Fh 4 V he λhf=>?_);refine JS.drop 4 hf V λhg=>BF (S':=[[],[(Y,.cells #[sV a1 p0.1 c2,sV O p0.2 U] 25 (0,0))],[],[(Z,.cells #[nS,nS] 25 (0,0))],[],g7,hb]) V hg λhk=>BO 5 g8 hk V λlm ca hl hm=>?_;let⟨bv,hn,ho⟩:=bs al;refine FM (pp:=Ay) 6 hn V V V V V V V underlying23 underlying23 AX (BJ type27) BC V (by decide) (by decide) (hc.Ag ca) hl hm V λaq aw hp hq hr=>JL.fd underlying25 Cv V V V (JS.sx 1 hr Cv λhs=>?_);refine BF (S':=[[],[(Y,.cells #[sV a1 p0.1 c2,sV aq bv aw] 25 (0,0))],[],[(Z,.cells #[nS,nS] 25 (0,0))],[],[],hp]) V hs λc8=>C 3 V (Ao V (λρ h=>F4 (vs:=[sV a1 p0.1 c2,sV aq bv aw]) Cb BD (h _ _ V) (Em (off:=0) 1 c8 V V)) ?_);refine JS.sx 3 c8 BD λht=>?_;refine JL.done (BO 6 hq ht V λlq c9 hu hv=>?_);refine JS.drop 1 hv V λdd=>?_;cases ho;refine JL.ret (v:=.agg #[sV a1 p0.1 c2,sV aq bv aw]) V V (BK.list func32 V (vs:=[.agg #[sV a1 p0.1 c2,sV aq bv aw]]) ⟨⟨_,V,Ld.many (vs:=[sV a1 p0.1 c2,sV aq bv aw]) Cb BD (Em (off:=0) 3 dd V V)⟩,trivial⟩) (DW 3 dd V λhw=>?_);exact ai ((K.Ad ca).Ad c9) V ⟨a1,c2,aq,aw,V,V,(ac.Ag ((K.Ad ca).Ad c9)),hu⟩ hw;refine Take.DL (pp:=Ay) [.agg #[iV p1.1,iV p1.2.1,iV p1.2.2]] ([p1]:AB) b4 V V V underlying23 AX BC (by decide) V V V ⟨⟨_,_,V,V,⟨_,_,V,V,V⟩⟩,trivial⟩ λlr hx hy dj=>JG.one (i:=2) V (by decide+kernel) (Take.y0 (v:=sV O p0.2 U) V V V (λρ h=>Yl.load EO (h _ _ V) (BY (j:=1) dj V V)) ?_);refine JG.one (i:=3) V (by decide+kernel) (Take.GZ (pp:=Ay) 4 dj aj V V V V V V V underlying23 underlying23 AX (BJ type27) BC V (by decide) (by decide) b5 (ag.Ag K) V λls lu lw hz hA hB=>?_);refine Cn [6,7,8] (Fh 4 V hB λhC=>?_);refine JS.drop 4 hC V λhD=>BF (S':=[[],[(Y,.cells #[sV a1 p0.1 c2,sV O p0.2 U] 25 (0,0))],[],[(Z,.cells #[nS,nS] 25 (0,0))],[],hx,hz]) V hD λhE=>BO 5 hy hE V λlx cc hF hG=>?_;let⟨bw,hH,hI⟩:=bs al;refine FM (pp:=Ay) 6 hH V V V V V V V underlying23 underlying23 AX (BJ type27) BC V (by decide) (by decide) (hA.Ag cc) hF hG V λa0 a2 hJ hK hL=>JL.fd underlying25 Cv V V V (JS.sx 1 hL Cv λhM=>?_);refine BF (S':=[[],[(Y,.cells #[sV a1 p0.1 c2,sV a0 bw a2] 25 (0,0))],[],[(Z,.cells #[nS,nS] 25 (0,0))],[],[],hJ]) V hM λea=>C 3 V (Ao V (λρ h=>F4 (vs:=[sV a1 p0.1 c2,sV a0 bw a2]) Cb BD (h _ _ V) (Em (off:=0) 1 ea V V)) ?_);refine JS.sx 3 ea BD λhN=>?_;refine JL.done (BO 6 hK hN V λlz eb hO hP=>?_);refine JS.drop 1 hP V λec=>?_;cases hI;refine JL.ret (v:=.agg #[sV a1 p0.1 c2,sV a0 bw a2]) V V (BK.list func32 V (vs:=[.agg #[sV a1 p0.1 c2,sV a0 bw a2]]) ⟨⟨_,V,Ld.many (vs:=[sV a1 p0.1 c2,sV a0 bw a2]) Cb BD (Em (off:=0) 3 ec V V)⟩,trivial⟩) (DW 3 ec V λhQ=>?_);exact ai ((K.Ad cc).Ad eb) V ⟨a1,c2,a0,a2,V,V,(ac.Ag ((K.Ad cc).Ad eb)),hO⟩ hQ;refine Take.y0 (v:=sV O p0.2 U) V V V (λρ h=>Yl.load EO (h _ _ V) (BY (j:=1) bi V V)) (EH (i:=0) (j:=5) V (by decide+kernel) ?_ ?_);refine Take.JC (pp:=Ay) bi V V V underlying23 AX λlA lB ed ee=>EH (i:=3) (j:=5) V (by decide+kernel) ?_ ?_;refine Take.GZ (pp:=Ay) 4 ee aj V V V V V V V underlying23 underlying23 AX (BJ type27) BC V (by decide) (by decide) ed (ag.Ag K) V λlC lD lE hR hS hT=>JG.one (i:=5) V (by decide+kernel) (Take.DL (pp:=Ay) [.agg #[iV p1.1,iV p1.2.1,iV p1.2.2]] ([p1]:AB) hT V V V underlying23 AX BC (by decide) V V V ⟨⟨_,_,V,V,⟨_,_,V,V,V⟩⟩,trivial⟩ λlF hU hV hW=>?_);refine Cn [6,7,8] (Fh 4 V hW λhX=>?_);refine JS.drop 4 hX V λhY=>BF (S':=[[],[(Y,.cells #[sV a1 p0.1 c2,sV O p0.2 U] 25 (0,0))],[],[(Z,.cells #[nS,nS] 25 (0,0))],[],hU,hR]) V hY λh0=>BO 5 hV h0 V λlG ce h1 h2=>?_;let⟨bx,h3,h4⟩:=bs al;refine FM (pp:=Ay) 6 h3 V V V V V V V underlying23 underlying23 AX (BJ type27) BC V (by decide) (by decide) (hS.Ag ce) h1 h2 V λa3 a4 h5 h6 h7=>JL.fd underlying25 Cv V V V (JS.sx 1 h7 Cv λh8=>?_);refine BF (S':=[[],[(Y,.cells #[sV a1 p0.1 c2,sV a3 bx a4] 25 (0,0))],[],[(Z,.cells #[nS,nS] 25 (0,0))],[],[],h5]) V h8 λef=>C 3 V (Ao V (λρ h=>F4 (vs:=[sV a1 p0.1 c2,sV a3 bx a4]) Cb BD (h _ _ V) (Em (off:=0) 1 ef V V)) ?_);refine JS.sx 3 ef BD λh9=>?_;refine JL.done (BO 6 h6 h9 V λlH eg ia ih=>?_);refine JS.drop 1 ih V λej=>?_;cases h4;refine JL.ret (v:=.agg #[sV a1 p0.1 c2,sV a3 bx a4]) V V (BK.list func32 V (vs:=[.agg #[sV a1 p0.1 c2,sV a3 bx a4]]) ⟨⟨_,V,Ld.many (vs:=[sV a1 p0.1 c2,sV a3 bx a4]) Cb BD (Em (off:=0) 3 ej V V)⟩,trivial⟩) (DW 3 ej V λii=>?_);exact ai ((K.Ad ce).Ad eg) V ⟨a1,c2,a3,a4,V,V,(ac.Ag ((K.Ad ce).Ad eg)),ia⟩ ii;refine Take.DL (pp:=Ay) [.agg #[iV p1.1,iV p1.2.1,iV p1.2.2]] ([p1]:AB) ee V V V underlying23 AX BC (by decide) V V V ⟨⟨_,_,V,V,⟨_,_,V,V,V⟩⟩,trivial⟩ λlI io i0 i1=>JG.one (i:=3) V (by decide+kernel) (Take.GZ (pp:=Ay) 4 i1 aj V V V V V V V underlying23 underlying23 AX (BJ type27) BC V (by decide) (by decide) ed (ag.Ag K) V λlJ lK lL i3 i4 i5=>?_);refine Cn [6,7,8] (Fh 4 V i5 λi6=>?_);refine JS.drop 4 i6 V λi7=>BF (S':=[[],[(Y,.cells #[sV a1 p0.1 c2,sV O p0.2 U] 25 (0,0))],[],[(Z,.cells #[nS,nS] 25 (0,0))],[],io,i3]) V i7 λi8=>BO 5 i0 i8 V λlM ci i9 jg=>?_;let⟨b0,ji,jj⟩:=bs al;refine FM (pp:=Ay) 6 ji V V V V V V V underlying23 underlying23 AX (BJ type27) BC V (by decide) (by decide) (i4.Ag ci) i9 jg V λa5 a6 jp jr jt=>JL.fd underlying25 Cv V V V (JS.sx 1 jt Cv λjy=>?_);refine BF (S':=[[],[(Y,.cells #[sV a1 p0.1 c2,sV a5 b0 a6] 25 (0,0))],[],[(Z,.cells #[nS,nS] 25 (0,0))],[],[],jp]) V jy λek=>C 3 V (Ao V (λρ h=>F4 (vs:=[sV a1 p0.1 c2,sV a5 b0 a6]) Cb BD (h _ _ V) (Em (off:=0) 1 ek V V)) ?_);refine JS.sx 3 ek BD λjT=>?_;refine JL.done (BO 6 jr jT V λlN el jU jV=>?_);refine JS.drop 1 jV V λem=>?_;cases jj;refine JL.ret (v:=.agg #[sV a1 p0.1 c2,sV a5 b0 a6]) V V (BK.list func32 V (vs:=[.agg #[sV a1 p0.1 c2,sV a5 b0 a6]]) ⟨⟨_,V,Ld.many (vs:=[sV a1 p0.1 c2,sV a5 b0 a6]) Cb BD (Em (off:=0) 3 em V V)⟩,trivial⟩) (DW 3 em V λjW=>?_);exact ai ((K.Ad ci).Ad el) V ⟨a1,c2,a5,a6,V,V,(ac.Ag ((K.Ad ci).Ad el)),jU⟩ jW;refine Take.DL (pp:=Ay) [.agg #[iV p1.1,iV p1.2.1,iV p1.2.2]] ([p1]:AB) bi V V V underlying23 AX BC (by decide) V V V ⟨⟨_,_,V,V,⟨_,_,V,V,V⟩⟩,trivial⟩ λlO jX jY jZ=>JG.one (i:=0) V (by decide+kernel) (Take.JC (pp:=Ay) jZ V V V underlying23 AX λlP lQ j0 j1=>?_);refine JG.one (i:=3) V (by decide+kernel) (Take.GZ (pp:=Ay) 5 j1 aj V V V V V V V underlying23 underlying23 AX (BJ type27) BC V (by decide) (by decide) j0 (ag.Ag K) V λlR lS lT j2 j3 j4=>?_);refine Cn [6,7,8] (Fh 5 V j4 λj5=>?_);refine JS.drop 5 j5 V λj6=>BF (S':=[[],[(Y,.cells #[sV a1 p0.1 c2,sV O p0.2 U] 25 (0,0))],[],[(Z,.cells #[nS,nS] 25 (0,0))],jX,[],j2]) V j6 λj7=>BO 4 jY j7 V λlU ck j8 j9=>?_;let⟨b1,kb,kc⟩:=bs al;refine FM (pp:=Ay) 6 kb V V V V V V V underlying23 underlying23 AX (BJ type27) BC V (by decide) (by decide) (j3.Ag ck) j8 j9 V λa7 a8 ke kf kg=>JL.fd underlying25 Cv V V V (JS.sx 1 kg Cv λkh=>?_);refine BF (S':=[[],[(Y,.cells #[sV a1 p0.1 c2,sV a7 b1 a8] 25 (0,0))],[],[(Z,.cells #[nS,nS] 25 (0,0))],[],[],ke]) V kh λeo=>C 3 V (Ao V (λρ h=>F4 (vs:=[sV a1 p0.1 c2,sV a7 b1 a8]) Cb BD (h _ _ V) (Em (off:=0) 1 eo V V)) ?_);refine JS.sx 3 eo BD λki=>?_;refine JL.done (BO 6 kf ki V λlV er kj kl=>?_);refine JS.drop 1 kl V λet=>?_;cases kc;refine JL.ret (v:=.agg #[sV a1 p0.1 c2,sV a7 b1 a8]) V V (BK.list func32 V (vs:=[.agg #[sV a1 p0.1 c2,sV a7 b1 a8]]) ⟨⟨_,V,Ld.many (vs:=[sV a1 p0.1 c2,sV a7 b1 a8]) Cb BD (Em (off:=0) 3 et V V)⟩,trivial⟩) (DW 3 et V λkm=>?_);exact ai ((K.Ad ck).Ad er) V ⟨a1,c2,a7,a8,V,V,(ac.Ag ((K.Ad ck).Ad er)),kj⟩ km;refine Take.DL (pp:=Ay) [.agg #[iV p1.1,iV p1.2.1,iV p1.2.2]] ([p1]:AB) bi V V V underlying23 AX BC (by decide) V V V ⟨⟨_,_,V,V,⟨_,_,V,V,V⟩⟩,trivial⟩ λlW eu ew co=>EH (i:=0) (j:=2) V (by decide+kernel) ?_ ?_;refine Take.JC (pp:=Ay) co V V V underlying23 AX λlX lY kn ex=>JG.one (i:=2) V (by decide+kernel) (Take.y0 (v:=sV O p0.2 U) V V V (λρ h=>Yl.load EO (h _ _ V) (BY (j:=1) ex V V)) ?_);refine JG.one (i:=3) V (by decide+kernel) (Take.GZ (pp:=Ay) 5 ex aj V V V V V V V underlying23 underlying23 AX (BJ type27) BC V (by decide) (by decide) kn (ag.Ag K) V λlZ l3 l4 ko kp kq=>?_);refine Cn [6,7,8] (Fh 5 V kq λkr=>?_);refine JS.drop 5 kr V λks=>BF (S':=[[],[(Y,.cells #[sV a1 p0.1 c2,sV O p0.2 U] 25 (0,0))],[],[(Z,.cells #[nS,nS] 25 (0,0))],eu,[],ko]) V ks λkt=>BO 4 ew kt V λl5 cp ku kv=>?_;let⟨b2,kx,ky⟩:=bs al;refine FM (pp:=Ay) 6 kx V V V V V V V underlying23 underlying23 AX (BJ type27) BC V (by decide) (by decide) (kp.Ag cp) ku kv V λa9 bb kz kA kB=>JL.fd underlying25 Cv V V V (JS.sx 1 kB Cv λkC=>?_);refine BF (S':=[[],[(Y,.cells #[sV a1 p0.1 c2,sV a9 b2 bb] 25 (0,0))],[],[(Z,.cells #[nS,nS] 25 (0,0))],[],[],kz]) V kC λey=>C 3 V (Ao V (λρ h=>F4 (vs:=[sV a1 p0.1 c2,sV a9 b2 bb]) Cb BD (h _ _ V) (Em (off:=0) 1 ey V V)) ?_);refine JS.sx 3 ey BD λkD=>?_;refine JL.done (BO 6 kA kD V λl6 eA kF kG=>?_);refine JS.drop 1 kG V λeC=>?_;cases ky;refine JL.ret (v:=.agg #[sV a1 p0.1 c2,sV a9 b2 bb]) V V (BK.list func32 V (vs:=[.agg #[sV a1 p0.1 c2,sV a9 b2 bb]]) ⟨⟨_,V,Ld.many (vs:=[sV a1 p0.1 c2,sV a9 b2 bb]) Cb BD (Em (off:=0) 3 eC V V)⟩,trivial⟩) (DW 3 eC V λkI=>?_);exact ai ((K.Ad cp).Ad eA) V ⟨a1,c2,a9,bb,V,V,(ac.Ag ((K.Ad cp).Ad eA)),kF⟩ kI;refine Take.y0 (v:=sV O p0.2 U) V V V (λρ h=>Yl.load EO (h _ _ V) (BY (j:=1) co V V)) (JG.one (i:=0) V (by decide+kernel) ?_);refine Take.JC (pp:=Ay) co V V V underlying23 AX λl7 l8 kJ kK=>JG.one (i:=3) V (by decide+kernel) (Take.GZ (pp:=Ay) 5 kK aj V V V V V V V underlying23 underlying23 AX (BJ type27) BC V (by decide) (by decide) kJ (ag.Ag K) V λl9 ma mb kL kM kN=>?_);refine Cn [6,7,8] (Fh 5 V kN λkO=>?_);refine JS.drop 5 kO V λkP=>BF (S':=[[],[(Y,.cells #[sV a1 p0.1 c2,sV O p0.2 U] 25 (0,0))],[],[(Z,.cells #[nS,nS] 25 (0,0))],eu,[],kL]) V kP λkQ=>BO 4 ew kQ V λmc ct kR kS=>?_;let⟨b3,kT,kU⟩:=bs al;refine FM (pp:=Ay) 6 kT V V V V V V V underlying23 underlying23 AX (BJ type27) BC V (by decide) (by decide) (kM.Ag ct) kR kS V λbe bg kV kW kX=>JL.fd underlying25 Cv V V V (JS.sx 1 kX Cv λkY=>?_);refine BF (S':=[[],[(Y,.cells #[sV a1 p0.1 c2,sV be b3 bg] 25 (0,0))],[],[(Z,.cells #[nS,nS] 25 (0,0))],[],[],kV]) V kY λeN=>C 3 V (Ao V (λρ h=>F4 (vs:=[sV a1 p0.1 c2,sV be b3 bg]) Cb BD (h _ _ V) (Em (off:=0) 1 eN V V)) ?_);refine JS.sx 3 eN BD λkZ=>?_;refine JL.done (BO 6 kW kZ V λmd e0 k0 k1=>?_);refine JS.drop 1 k1 V λe1=>?_;cases kU;refine JL.ret (v:=.agg #[sV a1 p0.1 c2,sV be b3 bg]) V V (BK.list func32 V (vs:=[.agg #[sV a1 p0.1 c2,sV be b3 bg]]) ⟨⟨_,V,Ld.many (vs:=[sV a1 p0.1 c2,sV be b3 bg]) Cb BD (Em (off:=0) 3 e1 V V)⟩,trivial⟩) (DW 3 e1 V λk2=>?_);exact ai ((K.Ad ct).Ad e0) V ⟨a1,c2,be,bg,V,V,(ac.Ag ((K.Ad ct).Ad e0)),k0⟩ k2
variable {J:Judge Tryz.prog}{E:LH}
def f19(fu_:Nat)(p0:A0)(p1:Int×Int×Int)(p2:B4):Option ((List A0)×(B4)):=(f31 fu_ p2 5 6).bind λK=>(f38 fu_ K.1 p1).bind λO=>(f32 fu_ K.2 3).bind λU=>Option.bind (if U.1=true then((f68 fu_ p0.1).bind λY=>some Y) else(some O.1)) λZ=>some (([p0,K.1,(Z,O.2)]:List A0),U.2)
theorem ir{a2:Ap}{a3:Nat}{a8:Ap}{a9:Nat}{p2:B4}(bb:Am (rL rI) E a1 c2 p0.1)(ck:Am Ay E a2 a3 p0.2)(co:Am rI E a8 a9 p2.1){r:(List A0)×(B4)}(be:f19 fu_ p0 p1 p2=some r):AY J 7 [.agg #[sV a1 p0.1 c2,sV a2 p0.2 a3],.agg #[iV p1.1,iV p1.2.1,iV p1.2.2],Ar bk 0] E [(bk,.cells #[sV a8 p2.1 a9,iV p2.2.1,.int .u64 ((p2.2.2:Nat):Int)] 61 (0,0))] (λw E' B'=>∃(bg:Ap) (bi:Nat) (bo:Ap) (bv:Nat),w= sV bg r.1 bi/\B'=[(bk,.cells #[sV bo r.2.1 bv,iV r.2.2.1,.int .u64 ((r.2.2.2:Nat):Int)] 61 (0,0))]/\Am (rP (rL (rL rI)) (rL Ay)) E' bg bi r.1/\Am rI E' bo bv r.2.1):=by
 refine Bm func7 λQ fN cs H cp ct=>?_;unfold f19 at be;refine C 2 V (Cs cp λcw gc al bw cy=>?_);refine Cs cy λge gg ac c0 c1=>?_;let⟨Y,c3,c4⟩:=bs be;refine C 5 V (Cw 0 (jc (co.Ag (al.Ad ac)) c3) V V (A4 func31 V) c1 V ?_);rintro _ gh _ ag ⟨c5,c6,c7,c8,bx,b0,rfl,rfl,b1,b2,c9⟩ dd;refine BF (S':=[[(bk,.cells #[sV bx Y.2.1 b0,iV Y.2.2.1,.int .u64 ((Y.2.2.2:Nat):Int)] 61 (0,0))],[],[]]) V dd λdj=>BZ dj GV λea eb=>?_;refine JS.sx 3 eb BD λec=>?_;refine C8 3 ec V λgt K b3 ed=>C 3 V (BQ b3 Cb BD V V ?_);refine BQ (c0.Ag (ag.Ad K)) C7 AX V V ?_;let⟨ai,ee,ef⟩:=bs c4;refine BU (iU (b1.Ag K) (b2.Ag K) ee) V V (A4 func32 V) ed ?_;rintro _ gE _ U ⟨b4,b5,aw,a0,rfl,rfl,eg,ej⟩ ek;refine BF (S':=[[(bk,.cells #[sV bx Y.2.1 b0,iV Y.2.2.1,.int .u64 ((Y.2.2.2:Nat):Int)] 61 (0,0))],[],[],[],[]]) V ek λel=>BZ el GV λa4 em=>?_;refine JS.sx 5 em BD λeo=>?_;let⟨aj,er,et⟩:=bs ef;refine C 5 V (Cw 0 (W6 (c9.Ag (K.Ad U)) er) V V (A4 func33 V) eo V ?_);rintro _ b6 _ O ⟨a5,a6,rfl,rfl,eu⟩ ew;refine BF (S':=[[(bk,.cells #[sV a5 aj.2.1 a6,iV aj.2.2.1,.int .u64 ((aj.2.2.2:Nat):Int)] 61 (0,0))],[],[],[],[],[(a4,.cells #[sV b4 ai.1 b5,sV aw ai.2 a0] 25 (0,0))]]) V ew λca=>?_;let⟨am,ex,ey⟩:=bs et;refine JL.done (Bu (λL s=>∃(a7:LH) (ap:Ap) (aq:Nat),Jn b6 H a7 [bX bk #[sV a5 aj.2.1 a6,iV aj.2.2.1,.int .u64 ((aj.2.2.2:Nat):Int)] 61,bX a4 #[sV ap am aq,sV aw ai.2 a0] 25] [(3,Ar cw 0),(7,Ar ea 0),(8,Ar a4 0)] L s (Am (rL rI) a7 ap aq am)) ?_ ?_);rintro _ _ ⟨a7,ap,aq,rfl,rfl,Z,cc,eA⟩;refine C 2 V (BQ (bw.Ag (((((ac.Ad ag).Ad K).Ad U).Ad O).Ad Z)) Cb BD V V ?_);refine BQ (b3.Ag ((U.Ad O).Ad Z)) Cb BD V V (Ao V (λρ h=>F4 (vs:=[sV ap am aq,sV aw ai.2 a0]) Cb BD (h _ _ V) (Em (off:=0) 1 cc V V)) ?_);refine FO (pp:=(rP (rL (rL rI)) (rL Ay))) [.agg #[sV a1 p0.1 c2,sV a2 p0.2 a3],.agg #[sV c5 Y.1.1 c6,sV c7 Y.1.2 c8],.agg #[sV ap am aq,sV aw ai.2 a0]] [p0,Y.1,(am,ai.2)] V V V underlying33 BD GV (by decide) V V V ⟨⟨_,_,V,⟨_,_,V,(bb.Ag ((((((al.Ad ac).Ad ag).Ad K).Ad U).Ad O).Ad Z))⟩,⟨_,_,V,(ck.Ag ((((((al.Ad ac).Ad ag).Ad K).Ad U).Ad O).Ad Z))⟩⟩,⟨_,_,V,⟨_,_,V,(b1.Ag (((K.Ad U).Ad O).Ad Z))⟩,⟨_,_,V,(b2.Ag (((K.Ad U).Ad O).Ad Z))⟩⟩,⟨_,_,V,⟨_,_,V,eA⟩,⟨_,_,V,(ej.Ag (O.Ad Z))⟩⟩,trivial⟩ cc λeC gO eN e0=>C 2 V (BO 2 eN e0 V λg3 ce e1 e3=>?_);refine JS.drop 1 e3 V λe4=>?_;cases ey;exact AK func7 V V (ct (((((((al.Ad ac).Ad ag).Ad K).Ad U).Ad O).Ad Z).Ad ce) V ⟨(Bh eC),3,a5,a6,V,V,e1,(eu.Ag (Z.Ad ce))⟩ e4);intro ci;refine Cm ex (λe5 e6=>?_) (λe5 e7=>?_);refine JL.region (BH 0 (bw.Ag ((((ac.Ad ag).Ad K).Ad U).Ad O)) underlying25 DD Ed ?_);let⟨g4,e8,ff⟩:=bs e6;refine BU (Xf (bb.Ag (((((al.Ad ac).Ad ag).Ad K).Ad U).Ad O)) e8) V V (A4 func34 V) ca ?_;rintro _ fk _ fl ⟨fm,fo,rfl,rfl,fs⟩ fv;refine JL.fd underlying25 DD V V V (JS.sx 5 fv DD λfw=>?_);refine JL.done ?_;cases ff;exact AD (ci _ _ ⟨fk,fm,fo,V,V,fl,fw,fs⟩) V;refine JL.skip ?_;cases e7;exact AD (ci _ _ ⟨b6,b4,b5,V,V,AL,ca,(eg.Ag O)⟩) V
variable {J:Judge Tryz.prog}{E:LH}
def No(fu_:Nat)(p0:A0)(K:(List Int)×Int):Option (Bq ((List Int)×Int) ((List Int))):=if K.2<(p0.2.length:Int) then((ix p0.2 K.2).bind λO=>(ix K.1 O.1).bind λai=>(ix K.1 O.1).bind λU=>(Az (U - O.2.2)).bind λY=>(ix K.1 O.2.1).bind λZ=>(Az (Z+O.2.2)).bind λac=>(Az (K.2+1)).bind λag=>some (.more (((K.1.set (Int.toNat O.1) Y).set (Int.toNat O.2.1) ac),ag))) else(some (.done K.1))
def f55(fu_:Nat)(p0:A0):Option ((List Int)):=(Fx (p0.1.length:Int) (0:Int)).bind λK=>Option.bind (iter (No fu_ p0) fu_ (K,0)) λO=>some O
end Pal
namespace Pal
open Go Go.Conc
def MI(t:TypeId)(v:Value):Option Int->Prop
 | none=>v=.nilIface
 | some c=>v=.iface t (.agg #[iV c])
variable {P:Program}{s:St}{ρ:Operand->Value}{d:Option Tmp}{t u ty e:TypeId}{p:String}{af:Ae_}{g:On_}{v v':Value}
variable{ms:Array (String×TypeId)}{K:TypeId}{o:Option Int}
section
variable {x y z:Operand}
theorem Yf{n:Nat}(O:P.underlying t=some (.interface ms))(he:MI K v o){Q:Bool->St->Prop}{X:Halt->St->Prop}(k:Q o.isNone s):lp P (Op.equalIn (n+1) t v .nilIface) s Q X:=by
 unfold Op.equalIn;refine AA _ _ (CM O ?_);cases o with
 | none=>obtain rfl:v=.nilIface:=he;exact k
 | some q=>obtain rfl:v=.iface K (.agg #[iV q]):=he;exact k
theorem T2(O:P.underlying t=some (.interface ms))(he:MI K v o)(U:ρ x=v)(Y:ρ (.const .nilIface)=.nilIface):Yl P ⟨d,.binOp .eql t x (.const .nilIface) u,ty,p,af,g⟩ ρ s (.bool o.isNone):=by
 refine Gi (sm:=do eqGuard .eql t x (.const .nilIface) (ρ x) (ρ (.const .nilIface));binOp .eql t (ρ x) (ρ (.const .nilIface))) V ?_
 rw[U,Y];have Z:lp P (eqGuard .eql t x (.const .nilIface) v .nilIface) s (λ_ s'=>s'=s) (λ_ _=>False):=by
  cases o with
  | none=>obtain rfl:v=.nilIface:=he;simp[eqGuard,lp,pure]
  | some q=>obtain rfl:v=.iface K (.agg #[iV q]):=he;simp[eqGuard,lp,pure]
 refine AA _ _ (EP _ Z ?_ (λ_ _ h=>h));rintro _ _ rfl;have hb:binOp .eql t v .nilIface=(do pure (.bool (← Op.equal t v .nilIface))):=by
  cases o with
  | none=>obtain rfl:v=.nilIface:=he;rfl
  | some q=>obtain rfl:v=.iface K (.agg #[iV q]):=he;rfl
 rw[hb];refine AA (x:=Op.equal t v .nilIface) _ ?_;unfold Op.equal Op.maxDepth;refine Yf O he ?_;refine⟨?_,V⟩
 rfl
end
end Pal
set_option autoImplicit false
open Go
namespace Pal
variable{p2:Int}
theorem Am.Qk{P:Program}{E:LH}{α:Type}{pp:Rp α}{a:Option Addr}{c:Nat}{xs:List α}{xv:α}(U:Am pp E a c xs)(O:ix xs p2=some xv):
  ∃bk o ws,pp.r E ws xv/\At E bk o ws/\∀{s:St}{ρ:Operand->Value}{x y:Operand}{d:Option Tmp}{t ty e:TypeId}{p:String}{af:Ae_}{g:On_}{kd:IntKind},
   P.underlying t=some (.slice e)->Bz P e=some pp.n->ρ x=.slice a xs.length c->ρ y=.int kd p2->Yl P ⟨d,.indexAddr t x y,ty,p,af,g⟩ ρ s (.pointer (some ⟨bk,o,none⟩)):=by
 obtain⟨p2,rfl,O⟩:=FP O;have Y:p2<xs.length:=(dY.1 O).1;obtain⟨ap,⟨rfl,_⟩ | ⟨bk,off,rfl,Z⟩⟩:=U;simp at Y
 let⟨ws,ac,ag⟩:=Z p2 xv O;refine⟨bk,off+p2*pp.n,ws,ac,ag,λ{s ρ x y d t ty e p af g kd} ai aj al am=>?_⟩;have:=MY (P:=P) (s:=s) (d:=d) (ty:=ty) (p:=p) (af:=af) (g:=g) ai aj al am ⟨by omega,by omega⟩;rw[EG rfl] at this;simpa using this
open Go Go.Conc Go.Proofs
variable {J:Judge Tryz.prog}{E:LH}
def NI(fu_:Nat)(p0:Nat)(p1:Int)(p2:Int):Option (Nat):=
 (f106 fu_ p1 p2).bind λx1=>
 (P9 p0 x1).bind λK=>
 some K
variable{fu_ r:Nat}
theorem gj{p0:Nat}{p1:Int}(K:NI fu_ p0 p1 p2=some r):AY J 67 [.int .u32 ((p0:Nat):Int),iV p1,iV p2] E [] (λw E' B'=>w=.int .u32 ((r:Nat):Int)/\B'=[]):=by
 refine Bm Tryz.func67 λQ am cs H O U=>?_;unfold NI at K;let⟨x1,Y,Z⟩:=bs K;refine C 9 V (B9 (Ww Y) V V (A4 Tryz.func91 V) O λap ac ag=>?_);let⟨ai,aj,al⟩:=bs Z;refine Ao (v:=.int .u32 ((ai:Nat):Int)) V (λρ h=>ZD (h _ _ V) (h _ _ V) aj) (C 2 V ?_);cases al;exact AK Tryz.func67 V V (U ac V ⟨V,V⟩ ag)
def O3(fu_:Nat)(p0:A0)(p1:AB)(K:(List Int)×Nat×Int):Option (Bq ((List Int)×Nat×Int) (((Option Int))⊕((List Int)))):=
 if K.2.2<((p1).length:Int) then(
  (ix p1 (K.2.2)).bind λO=>
  (f86 fu_ O ((p0.1).length:Int) 72).bind λU=>
  if U≠0 then(
   some (.done (Sum.inl (some (U))))
  ) else(
   (f136 fu_ K.2.1 O.1 O.2.1).bind λY=>
   if Y=true then(
    some (.done (Sum.inl (some (4))))
   ) else(
    (NI fu_ K.2.1 O.1 O.2.1).bind λZ=>
    (f204 fu_ K.1 O).bind λac=>
    (Az (K.2.2+1)).bind λag=>
    some (.more (ac,Z,ag))
   )
  )
 ) else(
  some (.done (Sum.inr K.1))
 )
def KU(fu_:Nat)(p0:A0)(p1:AB):Option ((Option Int)):=
 if 8<((p1).length:Int) then(
  some (some (6))
 ) else(
  (f84 fu_ p0).bind λK=>
  Option.bind (iter (O3 fu_ p0 p1) fu_ (K,0,0)) λO=>
  Sum.elim (λr=>some r) (λU=>
  if U≠(List.replicate 5 (0:Int)) then(
   some (some (9))
  ) else(
   some none
  )
  ) O
 )
variable{c2:Nat}
theorem WH{a1 b3:Ap}{b4:Nat}{be:Ap}{bg:Nat}{p0:A0}{p1:AB}(c0:Am (rL rI) E a1 c2 (p0.1))(c1:Am Ay E b3 b4 (p0.2))(c3:Am Ay E be bg (p1)){r:(Option Int)}(b5:KU fu_ p0 p1=some r):AY J 42 [.agg #[.slice a1 (p0.1).length c2,.slice b3 (p0.2).length b4],.slice be (p1).length bg] E [] (λw E' B'=>∃(b6:Value),w=b6/\B'=[]/\MI 110 b6 (r)):=by
 refine Bm Tryz.func42 λQ g4 cs H c4 aq=>?_;unfold KU at b5;refine C 2 V (Cs c4 λc5 g5 U ca cc=>?_);refine C 6 V (JL.ln Tryz.underlying23 V V V ?_);refine C 2 V (AP b5 (λc6 c7=>?_) (λc6 c8=>?_));refine C 2 V (Ao (v:=.agg #[iV 6]) V (λρ h=>Dk [(0,1)] h LX Tryz.underlying110 ⟨V,A5 Tryz.type36,trivial⟩ V V) ?_);refine Ao (v:=.iface 110 (.agg #[iV 6])) V (λρ h=>J1 Tryz.underlying110 (λ_ h=>by cases h) (h _ _ V)) (C 2 V ?_);cases c7;exact AK Tryz.func42 V V (aq U V ⟨.iface 110 (.agg #[iV 6]),V,V,V⟩ cc);refine C 7 V (BQ ca F1 Ee V V ?_);let⟨g6,c9,dd⟩:=bs c8;refine BU (PQ (c0.Ag U) (c1.Ag U) c9) V V N4 cc ?_;rintro _ aw _ ai ⟨bi,rfl,rfl,a0⟩ dj;refine BZ dj Ku λa2 ea=>?_;refine Ht (v:=.agg bi.toArray) (l:=[]) (ws:=(List.replicate 5 (iV 0):Lv_)) (us:=bi) (o:=0) 3 V V V ea V V V (by rw[Cc (kk:=5) (pp:=rI) a0];exact A5 Tryz.type85) ((rA 5 rI).one a0) V (by rw[Cc (kk:=5) (pp:=rI) a0,Cc (kk:=5) (pp:=rI) (GJ (E:=aw) (pp:=rI) rfl)];omega) λce=>?_;rw[Js (by rw[Cc (kk:=5) (pp:=rI) a0,Cc (kk:=5) (pp:=rI) (GJ (E:=aw) (pp:=rI) rfl)])] at ce ⊢;refine C 5 V (JL.ln Tryz.underlying23 V V V ?_);let⟨ci,eb,bo⟩:=bs dd;refine C 2 V (Bu (λL s=>∃(a3:(List Int)) (aj:LH) (a4:Lv_),ci=Sum.inr a3/\Jn aw H aj [[(a2,.cells (([]:Lv_)++a4).toArray 85 (0,0))]] [(6,.pointer (some ⟨a2,0,none⟩))] L s ((rA 5 rI).r aj a4 (a3))) ?_ ?_);rintro _ _ ⟨a3,aj,a4,rfl,rfl,rfl,ck,bv,co⟩;have ec:=elim_inr bo;refine C 3 V (Ao (v:=.agg a4.toArray) V (λρ h=>HN (kk:=5) (pp:=rI) co Ic IQ (h _ _ V) (Hg (l:=[]) 0 bv V)) ?_);refine Ao (v:=.agg (List.replicate 5 (iV 0):Lv_).toArray) V (λρ h=>UD Tryz.underlying85 Ku Av V) (Ao (v:=.bool (decide (a3≠(List.replicate 5 (0:Int))))) V (λρ h=>Rv (E:=aj) (E':=aj) (ws:=a4) (ws':=(List.replicate 5 (iV 0):Lv_)) (a:=a3) (b:=(List.replicate 5 (0:Int))) Wj (by decide) (by decide+kernel) co (GJ (E:=aj) (pp:=rI) V) (h _ _ V) (h _ _ V)) ?_);refine JL.done (AP ec (λed ee=>?_) (λed ef=>?_));refine C 2 V (Ao (v:=.agg #[iV 9]) V (λρ h=>Dk [(0,1)] h LX Tryz.underlying110 ⟨V,A5 Tryz.type36,trivial⟩ V V) ?_);refine Ao (v:=.iface 110 (.agg #[iV 9])) V (λρ h=>J1 Tryz.underlying110 (λ_ h=>by cases h) (h _ _ V)) (C 2 V ?_);refine JS.drop 0 bv V λeg=>?_;cases ee;exact AK Tryz.func42 V V (aq ((U.trans ai).trans ck) V ⟨.iface 110 (.agg #[iV 9]),V,V,V⟩ eg);refine C 5 V (JS.drop 0 bv V λej=>?_);cases ef;exact AK Tryz.func42 V V (aq ((U.trans ai).trans ck) V ⟨.nilIface,V,V,V⟩ ej);intro ek;refine JL.block (Co eb (λL s Z=>∃(a9:LH) (al:Lv_),Jn aw H a9 [[(a2,.cells (([]:Lv_)++al).toArray 85 (0,0))]] [(2,.pointer (some ⟨c5,0,none⟩)),(5,.int .u32 ((Z.2.1:Nat):Int)),(6,.pointer (some ⟨a2,0,none⟩)),(17,.slice be (p1).length bg),(18,iV ((p1).length:Int)),(19,iV Z.2.2)] L s ((rA 5 rI).r a9 al (Z.1))) ⟨aw,bi,V,V,(Le.refl _),ce,a0⟩ ?_);rintro _ _ Z ⟨a9,al,rfl,rfl,am,cp,a5⟩ bw ⟨g7,a6⟩ el;have ct:=a6;unfold O3 at ct;refine C 5 V (AP ct (λem eo=>?_) (λem er=>?_));let⟨a7,et,eu⟩:=bs eo;refine C 5 V (JS.ix (c3.Ag ((U.trans ai).trans am)) et Tryz.underlying23 AX ?_);rintro g8 ha _ ⟨_,_,rfl,rfl,⟨_,_,rfl,rfl,rfl⟩⟩ ew;refine BQ ew C7 AX V V (BZ cp BC λhb ex=>?_);refine JS.sx 1 ex AX λey=>?_;refine C8 1 ey V λhc Y ap eA=>C 4 V (BQ ap C7 AX V V ?_);refine JL.fd Tryz.underlying72 BD V V V (BH 0 (ca.Ag ((ai.trans am).trans Y)) Tryz.underlying25 DD Ed ?_);refine JL.ln Tryz.underlying22 V V V ?_;let⟨bx,eC,eN⟩:=bs eu;refine B9 (W3 eC) V V (A4 Tryz.func65 V) eA λhe K cw=>C 7 V (AP eN (λe0 e1=>?_) (λe0 e3=>?_));refine C 3 V (Ao (v:=.agg #[iV bx]) V (λρ h=>Dk [(0,1)] h LX Tryz.underlying110 ⟨V,A5 Tryz.type36,trivial⟩ V V) ?_);refine Ao (v:=.iface 110 (.agg #[iV bx])) V (λρ h=>J1 Tryz.underlying110 (λ_ h=>by cases h) (h _ _ V)) (C 2 V ?_);refine JS.drop 0 cw V λe4=>?_;cases e1;obtain rfl:=bw _ a6;have e5:=elim_inl bo;cases e5;exact AK Tryz.func42 V V (aq ((((U.trans ai).trans am).trans Y).trans K) V ⟨.iface 110 (.agg #[iV bx]),V,V,V⟩ e4);refine C 5 V (BH 0 (ap.Ag K) Tryz.underlying27 Av AV ?_);refine BH 1 (ap.Ag K) Tryz.underlying27 Av AV ?_;let⟨hf,e6,e7⟩:=bs e3;refine B9 (Wr e6) V V (A4 Tryz.func66 V) cw λhg O ac=>JL.done (Cm e7 (λe8 ff=>?_) (λe8 fk=>?_));refine C 2 V (Ao (v:=.agg #[iV 4]) V (λρ h=>Dk [(0,1)] h LX Tryz.underlying110 ⟨V,A5 Tryz.type36,trivial⟩ V V) ?_);refine Ao (v:=.iface 110 (.agg #[iV 4])) V (λρ h=>J1 Tryz.underlying110 (λ_ h=>by cases h) (h _ _ V)) (C 2 V ?_);refine JS.drop 0 ac V λfl=>?_;cases ff;obtain rfl:=bw _ a6;have fm:=elim_inl bo;cases fm;exact AK Tryz.func42 V V (aq (((((U.trans ai).trans am).trans Y).trans K).trans O) V ⟨.iface 110 (.agg #[iV 4]),V,V,V⟩ fl);refine JL.skip (F7 8 [a2] ⟨⟨0,_,V⟩,trivial⟩ ac λag=>?_);refine Dt 0 ag V V (JG.fd 1 ag Tryz.underlying27 Av V V V V ?_);refine JG.lp 2 ag 0 (ap.Ag (K.trans O)) ac ⟨⟨0,_,V⟩,trivial⟩ AV ?_;refine JG.fd 3 ag Tryz.underlying27 Av V V V V (JG.lp 4 ag 1 (ap.Ag (K.trans O)) ac ⟨⟨0,_,V⟩,trivial⟩ AV ?_);refine A6 (v:=.agg al.toArray) 6 ag V V (λρ h s' b0=>HN (kk:=5) (pp:=rI) (Rp.Ag _ ((Y.trans K).trans O) a5) Ic IQ (h _ _ V) (Ut (l:=[]) 0 ac V (by simp[AH]) b0)) (A6 7 ag V V (λρ h s' b0=>F4 (vs:=[iV a7.1,iV a7.2.1,iV a7.2.2]) C7 AX (h _ _ V) (At.R3 (ap.Ag (K.trans O)) (Xl ac b0 ⟨⟨0,_,V⟩,trivial⟩))) ?_);let⟨fo,fs,fv⟩:=bs fk;refine Z5 (i:=5) ⟨⟨0,_,V⟩,trivial⟩ (vs:=[.int .u32 ((Z.2.1:Nat):Int),iV a7.1,iV a7.2.1]) (gj fs) (by decide+kernel) V V V (A4 Tryz.func67 V) V ac ?_;rintro _ hk _ bb ⟨rfl,rfl⟩ fw;refine Cn [8,9,10] ?_;let⟨fN,gc,ge⟩:=bs fv;refine BU (It (Rp.Ag _ (((Y.trans K).trans O).trans bb) a5) gc) V V Ig fw ?_;rintro _ gg _ b1 ⟨b2,rfl,rfl,a8⟩ gh;refine C 1 V (Ht (v:=.agg b2.toArray) (l:=[]) (ws:=al) (us:=b2) (o:=0) 0 V V V gh V V V (by rw[Cc (kk:=5) (pp:=rI) a8];exact A5 Tryz.type85) ((rA 5 rI).one a8) V (by rw[Cc (kk:=5) (pp:=rI) a8,Cc (kk:=5) (pp:=rI) (Rp.Ag _ ((((Y.trans K).trans O).trans bb).trans b1) a5)];omega) λcy=>?_);rw[Js (by rw[Cc (kk:=5) (pp:=rI) a8,Cc (kk:=5) (pp:=rI) (Rp.Ag _ ((((Y.trans K).trans O).trans bb).trans b1) a5)])] at cy ⊢;let⟨gt,gE,gO⟩:=bs ge;refine C 3 V (Bw gE V V V ?_);refine C 2 V ?_;cases gO;exact AD (el _ _ (fN,fo,gt) ⟨gg,b2,V,V,(((((am.trans Y).trans K).trans O).trans bb).trans b1),cy,a8⟩ a6) V;refine JL.exit V ?_;cases er;have g3:ci=(Sum.inr Z.1):=(bw _ a6).symm;exact AD (ek _ _ ⟨Z.1,a9,al,g3,V,V,am,cp,a5⟩) V
def Sy(fu_:Nat):Option (Bool):=
 some false
theorem eX{O:Value}{r:Bool}(K:Sy fu_=some r):AY J 64 [.nilIface,O] E [] (λw E' B'=>w=.bool r/\B'=[]):=by
 refine Bm Tryz.func64 λQ Z cs H U Y=>?_;unfold Sy at K;refine C 8 V ?_;refine Ao (v:=.bool true) V (λρ h=>T2 Tryz.underlying77 (show MI 0 .nilIface none from V) (h _ _ V) (h _ _ V)) (C 6 V ?_);cases K;exact AK Tryz.func64 V V (Y (Le.refl _) V ⟨V,V⟩ U)
def Su(fu_:Nat):Option (Int):=
 (Sy fu_).bind λK=>
 if K=true then(
  some 0
 ) else(
  some 0
 )
theorem eH{r:Int}(O:Su fu_=some r):AY J 41 [.nilIface] E [] (λw E' B'=>w=iV r/\B'=[]):=by
 refine Bm Tryz.func41 λQ aw cs H Z U=>?_;unfold Su at O;refine C 6 V (BZ Z LX λr1 ac=>?_);refine C 5 V (Ao (v:=(.iface 112 (.pointer (some ⟨r1,0,none⟩)))) V (λρ h=>J1 Tryz.underlying112 (λ_ h=>by cases h) (h _ _ V)) ?_);let⟨a0,ag,ai⟩:=bs O;refine B9 (eX ag) V V (A4 Tryz.func64 V) ac λa1 Y K=>JL.done (Cm ai (λaj al=>?_) (λaj am=>?_));refine C 2 V (JL.fd Tryz.underlying110 (A5 Tryz.type36) V V V ?_);refine Ao (v:=iV 0) V (λρ h=>Yl.load (Dc Tryz.underlying36) (h _ _ V) (BY (j:=1) (off:=0) K V V)) (C 2 V ?_);refine JS.drop 1 K V λap=>?_;cases al;exact AK Tryz.func41 V V (U Y V ⟨V,V⟩ ap);refine C 5 V (JS.drop 1 K V λaq=>?_);cases am;exact AK Tryz.func41 V V (U Y V ⟨V,V⟩ aq)
open Go.Extern
def RY(b:Frame)(n:Nat):Nat->Li_->Env->Li_×Env
 | 0,k,L=>(k,L)
 | m+1,k,L=>match PW b n L k with
  | some (k',L')=>RY b n m k' L'
  | none=>(k,L)
theorem zm{P:Program}{J:Judge P}{Q:Gs_}{b:Frame}{n:Nat}{ds:Ld_}{cs:Lf_}{s:St}:∀(m:Nat) {L L':Env}{k k':Li_},RY b n m k L=(k',L')->JL J Q b n L' ds k' cs s->JL J Q b n L ds k cs s
 | 0,L,L',k,k',h,K=>by cases h;exact K
 | m+1,L,L',k,k',h,K=>by
  unfold RY at h
  split at h;rename_i e;exact Wi e (zm m h K);cases h;exact K
variable{H:LH}{S:List Seg}
theorem T6{E:LH}{o:Obj}(K:Au E H S)(O:(Ak E H S).E r=none)(U:(Ak E H S).H r=none):Au E H (S++ [[(r,o)]])/\(Ak E H S).upd r o=Ak E H (S++ [[(r,o)]]):=by
 let⟨a,b⟩:=KD O U o K;let⟨c,d⟩:=FL a;exact⟨d,b.trans c⟩
variable{s:St}{Q:Value->St->Prop}
theorem gJ{X:Halt->St->Prop}{o:Operand}(p:Addr):lp Tryz.prog (do eqGuard .eql 20 o (.const .nilIface) (.iface 112 (.pointer (some p))) .nilIface;binOp .eql 20 (.iface 112 (.pointer (some p))) .nilIface) s Q X=Q (.bool false) s:=by kernel_rfl
theorem bm{ρ:Operand->Value}{d:Option Tmp}{x:Operand}{u ty:TypeId}{p:String}{af:Ae_}{g:On_}{a:Addr}(K:ρ x=.iface 112 (.pointer (some a)))(O:ρ (.const .nilIface)=.nilIface):Yl Tryz.prog ⟨d,.binOp .eql 20 x (.const .nilIface) u,ty,p,af,g⟩ ρ s (.bool false):=by
 refine Gi (sm:=do eqGuard .eql 20 x (.const .nilIface) (ρ x) (ρ (.const .nilIface));binOp .eql 20 (ρ x) (ρ (.const .nilIface))) V ?_
 rw[K,O];exact(gJ a).mpr ⟨V,V⟩
theorem Xu(z:Sem Value)(f:TypeId->Addr->Nat->Nat->Sem Value)(v:Value):ReflectliteValue.method z f #[v]=Sem.bind (ReflectliteValue.parts v) (λx=>match x with | none=>z | some (t,a,K)=>f t a K (K%32)):=rfl
theorem Zg{X:Halt->St->Prop}(a p:Addr)(K:s.cell? a=some (.pointer (some p)))(h:Q (.bool false) s):lp Tryz.prog (ReflectliteValue.method (ReflectliteValue.valueError "reflectlite.Value.IsNil" 0) ReflectliteValue.isNil #[.agg #[FX 112,.pointer (some a),.int .u64 150]]) s Q X:=by
 rw[Xu];refine AA (x:=ReflectliteValue.parts _) _ ((TH a).mpr ?_);show lp Tryz.prog (Sem.bind (loadVar 112 a) _) s Q X;exact AA (x:=loadVar 112 a) _ ((Uz a).mpr ⟨V,_,K,h⟩)
theorem YY{X:Halt->St->Prop}(a p:Addr)(K:s.cell? a=some (.pointer (some p)))(h:Q (.agg #[FX 110,.pointer (some p),.int .u64 409]) s):lp Tryz.prog (ReflectliteValue.method (ReflectliteValue.valueError "reflectlite.Value.Elem" 0) ReflectliteValue.elem #[.agg #[FX 112,.pointer (some a),.int .u64 150]]) s Q X:=by
 rw[Xu];refine AA (x:=ReflectliteValue.parts _) _ ((TH a).mpr ?_);show lp Tryz.prog (Sem.bind (loadVar 112 a) _) s Q X;refine AA (x:=loadVar 112 a) _ ((Uz a).mpr ⟨V,_,K,?_⟩);refine AA (x:=Rtype.elem? 112) _ (di.mpr ?_);exact(fC p).mpr h
theorem jH(v x:Value):ReflectliteValue.set #[v,x]=(do
  let (some (dst,a,K),some (src,b,_)):=(← ReflectliteValue.parts v,← ReflectliteValue.parts x)
   | unsupported (.noEntry "extern/(internal/reflectlite.Value).Set.zeroValue")
  if K/ReflectliteValue.flagAddr%2==0 then unsupported (.noEntry "extern/(internal/reflectlite.Value).Set.unaddressable")
  let val ← loadVar src b
  if ← Rtype.directlyAssignable dst src then storeVar dst a val
  else if ← Rtype.implements dst src then
   if(← Rtype.kind src)==20 then
    match val with
    | .nilIface=>unsupported (.noEntry "extern/reflectlite: a nil value of one interface type handed on as a value of another")
    | _=>storeVar dst a val
   else storeVar dst a (.iface src val)
  else panicString ("reflectlite.Set: value of type " ++(← Rtype.spelt src)++ " is not assignable to type " ++(← Rtype.spelt dst))
  pure (.tuple #[])):=rfl
variable{bk:Nat}{u:Value}{c:Int}
theorem cR{E:LH}{X:Halt->St->Prop}(j:Nat)(U:Au E H S)(K:S[j]?=some [(bk,.cells #[u] 110 (0,0))])(Y:At E r 0 [iV c])(h:Au E H (S.set j [(bk,.cells #[iV c] 110 (0,0))])->Q (.tuple #[]) (Ak E H (S.set j [(bk,.cells #[iV c] 110 (0,0))]))):
  lp Tryz.prog (ReflectliteValue.set #[.agg #[FX 110,.pointer (some ⟨bk,0,none⟩),.int .u64 409],.agg #[FX 110,.pointer (some ⟨r,0,none⟩),.int .u64 153]]) (Ak E H S) Q X:=by
 rw[jH];refine AA (x:=ReflectliteValue.parts _) _ ((Yq _).mpr ?_);refine AA (x:=ReflectliteValue.parts _) _ ((Zq _).mpr ?_);refine AA (x:=loadVar 110 _) _ ((Z9 _).mpr ⟨V,_,At.Iy (j:=0) Y V,?_⟩);refine AA (x:=Rtype.directlyAssignable 110 110) _ (dI.mpr ?_);refine AA (x:=storeVar 110 _ _) _ ?_;let⟨Z,ac⟩:=Hu U K;rw[Z];refine QK (pl:=(S.set j []).flatten.length) (A5 Tryz.type110) (by simp[Value.cells,CL]) ac (c:=#[u]) (e:=110) (by simp) (by simp[Value.cells]) λO=>?_;have ag:((S.set j []).flatten++ [(bk,Obj.cells #[u] 110 (0,0))]).set (S.set j []).flatten.length (bk,.cells (Bf #[u] 0 (Value.agg #[iV c]).cells.toList) 110 (0,0))=(S.set j []).flatten++ [(bk,.cells #[iV c] 110 (0,0))]:=HT _ _ _ _;rw[ag] at O ⊢;let⟨ai,aj⟩:=Jw (seg':=[(bk,.cells #[iV c] 110 (0,0))]) K O;rw[ai];exact h aj
variable {J:Judge Tryz.prog}{E:LH}
theorem iR(O:At E r 0 [.pointer (some ⟨bk,0,none⟩)]):AY J 90 [.iface 110 (.agg #[iV c]),.iface 112 (.pointer (some ⟨bk,0,none⟩)),.agg #[FX 112,.pointer (some ⟨r,0,none⟩),.int .u64 150],Km 110] E [(bk,.cells #[u] 110 (0,0))] (λv E' B'=>v=.bool true/\B'=[(bk,.cells #[iV c] 110 (0,0))]):=by
 refine Mo Tryz.func90 V V λQ a1 cs H U Y=>zm 60 V (JS.box (v:=.agg #[FX 112,.pointer (some ⟨r,0,none⟩),.int .u64 150]) V V V U V λr2 Z=>?_);refine C8 1 Z V λa2 K ac ag=>zm 60 V (IV ?_);refine zm 60 V (Lr fS V V V V ?_);refine(Yg _).mpr ?_;refine zm 60 V (Nz eT (jh _) V V V V V ?_);refine dc.mpr (zm 60 V ?_);refine BQ ac NX MQ V V (Lr fz V V V V ?_);refine YY ⟨r,0,none⟩ ⟨bk,0,none⟩ (At.Iy (j:=0) (O.Ag K) V) (zm 60 V ?_);refine Lr Wm V V V V ?_;refine(X2 c).mpr ⟨V,λr3 ai aj=>?_⟩;let⟨al,am⟩:=T6 (o:=.cells #[iV c] 110 (0,0)) ag ai aj;rw[am];refine C8 2 al V λa3 ap aq aw=>Lr gy V V V V (cR 0 aw V aq λa0=>?_);refine zm 60 V (AK Tryz.func90 V V ?_);exact Y _ _ _ _ (K.trans ap) V ⟨V,V⟩ a0
theorem dS(Z:At E 0 0 [Km 77]):AY J 64 [.iface 110 (.agg #[iV c]),.iface 112 (.pointer (some ⟨bk,0,none⟩))] E [(bk,.cells #[u] 110 (0,0))] (λv E' B'=>v=.bool true/\B'=[(bk,.cells #[iV c] 110 (0,0))]):=by
 refine Mo Tryz.func64 V V λQ a3 cs H ac ag=>zm 60 V ?_;refine Ao (v:=.bool false) V (λρ h=>T2 Tryz.underlying77 (show MI 110 (.iface 110 (.agg #[iV c])) (some c) from V) (h _ _ V) (h _ _ V)) (zm 60 V ?_);refine Ao V (λρ h=>bm (h _ _ V) (h _ _ V)) (zm 60 V ?_);refine Lr Wm V V V V ?_;refine(X4 _).mpr ⟨V,λr ai aj=>?_⟩;let⟨al,am⟩:=T6 (o:=.cells #[.pointer (some ⟨bk,0,none⟩)] 112 (0,0)) ac ai aj;rw[am];refine JS.alloc V V V al (Eg Tryz.type153) λr2 ap=>Sf (v:=.agg #[FX 112,.pointer (some ⟨r,0,none⟩),.int .u64 150]) (off:=0) 2 ap MQ V V V V λaq=>zm 60 V (C8 1 aq V λa4 U Y aw=>?_);refine C8 2 aw V λa5 K O a0=>BQ O NX MQ V V (Lr gV V V V V ?_);refine(aS _).mpr ?_;refine zm 60 V (Nz VM (VP _) V V V V V ?_);refine bH.mpr (zm 60 V ?_);refine BQ (O) NX MQ V V (Lr fh V V V V ?_);refine Zg ⟨r,0,none⟩ ⟨bk,0,none⟩ (At.Iy (j:=0) (Y.Ag K) V) (zm 60 V ?_);refine Nz eY (gC _) V V V V V (ZQ.mpr ?_);refine zm 60 V (Nz VM (VP _) V V V V V ?_);refine ZU.mpr (zm 60 V ?_);refine CJ 0 (Z.Ag (U.trans K)) (Dc Tryz.underlying156) V V V (Nz eU (eS _) V V V V V ?_);refine bG.mpr (zm 60 V ?_);refine Ao (v:=.bool (!true)) V (λρ h=>Yl.not (h _ _ V)) (zm 60 V ?_);refine BQ (O) NX MQ V V (zm 60 V ?_);refine Cw 0 (iR (Y.Ag K)) V V (A4 Tryz.func90 V) a0 V ?_;rintro _ a6 _ a1 ⟨rfl,rfl⟩ a2;refine zm 60 V (AK Tryz.func64 V V ?_);exact ag _ _ _ _ ((U.trans K).trans a1) V ⟨V,V⟩ a2
theorem aa(K:At E 0 0 [Km 77]):AY J 41 [.iface 110 (.agg #[iV c])] E [] (λv E' B'=>v=iV c/\B'=[]):=by
 refine Mo Tryz.func41 V V λQ al cs H O U=>zm 60 V (JS.alloc V V V O LX λr1 Y=>?_);refine zm 60 V (Ao V (λρ h=>J1 Tryz.underlying112 (λms e=>by cases e) (h _ _ V)) ?_);refine Cw 1 (dS (u:=iV 0) K) V V (A4 Tryz.func64 V) Y V ?_;rintro _ am _ Z ⟨rfl,rfl⟩ ac;refine C8 1 ac V λap ag ai aj=>zm 60 V (JL.fd Tryz.underlying110 (A5 Tryz.type36) V V V ?_);refine CJ 0 ai (Dc Tryz.underlying36) V V V (zm 60 V ?_);exact AK Tryz.func41 V V (U _ _ _ _ (Z.trans ag) V ⟨V,V⟩ aj)
abbrev GE(E:LH):Prop:=At E 0 0 [Km 77]
def P7(fuel:Nat)(p0:Option Int):Option Int:=match p0 with
 | none=>Su fuel
 | some q=>some q
theorem U0{v:Value}{p0:Option Int}(O:GE E)(h:MI 110 v p0){r:Int}(K:P7 c2 p0=some r):AY J 41 [v] E [] (λw E' B'=>w=iV r/\B'=[]):=by
 match p0,h with
 | none,h=>obtain rfl:v=.nilIface:=h;exact eH K
 | some c,h=>
  obtain rfl:v=.iface 110 (.agg #[iV c]):=h;cases K;exact aa O
end Pal
namespace Pal
open Go Go.Conc Go.Proofs Go.ChangeShapes Go.WideShapes Go.ChangeAt Go.RowKit
open Go.Proofs.YticmfbehkooleaaGreatDoor
theorem Tryz.own:ownKnob Tryz.prog.godebug=none:=by kernel_rfl
theorem Tryz.laidOut:laidOutB Tryz.prog=true:=by kernel_rfl
theorem Tryz.V1:Tryz.prog.cellsOf 3=1:=by kernel_rfl
theorem Tryz.bV:Tryz.prog.cellsOf 28=1:=by kernel_rfl
theorem Tryz.cA:Tryz.prog.cellsOf 22=1:=by kernel_rfl
theorem Tryz.cQ:Tryz.prog.cellsOf 23=1:=by kernel_rfl
theorem Tryz.cf:Tryz.prog.cellsOf 25=2:=by kernel_rfl
theorem Tryz.Vm:Tryz.prog.cellsOf 27=3:=by kernel_rfl
variable{v:Value}
theorem Yb{R:Value->St->Prop}{W w':World}(h:After Tryz.prog R W (FV W) v w'):(∃s,R v s)/\Below W.heap.size W {w' with os:=W.os}/\Go.ConcM.OsLater W.os w'.os:=by
 obtain⟨s,Y,Z,ac,ag,ai,aj⟩:=h;have hb:∀k,k<W.heap.size->w'.heap[k]?=W.heap[k]? :=λk O=>by
  have K:(FV W).E k=some W.heap[k]:=q5 O;have U:=Z.e k _ (ac k _ K);rw[U,q5 O]
 refine⟨⟨s,Y⟩,⟨V,ag,aj,?_,hb⟩,ai⟩;show W.heap.size<=w'.heap.size;rcases rD W.heap.size with al | al;omega;have K:=hb (W.heap.size - 1) (by omega);have am:W.heap[W.heap.size - 1]?=some W.heap[W.heap.size - 1]:=q5 (by omega);rw[am] at K;have U:=(eF.1 K).1;omega
theorem TZ(a:Addr):a.add 0=a:=by unfold Addr.add;rw[d0 rfl]
variable {H:Type}{enc:TypeId×Value->H}{W:World}{fuel:Nat}{cs:Lv_}
variable{b c2 off:Nat}{p:List MemPlace}
section
variable {x:DataW H×List MemPlace}
theorem ZK(h:W.cell? ⟨b,off,none⟩=some v):At (FV W).E b off [v]:=by
 unfold World.cell? at h;split at h
 .rename_i c e f hW;simp only[tb,qP,rr] at h;refine⟨c,e,f,hW,λj w hj=>?_⟩
  match j,hj with
  | 0,hj=>simp at hj;subst hj;simpa using h
  | j+1,hj=>simp at hj
 .cases h
theorem Y5(O:0<cs.length)(h:∀j,j<cs.length->W.cell? ⟨b,off+j,none⟩=cs[j]?):At (FV W).E b off cs:=by
 have U:=h 0 O;rw[bI O] at U;let⟨f,e,fr,Y,_⟩:=ZK U;have hW:W.heap[b]?=some (.cells f e fr):=Y;refine⟨f,e,fr,Y,λj w hj=>?_⟩;have Z:=(dY.1 hj).1;have K:=h j Z;rw[hj] at K;unfold World.cell? at K;simp only[hW] at K;simpa using K
theorem RP{α:Type}{p:Rp α}{t e:TypeId}(a2:Tryz.prog.underlying t=some (.slice e))(a3:Tryz.prog.cellsOf e=p.n)(a4:0<p.n)
  (a5:∀n cs x,DataW.trod enc Tryz.prog W 0 (λ_=>true) true n e cs=some x->∃v,p.r (FV W).E cs v)
  (a6:DataW.trod enc Tryz.prog W 0 (λ_=>true) true fuel t cs=some x):∃(a:Option Addr) (c:Nat) (am:List α),cs=[.slice a am.length c]/\Am p (FV W).E a c am:=by
 rcases DataW.trod_slice a2 a6 with⟨ac,a7⟩ | ⟨a,len,cap,elems,rest,n,_,ac,a7,_,a8,_,hlen,ap,aq,_⟩;exact⟨none,0,[],ac,Am.nil⟩
 .rw [a3] at ap aq;rcases rD cap with aw | aw
  .have:len=0:=by omega
   subst this;subst aw;exact⟨some a,0,[],ac,qH _,.inl ⟨V,λ_ _=>.inr V⟩⟩
  .have a0:∀i,i<len->∃vs y,vs.length=p.n/\(∀j,j<p.n->W.cell? ((a.add (i*p.n)).add j)=vs[j]?)/\DataW.trod enc Tryz.prog W 0 (λ_=>true) true n e vs=some y:=λi hi=>by
    have K:=ap i hi;rw[bI (by omega)] at K;let⟨vs,ai,Y⟩:=sG.1 K;let⟨_,O,aj⟩:=World.cells?_some ai;exact⟨vs,_,O,aj,Y⟩
   have al:a.spot=none:=by
    have key:∀vs:Lv_,vs.length=p.n->(∀j,j<p.n->W.cell? ((a.add (0*p.n)).add j)=vs[j]?)->a.spot=none:=λvs ag U=>by
     have:=U 0 a4;rw[bI (by omega),TZ,sP,TZ] at this;exact World.cell?_spot this
    rcases rD len with K | K;let⟨ai,Y⟩:=aq V;have O:=Y 0 (by omega);rw[bI (by omega)] at O;let⟨vs,aj,_⟩:=sG.1 O;let⟨_,ag,U⟩:=World.cells?_some aj;rw[K] at U;exact key vs ag U;let⟨vs,y,ag,U,_⟩:=a0 0 K;exact key vs ag U
   have a1:∀i:Fin len,∃z:α,∃vs,p.r (FV W).E vs z/\At (FV W).E a.block (a.off+i*p.n) vs:=λi=>by
    let⟨vs,y,ai,Y,O⟩:=a0 i i.2;let⟨z,Z⟩:=a5 _ _ _ O;refine⟨z,vs,Z,Y5 (by omega) λj hj=>?_⟩;have:=Y j (by omega);rw[EG al,EG rfl] at this;exact this
   refine⟨some a,cap,List.ofFn λi=>Classical.choose (a1 i),by simpa using ac,by simpa using a8,.inr ⟨a.block,a.off,?_,λi z Z=>?_⟩⟩;obtain⟨b,o,s⟩:=a;simp only at al;subst al;rfl
   .have hi:i<len:=by have:=(dY.1 Z).1;simpa using this
    simp[hi] at Z;have:=rY (a1 ⟨i,hi⟩);rw[Z] at this;exact this
theorem OF(h:DataW.trod enc Tryz.prog W 0 (λ_=>true) true fuel 3 cs=some x):∃z:Int,cs=[iV z]:=by
 let⟨n1,K,_⟩:=DataW.trod_int Tryz.underlying3 h;exact⟨n1,K⟩
theorem Uo(O:DataW.trod enc Tryz.prog W 0 (λ_=>true) true fuel 28 cs=some x):∃(a:Option Addr) (c:Nat) (K:List Int),cs=[.slice a K.length c]/\Am rI (FV W).E a c K:=
 RP (p:=rI) Tryz.underlying28 Tryz.V1 Nat.one_pos (λn cs x h=>by
  obtain⟨z,rfl⟩:=OF h
  exact⟨z,rfl⟩) O
theorem aV(O:DataW.trod enc Tryz.prog W 0 (λ_=>true) true fuel 22 cs=some x):∃(a:Option Addr) (c:Nat) (K:List (List Int)),cs=[.slice a K.length c]/\Am (rL rI) (FV W).E a c K:=
 RP (p:=rL rI) Tryz.underlying22 Tryz.bV Nat.one_pos (λn cs x h=>by
  let⟨a,c,K,e,g⟩:=Uo h
  exact⟨K,a,c,e,g⟩) O
theorem TP(h:DataW.trod enc Tryz.prog W 0 (λ_=>true) true fuel 27 cs=some x):∃v:Int×Int×Int,cs=[iV v.1,iV v.2.1,iV v.2.2]:=by
 let⟨y0,y1,ai,n,_,U,Y,Z,ac⟩:=Go.Deep.trod_struct3 Tryz.underlying27 h;let⟨n1,K⟩:=OF Y;let⟨n2,e2⟩:=OF Z;let⟨ag,O⟩:=OF ac;rw[Tryz.Vm] at U;rw[Pal.Tryz.V1] at K e2 O;refine⟨(n1,n2,ag),?_⟩
 match cs,U with
 | [u,w,z],_=>simp at K e2 O;rw[K,e2,O]
theorem TQ(O:DataW.trod enc Tryz.prog W 0 (λ_=>true) true fuel 23 cs=some x):∃(a:Option Addr) (c:Nat) (K:List (Int×Int×Int)),cs=[.slice a K.length c]/\Am (rP rI (rP rI rI)) (FV W).E a c K:=
 RP (p:=rP rI (rP rI rI)) Tryz.underlying23 Tryz.Vm (by decide) (λn cs x h=>by
  obtain⟨v,rfl⟩:=TP h
  exact⟨v,[iV v.1],[iV v.2.1,iV v.2.2],rfl,rfl,[iV v.2.1],[iV v.2.2],rfl,rfl,rfl⟩) O
theorem Zo{Y:Nat}{d:DataW H}(Z:Value.okWide Tryz.prog W .any Y 25 v)(hd:DataW.Trod enc Tryz.prog W 0 (λ_=>true) true 25 v d p):
  ∃(a1:Option Addr) (c1:Nat) (K:Option Addr) (c2:Nat) (o:List (List Int)×List (Int×Int×Int)),v=.agg #[.slice a1 o.1.length c1,.slice K o.2.length c2]/\Am (rL rI) (FV W).E a1 c1 o.1/\Am (rP rI (rP rI rI)) (FV W).E K c2 o.2:=by
 obtain⟨cs,rfl,U⟩:=okWide_struct Tryz.underlying25 Z;obtain⟨fuel,ac⟩:=hd;let⟨y0,y1,n,_,al,ag,ai⟩:=trod_struct2 Tryz.underlying25 ac;let⟨a1,c1,z1,O,g1⟩:=aV ag;let⟨K,c2,aj,e2,g2⟩:=TQ ai;refine⟨a1,c1,K,c2,(z1,aj),?_,g1,g2⟩;rw[Tryz.cA] at O;rw[Tryz.cf] at U;rw[Tryz.cQ] at e2;simp only[Value.cells,t7] at O e2;obtain⟨l⟩:=cs
 match l,U with
 | [u,w],_=>
  simp at O e2;rw[O,e2]
theorem aI{d:DataW H}(U:Value.okWide Tryz.prog W .any c2 28 v)(hd:DataW.Trod enc Tryz.prog W 0 (λ_=>true) true 28 v d p):
  ∃(a:Option Addr) (c:Nat) (K:List Int),v=.slice a K.length c/\Am rI (FV W).E a c K:=by
 obtain⟨Z,len,cap,rfl⟩:=okWide_slice Tryz.underlying28 U;obtain⟨fuel,Y⟩:=hd;let⟨a,c,K,e,g⟩:=Uo Y;simp[Value.cells] at e;obtain⟨rfl,rfl,rfl⟩:=e;exact⟨_,_,_,V,g⟩
theorem ZH{d:DataW H}(O:Value.okWide Tryz.prog W .any c2 27 v)(hd:DataW.Trod enc Tryz.prog W 0 (λ_=>true) true 27 v d p):∃l:Int×Int×Int,v=.agg #[iV l.1,iV l.2.1,iV l.2.2]:=by
 obtain⟨cs,rfl,Y⟩:=okWide_struct Tryz.underlying27 O;obtain⟨fuel,U⟩:=hd;let⟨l,e⟩:=TP U;simp only[Value.cells] at e;refine⟨l,?_⟩;obtain⟨k⟩:=cs;simp only at e;rw[e]
end
noncomputable def TT(os:Os):World:=
 let w0:=World.holding Tryz.prog os ⟨#[],#[],[]⟩
 {w0 with heap:=w0.heap.modify 0 fun
   | .cells _ t frozen=>.cells #[.iface 197 (.agg #[.pointer (some ⟨1,77,none⟩)])] t frozen
   | o=>o}
theorem XO(os:Os)(args:Av_):laidMetH Tryz.prog [("errors.errorType",Rows.laid_errors_errorType)] ((TT os).forCall (λ_ _=>0) ⟨#[],args,[]⟩).memory:=
 laidMetH_of_parts (laidMet_nil _ _) (by kernel_rfl)
theorem Tryz.dq:Tryz.prog.globalNamed "errors.errorType" =some 0:=by kernel_rfl
theorem Tryz.gf:(Tryz.prog.cutTypes.find? (·.1== "internal/reflectlite.rtype")).map (·.2)=some 197:=by kernel_rfl
theorem Tryz.dg:Tryz.prog.globals.size=1:=by kernel_rfl
theorem Tryz.eG:(List.range Tryz.prog.types.size).all (λt=> !Tryz.prog.rowNamed t [101,114,114,111,114] || t==77)=true:=by kernel_rfl
theorem du{W:World}(h:laidMetH Tryz.prog [("errors.errorType",Rows.laid_errors_errorType)] W.memory):GE (FV W).E:=by
 have O:=h.2 _ (rT ..);obtain⟨name,u,ty,U,Y,Z,ac,K⟩:=O;have ag:name=[101,114,114,111,114]:=(ep U).symm;have e2:u=197:=ep (Y.symm.trans Tryz.gf);subst ag;subst e2;have ai:ty=77:=by
  have:=q3.1 Tryz.eG ty (q7.2 Z);rw[ac] at this;simpa using this
 subst ai;unfold World.var? at K;rw[Tryz.dq] at K;simp only[Option.bind_some] at K;split at K
 .rename_i c e f hW;simp only[ry] at K;subst K;refine⟨_,e,f,hW,λj w hj=>?_⟩;have aj:typeHandle Tryz.prog 77=.pointer (some ⟨1,77,none⟩):=by unfold typeHandle;rw[Tryz.dg]
  rw[aj]
  match j,hj with
  | 0,hj=>simp at hj;subst hj;rfl
  | j+1,hj=>simp at hj
 .cases K
theorem XV{H:Type}{enc:TypeId×Value->H}{C:Checked}{os:Os}{f:FuncId}{fn:Func}{s:ChangeSpec}{conds:List PathCond}{apart:Bool}{X:World->Av_->Prop}(w0:World)(args:Av_)(fuel:Nat)(O:w0.os=os)
  (U:(w0.forCall (λ_ _=>0) ⟨#[],args,[]⟩).variablesB C.prog=true)
  (Y:((w0.forCall (λ_ _=>0) ⟨#[],args,[]⟩).heap.toList.drop C.prog.globals.size).take ((begin C.prog (λ_ _=>0) default).world.heap.size - C.prog.globals.size)=
   (begin C.prog (λ_ _=>0) default).world.heap.toList.drop C.prog.globals.size)
  (K:Input.okWideB C.prog (w0.forCall (λ_ _=>0) ⟨#[],args,[]⟩) f ⟨#[],args,[]⟩=true)
  (Z:s.preB enc C.prog fn conds apart (w0.forCall (λ_ _=>0) ⟨#[],args,[]⟩).memory args fuel=true)
  (ac:s.sizedB enc C.prog fn apart (w0.forCall (λ_ _=>0) ⟨#[],args,[]⟩).memory args fuel=true)
  (ag:X (w0.forCall (λ_ _=>0) ⟨#[],args,[]⟩).memory args):
  ∃(w:World) (tape:Tape) (i:Input),w.os=os/\(w.forCall tape i).Shaped C.prog/\i.vars=[]/\Input.okWide C.prog (w.forCall tape i) .any w.heap.size f i/\
   ((s.pre enc C.prog fn conds apart (w.forCall tape i).memory i.args/\X (w.forCall tape i).memory i.args)/\sizedMet enc C.prog fn (OpenSpec.ofChange s) apart (w.forCall tape i).memory i.args)/\({calm:=true}:Assume).holds C.prog (Go.lone (Frame.enter C.prog f i.args .normal) [] (w.forCall tape i)):=
 ⟨w0,λ_ _=>0,⟨#[],args,[]⟩,O,World.shaped_of_B U Y,(Input.okWide_of_okWideB (base:=0) K).1,(Input.okWide_of_okWideB K).2,⟨⟨ChangeSpec.pre_of_preB Z,ag⟩,sizedMet_of_sizedB ac⟩,by
  simp only[Assume.holds]
  exact⟨by simp,λ_ _ _ _=>rfl,by simp,by simp,by simp⟩⟩
end Pal
namespace Pal
def AI{α:Type}(o:Option α)(Q:α->Prop):Prop:=∃a,o=some a/\Q a
variable {α β:Type}{Q R:α->Prop}
theorem Aw{a:α}(h:Q a):AI (some a) Q:=⟨a,V,h⟩
theorem AI.Ag{o:Option α}(h:AI o R)(k:∀a,R a->Q a):AI o Q:=let ⟨a,K,O⟩:=h;⟨a,K,k a O⟩
theorem Bv{o:Option β}{f:β->Option α}{S:β->Prop}(h:AI o S)(k:∀b,S b->AI (f b) Q):AI (o.bind f) Q:=by
 obtain⟨b,rfl,hb⟩:=h;let⟨a,K,O⟩:=k b hb;exact⟨a,K,O⟩
theorem AW{o:Option β}{f:β->Option α}{b:β}(h:o=some b)(k:AI (f b) Q):AI (o.bind f) Q:=by subst h;exact k
theorem AI.jP{f:Int->Option α}{x:Int}(K: -9223372036854775808<=x)(O:x<=9223372036854775807)(k:AI (f x) Q):AI ((Az x).bind f) Q:=AW (d0 ⟨K,O⟩) k
theorem F8{xs:List β}{i:Int}{m:Nat}{b:β}(h:i=(m:Int))(hb:xs[m]?=some b):ix xs i=some b:=by subst h;simpa [ix] using hb
theorem Cf{f:β->Option α}{xs:List β}{i:Int}{m:Nat}(h:i=(m:Int))(hm:m<xs.length)(k:AI (f xs[m]) Q):AI ((ix xs i).bind f) Q:=AW (F8 h (bI hm)) k
theorem IW{f:List β->Option α}{xs:List β}{x:β}(h:xs.length+1<=2^40)(k:AI (f (xs++ [x])) Q):AI ((room xs x).bind f) Q:=AW (d0 h) k
variable{c:Prop}
theorem CG [Decidable c] {x y:Option α}(K:c->AI x Q)(O:¬c->AI y Q):AI (if c then x else y) Q:=by
 by_cases h:c;rw[d0 h];exact K h;rw[d7 h];exact O h
theorem BW [Decidable c] {x y:Option α}(h:c)(k:AI x Q):AI (if c then x else y) Q:=by rw[d0 h];exact k
theorem BT [Decidable c] {x y:Option α}(h:¬c)(k:AI y Q):AI (if c then x else y) Q:=by rw[d7 h];exact k
def Bq.sat{S A:Type}(I:S->Prop)(Q:A->Prop):Bq S A->Prop
 | .more s=>I s
 | .done a=>Q a
theorem bF{S:Type}{body:S->Option (Bq S α)}(I:Nat->S->Prop)(round:∀m s,I m s->AI (body s) (Bq.sat (λs'=>∃m',m'<m/\I m' s') Q)):
  ∀{m fuel:Nat}{s:S},I m s->m<fuel->AI (iter body fuel s) Q:=by
 intro m
 induction m using Nat.strongRecOn with
 | _ m O=>
  intro fuel s U ag;obtain⟨fuel,rfl⟩:∃k,fuel=k+1:=⟨fuel - 1,by omega⟩;let⟨st,Y,K⟩:=round m s U;unfold Pal.iter;rw[Y];cases st with
  | more s'=>
   obtain⟨m',Z,ac⟩:=K;exact O m' Z ac (by omega)
  | done a=>exact⟨a,rfl,K⟩
variable{F:Nat}
theorem CQ{S A:Type}{body:S->Option (Bq S A)}{Q:A->Prop}{K:S}(n:Nat)(I:Nat->S->Prop)(Y:I 0 K)(ac:n<F)
  (round:∀i s,i<n->I i s->AI (body s) (Bq.sat (I (i+1)) Q)) (last:∀s,I n s->AI (body s) (λst=>∃a,st=.done a/\Q a)):AI (Pal.iter body F K) Q:=by
 refine bF (λm s=>∃i,i<=n/\m=n - i/\I i s) ?_ (m:=n - 0) ⟨0,rl _,V,Y⟩ (by omega);rintro m s ⟨i,hi,rfl,O⟩;rcases f7 i n with Z | ag
 .refine(round i s Z O).Ag ?_;intro st U;cases st with
  | more s'=>exact⟨n - (i+1),by omega,i+1,by omega,rfl,U⟩
  | done a=>exact U
 .obtain rfl:i=n:=by omega
  refine(last s O).Ag ?_;rintro st ⟨a,rfl,h⟩;exact h
theorem Ef{α:Type}{o:Option α}{a:α}(h:AI o (λx=>x=a)):o=some a:=by obtain⟨x,K,rfl⟩:=h;exact K
theorem OY{α:Type}{Q:α->Prop}{f:Int->Option α}{x:Int}(y:Int)(h:x=y)(K: -9223372036854775808<=y)(O:y<=9223372036854775807)(k:AI (f y) Q):AI ((Az x).bind f) Q:=by subst h;exact AI.jP K O k
theorem AI.E{α:Type}{Q:α->Prop}{f:Int->Option α}{x:Int}(y:Int)(h:x=y)(k:AI (f y) Q)(K: -9223372036854775808<=y:=by omega)(O:y<=9223372036854775807:=by omega):AI ((Az x).bind f) Q:=OY y h K O k
theorem AI.X{α β:Type}{Q:α->Prop}{f:β->Option α}{xs:List β}(m:Nat)(hm:m<xs.length:=by omega)(k:AI (f xs[m]) Q):AI ((ix xs (m:Int)).bind f) Q:=Cf V hm k
theorem AI.LM{α β:Type}{Q:α->Prop}{f:List β->Option α}{xs ys:List β}(h:xs.length+ys.length<1000)(k:AI (f (xs++ys)) Q):AI ((CZ xs ys).bind f) Q:=AW (by unfold CZ;rw[d0 (by omega)]) k
abbrev Hq:=List Int×Int×Nat
def BG(k:Nat)(b:Hq):Prop:=0<=b.2.1/\b.2.1<=(k:Int)
theorem BG.Ag{k k':Nat}{b:Hq}(h:BG k b)(K:k<=k'):BG k' b:=⟨h.1,by have:=h.2;omega⟩
theorem fY{k:Nat}{b:Hq}(hb:BG k b)(K:k<1000000):AI (f83 F b) (λr=>r.1<2^64/\BG (k+1) r.2):=by
 obtain⟨O,U⟩:=hb;unfold f83;refine AI.E (b.2.1+1) V ?_;have key:∀x:Nat,(x%2^64)>>>11<2^64:=λx=>sS (Nat.shiftRight_le _ _) (tJ _ (ux 64));refine Bv (S:=λ_=>True) ?_ ?_;refine CG (λh=>?_) (λh=>?_);refine AI.E b.2.1 (by omega) (Cf (m:=b.2.1.toNat) (by omega) (by omega) ?_);exact Aw trivial;exact Aw trivial;intro x _;exact Aw ⟨key _,by simp only;omega,by simp only;omega⟩
theorem ZC{a:Nat}(h:a<2^62):NK a=(a:Int):=by
 unfold NK;exact Kz (by omega)
theorem Kb{k:Nat}{b:Hq}{m:Int}(hb:BG k b)(O:k<1000000)(hm:m<1000000):AI (f36 F b m) (λr=>0<=r.1/\(r.1<=m∨r.1=0)/\BG (k+1) r.2):=by
 unfold f36;refine Bv (fY hb O) ?_;rintro⟨x,b'⟩ ⟨Z,K⟩;refine CG (λh=>?_) (λh=>?_);exact Aw ⟨by simp,.inr V,K⟩
 .have U:DO m=m.toNat:=by unfold DO;omega
  have e2:(DO m+1)%2^64=m.toNat+1:=by rw[U];omega
  have Y:x%(m.toNat+1)<m.toNat+1:=tJ _ (by omega);refine AW (b:=x%(m.toNat+1)) (by rw[e2];unfold Qb;rw[d7 (by omega)]) ?_;refine Aw ?_;simp only;generalize x%(m.toNat+1)=z at Y ⊢;rw[ZC (by omega)];exact⟨by omega,.inl (by omega),K⟩
theorem RS{k:Nat}{b:Hq}{lo hi:Int}(hb:BG k b)(O:k<1000000)(U:0<=lo)(Y:lo<=hi)(Z:hi<1000):AI (f37 F b lo hi) (λr=>lo<=r.1/\r.1<=hi/\BG (k+1) r.2):=by
 unfold f37;refine AI.E (hi - lo) V (Bv (Kb hb O (by omega)) ?_);rintro⟨x,b'⟩ ⟨g1,g2,K⟩;simp only at g1 g2 K ⊢;exact AI.E (lo+x) V (Aw ⟨by simp only;omega,by simp only;omega,K⟩)
theorem WJ{k:Nat}{b:Hq}{m:Int}(hb:BG k b)(K:k<1000000)(U:1<=m)(Y:m<1000):AI (f32 F b m) (λr=>BG (k+1) r.2):=by
 unfold f32;refine AI.E (m - 1) V (Bv (Kb hb K (by omega)) ?_);rintro⟨x,b'⟩ ⟨g1,g2,O⟩;exact Aw O
variable{l:List Int}
theorem WI{k:Nat}{b:Hq}(hb:BG k b)(U:k<1000000)(Y:0<l.length)(Z:l.length<1000):AI (f81 F b l) (λr=>r.1∈l/\BG (k+1) r.2):=by
 unfold f81;refine AI.E ((l.length - 1:Nat):Int) (by omega) (Bv (Kb hb U (by omega)) ?_);rintro⟨x,b'⟩ ⟨g1,g2,K⟩;simp only at g1 g2 K ⊢;have O:x.toNat<l.length:=by omega
 exact Cf (m:=x.toNat) (by omega) O (Aw ⟨no O,K⟩)
abbrev DT:=Int×Int×Int
abbrev OW:=AZ×List DT
structure NV (n:Nat) (o:OW):Prop where
 l1:o.1.length<=n
 n1:∀x∈o.1,x.length<=n
 l2:o.2.length<=n
theorem NV.up{n m:Nat}{o:OW}(h:NV n o)(hm:n<=m):NV m o:=⟨q8 h.l1 hm,λx K=>q8 (h.n1 x K) hm,q8 h.l2 hm⟩
theorem V9{l:AZ}(ag:100<F)(ai:l.length<=40)(U:∀x∈l,x.length<=40):f68 F l=some l:=by
 refine Ef ?_;unfold f68;refine AW (b:=List.replicate l.length []) ?_ ?_;unfold Fx;rw[d0 (by omega)];rfl
 refine Bv (S:=λr=>r=l) ?_ (λr Y=>Aw Y);refine CQ l.length (λi s=>s.2=(i:Int)/\s.1=l.take i++List.replicate (l.length - i) []) ⟨V,by simp⟩ (by omega) ?_ ?_
 .rintro i ⟨o,c⟩ hi ⟨K,O⟩;simp only at K O;subst K;subst O;unfold Pj;refine BW (by simp only;omega) (Cf (m:=i) V hi ?_);refine AW (b:=l[i]) ?_ ?_
  .unfold f104;have:CZ ([]:List Int) l[i]=some l[i]:=by unfold CZ;rw[d0 (by have:=U _ (no hi);simp;omega)];rfl
   rw[this];rfl
  have Z:(l.take i).length=i:=by rw[rU];omega
  refine Cf (m:=i) V (by simp;omega) (AI.E ((i+1:Nat):Int) (by simp) ?_);refine Aw ⟨V,?_⟩;simp only;rw[show Int.toNat (i:Int)=i by omega,List.set_append,d7 (by omega),Z,ti];obtain⟨k,ac⟩:∃k,l.length - i=k+1:=⟨l.length - i - 1,by omega⟩;rw[ac,sI,sO,ri,bI hi,show l.length - (i+1)=k by omega];simp only[rJ,qI,rh,rG]
 .rintro⟨o,c⟩ ⟨K,O⟩;simp only at K O;subst K;subst O;unfold Pj;exact BT (by simp) (Aw ⟨_,V,by simp⟩)
theorem fG{o:OW}(O:100<F)(K:NV 40 o):f21 F o=some o:=by
 unfold f21;have U:=K.l2;rw[V9 O K.l1 K.n1,Option.bind_some];unfold f69;have:CZ ([]:List DT) o.2=some o.2:=by unfold CZ;rw[d0 (by simp;omega)];rfl
 rw[this];rfl
theorem We(K:100<F)(O:l.length<=40):f29 F l l=some true:=by
 refine Ef ?_;unfold f29;refine Bv (S:=λq=>q=Sum.inr ()) ?_ (by rintro q rfl;exact Aw (by simp));refine CQ l.length (λi s=>s=(i:Int)) V (by omega) ?_ ?_;rintro i s hi rfl;unfold Pp;refine Bv (S:=λc=>c=true) (BW (by omega) (Aw (qR (by omega)))) ?_;rintro c rfl;refine BW V (Cf (m:=i) V hi ?_);refine Cf (m:=i) V hi (BT (by simp) ?_);exact AI.E ((i+1:Nat):Int) (by simp) (Aw V);rintro s rfl;unfold Pp;refine Bv (S:=λc=>c=false) (BT (by omega) (Aw V)) ?_;rintro c rfl;exact BT (by simp) (Aw ⟨_,V,V⟩)
theorem WO{l:List DT}(K:100<F)(O:l.length<=40):f26 F l l=some true:=by
 refine Ef ?_;unfold f26;refine Bv (S:=λq=>q=Sum.inr ()) ?_ (by rintro q rfl;exact Aw (by simp));refine CQ l.length (λi s=>s=(i:Int)) V (by omega) ?_ ?_;rintro i s hi rfl;unfold PG;refine Bv (S:=λc=>c=true) (BW (by omega) (Aw (qR (by omega)))) ?_;rintro c rfl;refine BW V (Cf (m:=i) V hi ?_);refine Cf (m:=i) V hi (BT (by simp) ?_);exact AI.E ((i+1:Nat):Int) (by simp) (Aw V);rintro s rfl;unfold PG;refine Bv (S:=λc=>c=false) (BT (by omega) (Aw V)) ?_;rintro c rfl;exact BT (by simp) (Aw ⟨_,V,V⟩)
theorem fb{l:AZ}(K:100<F)(U:l.length<=40)(O:∀x∈l,x.length<=40):f80 F l l=some true:=by
 refine Ef ?_;unfold f80;refine Bv (S:=λq=>q=Sum.inr ()) ?_ (by rintro q rfl;exact Aw (by simp));refine CQ l.length (λi s=>s=(i:Int)) V (by omega) ?_ ?_;rintro i s hi rfl;unfold PI;refine Bv (S:=λc=>c=true) (BW (by omega) (Aw (qR (by omega)))) ?_;rintro c rfl;refine BW V (Cf (m:=i) V hi ?_);refine Cf (m:=i) V hi (AW (We K (O _ (no hi))) ?_);refine BT (by simp) (AI.E ((i+1:Nat):Int) (by simp) ?_);exact Aw V;rintro s rfl;unfold PI;refine Bv (S:=λc=>c=false) (BT (by omega) (Aw V)) ?_;rintro c rfl;exact BT (by simp) (Aw ⟨_,V,V⟩)
theorem fL{o:OW}(K:100<F)(h:NV 40 o):f30 F o o=some true:=by
 refine Ef ?_;unfold f30;refine AW (fb K h.l1 h.n1) (Bv (S:=λc=>c=true) (BW V (AW (WO K h.l2) (Aw V))) ?_);rintro c rfl;exact Aw V
theorem fg{o:OW}(Z:100<F):AI (f17 F o) (λr=>r=false->NV 20 o):=by
 unfold f17;refine Bv (S:=λc=>c=false->o.1.length<=20/\o.2.length<=20) ?_ ?_;refine CG (λh=>Aw (by simp)) (λh=>Aw λU=>?_);have:=sN U;omega
 intro c Y;refine CG (λh=>Aw (by simp)) (λh=>?_);obtain⟨g1,g2⟩:=Y (by simpa using h);refine Bv (S:=λq=>q=Sum.inl true∨(q=Sum.inr ()/\∀x∈o.1,x.length<=20)) ?_ ?_;refine CQ o.1.length (λi s=>s=(i:Int)/\∀x∈o.1.take i,x.length<=20) ⟨V,by simp⟩ (by omega) ?_ ?_;rintro i s hi ⟨rfl,O⟩;unfold PK;refine BW (by omega) (Cf (m:=i) V hi ?_);refine CG (λh=>Aw (.inl V)) (λh=>?_);refine AI.E ((i+1:Nat):Int) (by simp) (Aw ⟨V,λx K=>?_⟩);rw[ri,bI hi] at K;simp only[rJ,ik,aX] at K;rcases K with K | rfl;exact O x K;omega;rintro s ⟨rfl,O⟩;unfold PK;refine BT (by omega) (Aw ⟨_,V,.inr ⟨V,λx K=>O x (by rw[ra];exact K)⟩⟩);rintro q (rfl | ⟨rfl,h⟩);exact Aw (by simp);exact Aw λ_=>⟨g1,h,g2⟩
open Go Go.Conc
variable {κ ν:Type}
variable {pk:Rp κ}{pv:Rp ν}{ka va:Bool}{E' H:LH}
variable {P:Program}{s:St}{t tm te:TypeId}{bk:Nat}{xs:List (κ×ν)}{w:Value}{v0:ν}
section
variable [DecidableEq κ]
theorem KB(x y:κ)(v:ν):∀xs:List (κ×ν),Bn (Cq xs x v) y=if y=x then some v else Bn xs y
 | []=>by
  unfold Cq Bn
  by_cases h:y=x;rw[d0 h];simp[h];rw[d7 h];simp[h]
 | z::U=>by
  have Y:=KB x y v U;unfold Cq;by_cases h:x=z.1;rw[d0 h];by_cases K:y=x;rw[d0 K];unfold Bn;simp[K];rw[d7 K];unfold Bn;rw[sL (by simpa using K),sL (by simpa using λe=>K (e.trans h.symm))]
  .rw [d7 h];by_cases O:y=z.1;rw[d7 (λe=>h (e.symm.trans O))];unfold Bn;simp[O]
   .have:Bn (z::Cq U x v) y=Bn (Cq U x v) y:=by unfold Bn;rw[sL (by simpa using O)]
    rw[this,Y];by_cases K:y=x;rw[d0 K,d0 K];rw[d7 K,d7 K];unfold Bn;rw[sL (by simpa using O)]
open Classical in
variable {E:LH}
variable {X:Halt->St->Prop}{o:Obj}{k:Value}{x:κ}
end
variable {b:Frame}{n:Nat}{ds:Ld_}{ops:Ao_}{kk:Li_}{cs:Lf_}{L:Env}{S:List Seg}{fuel:Nat}{listed:Array Bool}
variable {d:Option Tmp}{u ty e:TypeId}{p:String}{af:Ae_}{g:On_}{i:Nat}{rest:List Nat}{zv:Value}{x0:κ}{z0:ν}
section
variable [DecidableEq κ]{E:LH}
variable {J:Judge P}{Q:Gs_}{m:Nat}
variable {x y z:Operand}{o:Obj}{k:Value}
end
end Pal
namespace Pal
abbrev CF:=Nat->Nat->Int
abbrev PU:=List (List (Int×Int))
def Gf(C:CF)(x y c:Nat):CF:=λa b=>C a b - (if a=x/\b=c then 1 else 0)+(if a=y/\b=c then 1 else 0)
def Ft(C:CF)(x y:Nat)(v:Nat->Nat):CF:=λa b=>C a b - (if a=x then(v b:Int) else 0)+(if a=y then(v b:Int) else 0)
def wS(v:Nat->Nat):Nat:=v 1+2*v 2+3*v 3+4*v 4+5*v 5+6*v 6+7*v 7+8*v 8+9*v 9
def Qt(v:Nat->Nat)(lo:Nat):Prop:=∀b,v b≠0->lo<=b/\b<=9
def EK(C:CF)(d:DT)(K:CF):Prop:=∃v,Qt v 1/\(∀b,(v b:Int)<=C d.1.toNat b)/\(wS v:Int)=d.2.2/\K=Ft C d.1.toNat d.2.1.toNat v
inductive Hx (x y:Nat):Nat->Nat->CF->CF->Prop
 | done {lo:Nat}{C:CF}:Hx x y lo 0 C C
 | step {lo left c:Nat}{C K:CF}:lo<=c->c<=9->c<=left->0<C x c->Hx x y c (left - c) (Gf C x y c) K->Hx x y lo left C K
def MJ(v:Nat->Nat)(c:Nat):Nat->Nat:=λb=>if b=c then v b+1 else v b
def LJ(v:Nat->Nat)(c:Nat):Nat->Nat:=λb=>if b=c then v b - 1 else v b
variable{v:Nat->Nat}{c:Nat}
theorem df(K:1<=c)(O:c<=9):wS (MJ v c)=wS v+c:=by
 have:c=1∨c=2∨c=3∨c=4∨c=5∨c=6∨c=7∨c=8∨c=9:=by omega
 rcases this with rfl | rfl | rfl | rfl | rfl | rfl | rfl | rfl | rfl<;>simp[wS,MJ]<;>omega
theorem aQ(K:1<=c)(O:c<=9)(U:0<v c):wS (LJ v c)+c=wS v:=by
 have:c=1∨c=2∨c=3∨c=4∨c=5∨c=6∨c=7∨c=8∨c=9:=by omega
 rcases this with rfl | rfl | rfl | rfl | rfl | rfl | rfl | rfl | rfl<;>simp[wS,LJ]<;>omega
variable{C:CF}
theorem gH{x y:Nat}(Z:x≠y){lo left:Nat}{K:CF}(h:Hx x y lo left C K):1<=lo->(∀b,0<=C x b)->∃v,Qt v lo/\(∀b,(v b:Int)<=C x b)/\wS v=left/\K=Ft C x y v:=by
 induction h with
 | @done lo C=>
  intro _ O;exact⟨λ_=>0,λb hb=>absurd V hb,λb=>by simpa using O b,V,by funext a b;simp[Ft]⟩
 | @step lo left c C K aj ac al am _ ag=>
  intro ap O;obtain⟨v,v1,v2,ai,v4⟩:=ag (by omega) (λb=>by
   have:=O b
   unfold Gf
   by_cases e:b=c;subst e;simp[Z];omega
   .simp [e];omega)
  refine⟨MJ v c,λb hb=>?_,λb=>?_,?_,?_⟩;unfold MJ at hb;by_cases e:b=c;omega;rw[d7 e] at hb;have:=v1 b hb;omega;have:=v2 b;unfold Gf at this;unfold MJ;by_cases e:b=c;subst e;simp[Z] at this;simp;omega;simp[e] at this;simp[e];omega;rw[df (by omega) ac,ai];omega;rw[v4];funext a b;unfold Ft Gf MJ;by_cases e:b=c;by_cases U:a=x<;>by_cases Y:a=y<;>simp[e,U,Y]<;>omega;by_cases U:a=x<;>by_cases Y:a=y<;>simp[e,U,Y]
theorem TU(v:Nat->Nat):∀k,(∃b,b<k/\v b≠0)->∃c,c<k/\v c≠0/\∀b,b<c->v b=0
 | 0,⟨b,hb,_⟩=>by omega
 | k+1,⟨b,hb,K⟩=>by
  by_cases h:∃b,b<k/\v b≠0
  .let⟨c,Z,U,Y⟩:=TU v k h
   exact⟨c,by omega,U,Y⟩
  .have O:∀b,b<k->v b=0:=λb hb=>sd λq=>h ⟨b,hb,q⟩;have:b=k:=by
    rcases f7 b k with q | q;exact absurd (O b q) K;omega
   subst this;exact⟨b,by omega,K,O⟩
theorem WA{x y:Nat}(ag:x≠y):∀(left lo:Nat) (C:CF) (v:Nat->Nat),1<=lo->Qt v lo->(∀b,(v b:Int)<=C x b)->wS v=left->Hx x y lo left C (Ft C x y v):=by
 intro left
 induction left using Nat.strongRecOn with
 | _ left ai=>
  intro lo C v al O Z hw;by_cases ac:left=0
  .subst ac;have K:v=λ_=>0:=by
    funext b;by_cases hb:1<=b/\b<=9
    .unfold wS at hw;have:b=1∨b=2∨b=3∨b=4∨b=5∨b=6∨b=7∨b=8∨b=9:=by omega
     rcases this with rfl | rfl | rfl | rfl | rfl | rfl | rfl | rfl | rfl<;>omega
    .exact sd λq=>hb (by have:=O b q;omega)
   have e:Ft C x y v=C:=by subst K;funext a b;simp[Ft]
   rw[e];exact .done
  .have hex:∃b,b<10/\v b≠0:=by
    refine sd λq=>ac ?_;have K:∀b,b<10->v b=0:=λb hb=>sd λr=>q ⟨b,hb,r⟩;rw[← hw];unfold wS;rw[K 1,K 2,K 3,K 4,K 5,K 6,K 7,K 8,K 9]<;>omega
   let⟨c,c1,c2,c3⟩:=TU v 10 hex;let⟨s1,s2⟩:=O c c2;have am:=aQ (v:=v) (c:=c) (by omega) s2 (by omega);have aj:=ai (left - c) (by omega) c (Gf C x y c) (LJ v c) (by omega) (λb hb=>?_) (λb=>?_) (by omega)
   .refine .step (c:=c) s1 s2 (by omega) (by have:=Z c;omega) ?_;have e:Ft (Gf C x y c) x y (LJ v c)=Ft C x y v:=by
     funext a b;unfold Ft Gf LJ;by_cases e:b=c;by_cases U:a=x<;>by_cases Y:a=y<;>simp[e,U,Y]<;>omega;by_cases U:a=x<;>by_cases Y:a=y<;>simp[e,U,Y]
    rw[← e];exact aj
   unfold LJ at hb;by_cases e:b=c;omega;rw[d7 e] at hb;have:=O b hb;refine⟨?_,this.2⟩;rcases f7 b c with q | q;exact absurd (c3 b q) hb;exact q;have:=Z b;unfold Gf LJ;by_cases e:b=c;subst e;simp[ag];omega;simp[e];exact this
def C5:List Nat->List Nat->CF
 | l::L,o::w,a,b=>C5 L w a b+if a=o/\b=l then 1 else 0
 | _,_,_,_=>0
theorem OJ:∀(L w:List Nat) (a b:Nat),0<=C5 L w a b
 | [],w,a,b=>by unfold C5;exact uy _
 | _::_,[],a,b=>by unfold C5;exact uy _
 | l::L,o::w,a,b=>by have:=OJ L w a b;unfold C5;split<;>omega
theorem Rx:∀(L w:List Nat) (a b:Nat),C5 L w a b<=L.length
 | [],w,a,b=>by unfold C5;simp
 | _::_,[],a,b=>by unfold C5;omega
 | l::L,o::w,a,b=>by have:=Rx L w a b;unfold C5;rw[q4];split<;>omega
theorem RE{x y c:Nat}:∀{L w:List Nat},L.length=w.length->0<C5 L w x c->∃w':List Nat,w'.length=w.length/\(∀o∈w',o∈w∨o=y)/\C5 L w'=Gf (C5 L w) x y c
 | [],[],_,h=>by unfold C5 at h;omega
 | [],_::_,h,_=>by simp at h
 | _::_,[],h,_=>by simp at h
 | l::L,o::w,U,h=>by
  by_cases O:x=o/\c=l;refine⟨y::w,V,λz K=>?_,?_⟩;rcases fP.1 K with rfl | K;exact .inr V;exact .inl (f9 _ K);funext a b;obtain⟨rfl,rfl⟩:=O;unfold Gf;simp only[C5];by_cases Y:a=x/\b=c<;>by_cases e2:a=y/\b=c<;>simp[Y,e2]<;>omega
  .have Z:0<C5 L w x c:=by
    unfold C5 at h;rw[d7 O] at h;omega
   obtain⟨w',ac,ag,ai⟩:=RE (L:=L) (w:=w) (by simpa using U) Z;refine⟨o::w',by simp[ac],λz K=>?_,?_⟩;rcases fP.1 K with rfl | K;exact .inl rT;rcases ag z K with q | q;exact .inl (f9 _ q);exact .inr q;funext a b;have:=uM (uM ai a) b;simp only[C5,Gf] at this ⊢;omega
theorem Om(l o:Nat)(L w:List Nat)(a b:Nat):C5 (l::L) (o::w) a b=C5 L w a b+if a=o/\b=l then 1 else 0:=rfl
def DZ(C:CF)(x:Nat):Nat->Nat
 | 0=>0
 | k+1=>(C x (9 - k)).toNat+DZ C x k
theorem Rh{C:CF}{x:Nat}(h:∀b,C x b=0):∀k,DZ C x k=0
 | 0=>rfl
 | k+1=>by
  show(C x (9 - k)).toNat+DZ C x k=0
  rw[h,Rh h k];rfl
theorem Ux(x l o:Nat)(L w:List Nat):∀k,k<=9->DZ (C5 (l::L) (o::w)) x k=DZ (C5 L w) x k+if x=o/\l<=9/\9<k+l then 1 else 0
 | 0,_=>by rw[d7 (by omega)];rfl
 | k+1,O=>by
  show(C5 (l::L) (o::w) x (9 - k)).toNat+DZ (C5 (l::L) (o::w)) x k=(C5 L w x (9 - k)).toNat+DZ (C5 L w) x k+_
  have U:=OJ L w x (9 - k)
  rw[Ux x l o L w k (by omega),Om]
  by_cases e:x=o;by_cases e2:9 - k=l;rw[d0 ⟨e,e2⟩,d7 (by omega),d0 (by omega)];omega;rw[d7 (λq=>e2 q.2)];by_cases K:l<=9/\9<k+l;rw[d0 ⟨e,K⟩,d0 (by omega)];omega;rw[d7 (λq=>K q.2),d7 (by omega)];omega;rw[d7 (λq=>e q.1),d7 (λq=>e q.1),d7 (λq=>e q.1)];omega
theorem VL(x:Nat):∀(L w:List Nat) (k:Nat),k<=9->DZ (C5 L w) x k<=L.length
 | [],w,k,_=>by rw[Rh (λb=>by unfold C5;rfl)];exact rl _
 | _::_,[],k,_=>by rw[Rh (λb=>by unfold C5;rfl)];exact rl _
 | l::L,o::w,k,K=>by
  have:=VL x L w k K
  rw[Ux x l o L w k K,q4]
  split<;>omega
theorem fJ{x y:Nat}(O:x≠y)(Y:c<=9)(Z:1<=c)(ac:0<C x c):DZ (Gf C x y c) x (10 - c)+1=DZ C x (10 - c):=by
 have lower:∀k,k<=9 - c->DZ (Gf C x y c) x k=DZ C x k:=by
  intro k
  induction k with
  | zero=>intro _;rfl
  | succ k U=>
   intro K;simp only[DZ];rw[U (by omega)];congr 1;unfold Gf;rw[d7 (by omega),d7 (by omega)];simp
 obtain⟨k,K⟩:∃k,10 - c=k+1:=⟨9 - c,by omega⟩;rw[K];simp only[DZ];rw[lower k (by omega),show 9 - k=c by omega];unfold Gf;rw[d0 ⟨rfl,rfl⟩,d7 (λq=>O q.1)];omega
structure SP (n:Nat) (L:List Nat) (p:PU):Prop where
 len:p.length=n
 keys:∀xs∈p,∀K∈xs,0<=K.1/\K.1<10
 own:∃w:List Nat,w.length=L.length/\(∀o∈w,o<n)/\AJ p=C5 L w
variable{p:PU}
theorem SP.nn{n:Nat}{L:List Nat}(h:SP n L p)(a b:Nat):0<=AJ p a b:=by obtain⟨w,_,_,e⟩:=h.own;rw[e];exact OJ _ _ _ _
theorem SP.le{n:Nat}{L:List Nat}(h:SP n L p)(a b:Nat):AJ p a b<=L.length:=by obtain⟨w,_,_,e⟩:=h.own;rw[e];exact Rx _ _ _ _
theorem QW{κ ν:Type} [DecidableEq κ] (x y:κ):∀xs:List (κ×ν),Bn (Eu xs x) y=if y=x then none else Bn xs y
 | []=>by simp[Eu,Bn]
 | z::xs=>by
  have U:=QW x y xs
  unfold Eu at U ⊢
  by_cases O:x=z.1
  .rw [List.filter_cons_of_neg (by simpa using O),U]
   by_cases K:y=x;rw[d0 K,d0 K];rw[d7 K,d7 K];have:y≠z.1:=λe=>K (e.trans O.symm);simp[Bn,this]
  .rw [List.filter_cons_of_pos (by simpa using O)];by_cases K:y=z.1;rw[d7 (λe=>O (e.symm.trans K))];simp[Bn,K]
   .have Y:Bn (z::xs.filter λy=>decide (x≠y.1)) y=Bn (xs.filter λy=>decide (x≠y.1)) y:=by simp[Bn,K]
    have e2:Bn (z::xs) y=Bn xs y:=by simp[Bn,K]
    rw[Y,e2,U]
theorem Rg{κ ν:Type} [DecidableEq κ] {x:κ}{v:ν}{K:κ×ν}:∀{xs:List (κ×ν)},K∈Cq xs x v->K.1=x∨∃u,(K.1,u)∈xs
 | [],h=>by cases aX.1 h;exact .inl rfl
 | y::ys,h=>by
  unfold Cq at h
  split at h;rcases fP.1 h with rfl | h;exact .inl V;exact .inr ⟨K.2,f9 _ h⟩;rcases fP.1 h with rfl | h;exact .inr ⟨K.2,rT⟩;rcases Rg h with h | ⟨u,h⟩;exact .inl h;exact .inr ⟨u,f9 _ h⟩
theorem cC{F n x y:Nat}{L:List Nat}(bg:n<=5)(h:SP n L p)(bi:L.length<=100)(bo:x<n)(bv:y<n)(aq:x≠y)(bw:c<10)(aw:0<AJ p x c):
  ∃q,f207 F p (x:Int) (y:Int) (c:Int)=some q/\SP n L q/\AJ q=Gf (AJ p) x y c:=by
 have a2:=h.len;have ac:x<p.length:=by omega
 have ai:y<p.length:=by omega
 have ex:p[x]=p.getD x []:=by rw[f4,bI ac];rfl
 have aj:p[y]=p.getD y []:=by rw[f4,bI ai];rfl
 have a3:=h.le x c;have a4:=h.le y c;have a5:=h.nn y c;unfold AJ at aw a3 a4 a5;have a6:f207 F p (x:Int) (y:Int) (c:Int)=some ((p.set x (if(Bn (Cq p[x] (c:Int) ((Bn p[x] (c:Int)).getD 0 - 1)) (c:Int)).getD 0=0 then Eu (Cq p[x] (c:Int) ((Bn p[x] (c:Int)).getD 0 - 1)) (c:Int) else Cq p[x] (c:Int) ((Bn p[x] (c:Int)).getD 0 - 1))).set y (Cq p[y] (c:Int) ((Bn p[y] (c:Int)).getD 0+1))):=by
  refine Ef ?_;unfold f207;refine Cf (m:=x) V ac (Cf (m:=y) V ai ?_);refine AW (b:=List.replicate p.length (Go.Value.map none)) (by unfold Fx;rw[d0 (by omega)];simp) (BT (by omega) ?_);refine OY _ V (by rw[ex];omega) (by rw[ex];omega) (OY _ V (by rw[aj];omega) (by rw[aj];omega) ?_);refine Aw ?_;rw[rk,rk]
 refine⟨_,a6,?_⟩;have a0:AJ ((p.set x (if(Bn (Cq p[x] (c:Int) ((Bn p[x] (c:Int)).getD 0 - 1)) (c:Int)).getD 0=0 then Eu (Cq p[x] (c:Int) ((Bn p[x] (c:Int)).getD 0 - 1)) (c:Int) else Cq p[x] (c:Int) ((Bn p[x] (c:Int)).getD 0 - 1))).set y (Cq p[y] (c:Int) ((Bn p[y] (c:Int)).getD 0+1)))=Gf (AJ p) x y c:=by
  funext a b;unfold AJ Gf;rw[f4,rj,rj];by_cases al:y=a;subst al;rw[d0 rfl,d0 (by rw[qY];omega),d7 (λq:y=x/\b=c=>aq q.1.symm)];simp only[Option.getD_some,aj];rw[KB];by_cases K:b=c;subst K;simp;rw[d7 (by omega),d7 (λq=>K q.2)];simp
  .rw [d7 al];by_cases e2:x=a
   .subst e2;rw[d0 rfl,d0 (by omega),d7 (λq:x=y/\b=c=>aq q.1)];simp only[Option.getD_some,ex];have a1:∀z:Int,Bn (Cq (p.getD x []) (c:Int) z) (c:Int)=some z:=λz=>by rw[KB,d0 rfl]
    rw[a1,Option.getD_some];by_cases K:b=c;subst K;by_cases O:(Bn (p.getD x []) (b:Int)).getD 0 - 1=0;rw[d0 O,QW,d0 rfl,d0 ⟨trivial,rfl⟩,Option.getD_none];omega;rw[d7 O,a1,d0 ⟨trivial,rfl⟩,Option.getD_some];omega
    .have am:¬((b:Int)=(c:Int)):=by omega
     rw[d7 (λq:True/\b=c=>K q.2)];by_cases O:(Bn (p.getD x []) (c:Int)).getD 0 - 1=0;rw[d0 O,QW,d7 am,KB,d7 am];omega;rw[d7 O,KB,d7 am];omega
   .rw [d7 e2,d7 (λq=>e2 q.1.symm),d7 (λq=>al q.1.symm)];show(Bn (p[a]?.getD []) (b:Int)).getD 0=(Bn (p.getD a []) (b:Int)).getD 0 - 0+0;rw[f4];omega
 refine⟨⟨by simp[a2],λxs U Y Z=>?_,?_⟩,a0⟩
 .have ap:∀(ag:List (Int×Int)) (u:Int),ag∈p->Y∈Cq ag (c:Int) u->0<=Y.1/\Y.1<10:=by
   intro ag u a7 a8;rcases Rg a8 with q | ⟨r,q⟩;rw[q];omega;exact h.keys ag a7 (Y.1,r) q
  rcases sr U with U | rfl;rcases sr U with U | rfl;exact h.keys xs U Y Z;split at Z;exact ap _ _ (no ac) (tv.1 Z).1;exact ap _ _ (no ac) Z;exact ap _ _ (no ai) Z
 .obtain⟨w,w1,w2,w3⟩:=h.own;have a9:0<C5 L w x c:=by rw[← w3];exact aw
  let⟨w',v1,v2,bb⟩:=RE (y:=y) w1.symm a9;refine⟨w',by omega,λo be=>?_,by rw[a0,bb,w3]⟩;rcases v2 o be with q | q;exact w2 o q;omega
theorem Z8(C:CF)(x:Nat)(O:c<=9):DZ C x (10 - c)=(C x c).toNat+DZ C x (10 - (c+1)):=by
 obtain⟨k,K⟩:∃k,10 - c=k+1:=⟨9 - c,by omega⟩;rw[K,show 10 - (c+1)=k by omega];show(C x (9 - k)).toNat+DZ C x k=_;rw[show 9 - k=c by omega]
structure VT (n:Nat) (d:DT):Prop where
 x0:0<=d.1
 x1:d.1<(n:Int)
 y0:0<=d.2.1
 y1:d.2.1<(n:Int)
 ne:d.1≠d.2.1
 p0:1<=d.2.2
 p1:d.2.2<=72
variable{d:DT}
theorem dx{F n:Nat}{L:List Nat}(a7:n<=5)(ce:L.length<=15)(hd:VT n d)(ci:100<F):∀(N left lo:Nat) (p:PU) (acc:List PU),left<N->left<=100->1<=lo->SP n L p->acc.length+2^DZ (AJ p) d.1.toNat (10 - lo)<=2^20->
  AI (Nl N F p (lo:Int) (left:Int) acc d) (λout=>∃new,out=acc++new/\new.length<=2^DZ (AJ p) d.1.toNat (10 - lo)/\(∀q∈new,SP n L q/\Hx d.1.toNat d.2.1.toNat lo left (AJ p) (AJ q))/\∀O,Hx d.1.toNat d.2.1.toNat lo left (AJ p) O->∃q∈new,AJ q=O):=by
 obtain⟨x0,x1,y0,y1,ck,-,-⟩:=hd;intro N
 induction N with
 | zero=>intro left lo p acc h;omega
 | succ N a8=>
  intro left lo p acc co cp ct ag hb;have hlen:=ag.len;have a9:d.1.toNat<n:=by omega
  have bb:d.2.1.toNat<n:=by omega
  have a3:d.1.toNat≠d.2.1.toNat:=by omega
  have be:1<=2^DZ (AJ p) d.1.toNat (10 - lo):=Nat.one_le_two_pow;unfold Nl Pt;refine CG (λbg=>?_) (λbg=>?_)
  .obtain rfl:left=0:=by omega
   refine IW (by omega) (Aw ⟨[p],V,be,λq am=>?_,λO h=>?_⟩);cases aX.1 am;exact⟨ag,.done⟩
   .refine⟨p,aX.2 V,?_⟩;cases h with
    | done=>rfl
    | step a1 bi a4=>omega
  .refine Bv (S:=λout=>∃new,out=acc++new/\new.length<=2^DZ (AJ p) d.1.toNat (10 - lo)/\(∀q∈new,SP n L q/\Hx d.1.toNat d.2.1.toNat lo left (AJ p) (AJ q))/\∀O,Hx d.1.toNat d.2.1.toNat lo left (AJ p) O->∃q∈new,AJ q=O) ?_ (λr bo=>Aw bo);refine CQ (min left 9+1 - lo) (λi s=>s.2=((lo+i:Nat):Int)/\∃new,s.1=acc++new/\new.length+2^DZ (AJ p) d.1.toNat (10 - (lo+i))<=2^DZ (AJ p) d.1.toNat (10 - lo)/\(∀q∈new,SP n L q/\Hx d.1.toNat d.2.1.toNat lo left (AJ p) (AJ q))/\∀K,lo<=K->K<lo+i->K<=left->0<AJ p d.1.toNat K->∀O,Hx d.1.toNat d.2.1.toNat K (left - K) (Gf (AJ p) d.1.toNat d.2.1.toNat K) O->∃q∈new,AJ q=O)
    ⟨rfl,[],by simp,by simp,(λq am=>by cases am),(λK cw cy=>by omega)⟩ (by omega) ?_ ?_
   .rintro i ⟨s,z⟩ hi ⟨Z,new,ac,ap,ai,aj⟩;simp only at Z ac;subst Z;subst ac;have aq:lo+i<=9:=by omega
    have bv:lo+i<=left:=by omega
    have c0:=Z8 (AJ p) d.1.toNat aq;have c1:=ag.nn d.1.toNat (lo+i);unfold ON;refine BW (by simp only;omega) ?_;have bw:ix p d.1=some (p.getD d.1.toNat []):=F8 (m:=d.1.toNat) (by omega) (by rw[f4,bI (by omega)];rfl);refine AW bw ?_;refine Bv (S:=λs=>∃Y,s=acc++Y/\Y.length+2^DZ (AJ p) d.1.toNat (10 - (lo+i+1))<=2^DZ (AJ p) d.1.toNat (10 - lo)/\(∀q∈Y,SP n L q/\Hx d.1.toNat d.2.1.toNat lo left (AJ p) (AJ q))/\∀K,lo<=K->K<lo+i+1->K<=left->0<AJ p d.1.toNat K->∀O,Hx d.1.toNat d.2.1.toNat K (left - K) (Gf (AJ p) d.1.toNat d.2.1.toNat K) O->∃q∈Y,AJ q=O) ?_ ?_
    .refine CG (λU=>?_) (λU=>?_)
     .have U:0<AJ p d.1.toNat (lo+i):=U;refine AI.E ((left - (lo+i):Nat):Int) (by simp only;omega) ?_;obtain⟨q,a5,bx,aw⟩:=cC (F:=F) a7 ag (by omega) a9 bb a3 (show lo+i<10 by omega) U;rw[show((d.1.toNat:Nat):Int)=d.1 by omega,show((d.2.1.toNat:Nat):Int)=d.2.1 by omega] at a5;refine AW a5 ?_;have hm:=fJ a3 aq (by omega) U;rw[← aw] at hm;have c2:2^DZ (AJ p) d.1.toNat (10 - (lo+i))=2*2^DZ (AJ q) d.1.toNat (10 - (lo+i)):=by
       rw[← hm,un];omega
      have hle:2^DZ (AJ p) d.1.toNat (10 - (lo+i+1))<=2^DZ (AJ q) d.1.toNat (10 - (lo+i)):=rv (by omega) (by omega);refine Bv (a8 (left - (lo+i)) (lo+i) q (acc++new) (by omega) (by omega) (by omega) bx ?_) ?_;rw[qT];omega
      .rintro r ⟨n2,rfl,c3,b0,b1⟩;refine Aw ⟨new++n2,by rw[qI],?_,λu hu=>?_,λK k1 b2 a0 al O hC=>?_⟩;rw[qT];omega;rcases ik.1 hu with hu | hu;exact ai u hu;let⟨b3,a6⟩:=b0 u hu;rw[aw] at a6;exact⟨b3,.step (by omega) aq bv U a6⟩
       .rcases f7 K (lo+i) with a2 | b4;let⟨u,hu,e⟩:=aj K k1 a2 a0 al O hC;exact⟨u,rt _ hu,e⟩
        .obtain rfl:K=lo+i:=by omega
         rw[← aw] at hC;let⟨u,hu,e⟩:=b1 O hC;exact⟨u,rm _ hu,e⟩
     .have U:¬0<AJ p d.1.toNat (lo+i):=U;refine Aw ⟨new,V,?_,ai,λK k1 b2 a0 al=>?_⟩;rw[show DZ (AJ p) d.1.toNat (10 - (lo+i+1))=DZ (AJ p) d.1.toNat (10 - (lo+i)) by omega];exact ap
      .rcases f7 K (lo+i) with a2 | b4;exact aj K k1 a2 a0 al
       .obtain rfl:K=lo+i:=by omega
        exact absurd al U
    .rintro s ⟨Y,rfl,b5,e2,b6⟩;exact AI.E ((lo+(i+1):Nat):Int) (by simp only;omega) (Aw ⟨V,Y,V,b5,e2,b6⟩)
   .rintro⟨s,z⟩ ⟨Z,new,ac,ap,ai,aj⟩;simp only at Z ac;subst Z;subst ac;unfold ON;refine BT (by simp only;omega) (Aw ⟨_,V,new,V,q8 (Nat.le_add_right _ _) ap,ai,λO h=>?_⟩);cases h with
    | done=>omega
    | step a1 bi a4 ca cc=>exact aj _ a1 (by omega) a4 ca _ cc
theorem Vn{F n:Nat}{L:List Nat}(ac:n<=5)(U:L.length<=15)(hd:VT n d)(ag:100<F)(O:SP n L p):
  AI (f186 F p d) (λl=>l.length<=2^15/\(∀q∈l,SP n L q/\EK (AJ p) d (AJ q))/\∀K,EK (AJ p) d K->∃q∈l,AJ q=K):=by
 have Y:d.1.toNat≠d.2.1.toNat:=by have:=hd.ne;have:=hd.x0;have:=hd.y0;omega
 have ai:DZ (AJ p) d.1.toNat (10 - 1)<=15:=by
  obtain⟨w,_,_,e⟩:=O.own;rw[e];exact q8 (VL _ L w 9 (by omega)) U
 have Z:2^DZ (AJ p) d.1.toNat (10 - 1)<=2^15:=rv (by omega) ai;have a2:=hd.p0;have a3:=hd.p1;unfold f186;refine Bv (S:=λl=>l.length<=2^15/\(∀q∈l,SP n L q/\EK (AJ p) d (AJ q))/\∀K,EK (AJ p) d K->∃q∈l,AJ q=K) ?_ (λr aj=>Aw aj);unfold f206;have:=dx ac U hd ag F d.2.2.toNat 1 p [] (by omega) (by omega) (by omega) O (by rw[ut,sj];exact q8 Z (by decide));rw[show((d.2.2.toNat:Nat):Int)=d.2.2 by omega] at this;refine AI.Ag this ?_;rintro out ⟨new,rfl,al,am,ap⟩;refine⟨q8 al Z,λq aq=>?_,λK hC=>?_⟩;let⟨a1,aw⟩:=am q aq;let⟨v,v1,v2,a0,v4⟩:=gH Y aw (qH 1) (O.nn _);exact⟨a1,v,v1,v2,by omega,v4⟩;obtain⟨v,v1,v2,a0,rfl⟩:=hC;exact ap _ (WA Y _ 1 _ v (qH 1) v1 v2 (by omega))
def Fs(C:CF):List (List Int):=(List.range 5).map λa=>(List.range 10).map λb=>C a b
theorem U9{F n:Nat}{L:List Nat}(U:n<=5)(O:SP n L p):f187 F p=some (Fs (AJ p)):=by
 have h:p.length<=5/\(p.all λxs=>xs.all λK=>decide (0<=K.1/\K.1<10))=true:=⟨by rw[O.len];exact U,q3.2 λxs Y=>q3.2 λK Z=>qR (O.keys xs Y K Z)⟩;unfold f187;rw[d0 h];rfl
theorem SP.out{n:Nat}{L:List Nat}(Y:n<=5)(O:SP n L p){a b:Nat}(h:5<=a∨10<=b):AJ p a b=0:=by
 unfold AJ;rcases h with h | h;rw[f4,rb (by rw[O.len];omega)];rfl
 .have:Bn (p.getD a []) (b:Int)=none:=by
   unfold Bn;rw[Option.map_eq_none_iff,tH];intro U K;rcases f7 a p.length with q | q;rw[f4,bI q] at K;have:=O.keys _ (no q) U K;simp;omega;rw[f4,rb q] at K;cases K
  rw[this];rfl
theorem Wb{n:Nat}{L:List Nat}{q:PU}(U:n<=5)(Z:SP n L p)(ac:SP n L q)(h:Fs (AJ p)=Fs (AJ q)):AJ p=AJ q:=by
 funext a b;by_cases Y:5<=a∨10<=b;rw[Z.out U Y,ac.out U Y];have K:=qS (λl=>l[a]?) h;simp only[Fs,rf] at K;rw[tq (by omega)] at K;have O:=qS (λl=>l[b]?) (ep K);simp only[rf] at O;rw[tq (by omega)] at O;exact ep O
def NC(n:Nat):Nat->List (List Nat)
 | 0=>[[]]
 | k+1=>(List.range n).flatMap λx=>(NC n k).map (x::·)
theorem T5{n:Nat}:∀{l:List Nat},(∀x∈l,x<n)->l∈NC n l.length
 | [],_=>aX.2 rfl
 | x::l,h=>tN.2 ⟨x,q7.2 (h x rT),q9.2 ⟨l,T5 λy K=>h y (f9 _ K),rfl⟩⟩
theorem UQ(n:Nat):∀k,(NC n k).length=n^k
 | 0=>rfl
 | k+1=>by
  unfold NC
  rw[List.length_flatMap]
  simp only[r5,UQ n k]
  rw[List.map_const',List.sum_replicate_nat,sb,un,uJ]
theorem KA{α:Type} [DecidableEq α]:∀{l m:List α},l.Nodup->(∀x∈l,x∈m)->l.length<=m.length
 | [],m,_,_=>rl _
 | x::l,m,h,K=>by
  let⟨Y,Z⟩:=tc.1 h
  have O:=K x rT
  have:=KA (l:=l) (m:=m.erase x) Z λy U=>(List.mem_erase_of_ne (λe=>by subst e;exact Y U)).2 (K y (f9 _ U))
  rw[List.length_erase_of_mem O] at this
  have:=List.length_pos_of_mem O
  rw[q4];omega
theorem jI{n:Nat}{L:List Nat}{l:List PU}(K:n<=5)(O:L.length<=15)(U:∀q∈l,SP n L q)(hd:(l.map λq=>Fs (AJ q)).Nodup):l.length<=5^15:=by
 have:=KA (m:=(NC n L.length).map λw=>Fs (C5 L w)) hd λx Y=>by
  obtain⟨q,Z,rfl⟩:=q9.1 Y;let⟨w,w1,w2,w3⟩:=(U q Z).own;refine q9.2 ⟨w,?_,by rw[w3]⟩;have:=T5 w2
  rwa[w1] at this
 rw[r5,r5,UQ] at this;refine q8 this (q8 (Nat.pow_le_pow_left K _) (rv (by omega) O))
theorem Pf(F:Nat)(a lo hi:Int):f92 F a lo hi=some (decide (lo<=a/\a<=hi)):=by
 unfold f92;by_cases h:lo<=a;rw[d0 h];simp[h];rw[d7 h];simp[h]
theorem gW(F:Nat)(d:DT)(n m:Int):f86 F d n m=f88 F n d m:=rfl
variable{o:OW}
theorem ab{F:Nat}{i:Int}{l:List Int}(h:ix o.1 i=some l):Pz F l=Mr F o i:=by
 funext j;unfold Pz Mr;rw[h];rfl
theorem ZV(F:Nat)(o:OW):Ps F o=Ms F o:=by
 funext i;unfold Ps Ms;split;rcases h:ix o.1 i with _ | l;rfl;simp only[Option.bind_some];rw[ab h];rfl
theorem WT(F:Nat)(o:OW):f47 F o=f48 F o:=by
 unfold f47 f48;rw[ZV];rfl
theorem eO{F n:Nat}(h:NV n o)(K:n<100):AI (f38 F o d) (λr=>r=(o.1,o.2++ [d])):=by
 unfold f38;have O:=h.l2;refine AI.LM (by simp;omega) (AI.LM (by simp;omega) ?_);exact Aw V
def VD(n:Nat)(d:DT):Prop:=0<=d.1/\d.1<(n:Int)/\0<=d.2.1/\d.2.1<(n:Int)/\d.1≠d.2.1/\1<=d.2.2/\d.2.2<=9
def CS(x:List Int):Prop:=x.length<=3/\∀c∈x,1<=c/\c<=9
structure VO (o:OW):Prop where
 n2:2<=o.1.length
 n5:o.1.length<=5
 cs:∀x∈o.1,CS x
 d8:o.2.length<=8
 ds:∀d∈o.2,VD o.1.length d
theorem VO.nv(h:VO o):NV 40 o:=⟨by have:=h.n5;omega,λx K=>by have:=(h.cs x K).1;omega,by have:=h.d8;omega⟩
variable{i:Nat}
theorem J9{α:Type}{P:α->Prop}{l:List α}(hi:i<l.length)(h:∀x∈l.take i,P x)(k:P l[i]):∀x∈l.take (i+1),P x:=by
 intro x K;rw[ri,bI hi] at K;simp only[rJ,ik,aX] at K;rcases K with K | rfl;exact h x K;exact k
theorem Xg{F n:Nat}{m:Int}(Y:n<1000):AI (f88 F (n:Int) d m) (λr=>r=0↔0<=d.1/\d.1<(n:Int)/\0<=d.2.1/\d.2.1<(n:Int)/\d.1≠d.2.1/\1<=d.2.2/\d.2.2<=m):=by
 unfold f88;refine AI.E ((n:Int) - 1) V (AW (Pf _ _ _ _) ?_);refine Bv (S:=λc=>c=true↔¬((0<=d.1/\d.1<(n:Int))/\0<=d.2.1/\d.2.1<(n:Int))) ?_ ?_;refine CG (λh=>Aw ?_) (λh=>?_);simp at h;simp;omega;refine AI.E ((n:Int) - 1) V (AW (Pf _ _ _ _) ?_);refine Aw ?_;simp at h;simp;omega
 .intro c O;refine CG (λh=>Aw ?_) (λh=>?_);have:=O.1 h;constructor;intro h;cases h;intro h;omega
  have Z:¬¬_:=λk=>h (O.2 k);refine CG (λU=>Aw ?_) (λU=>?_);constructor;intro h;cases h;intro h;omega
  refine AW (Pf _ _ _ _) (CG (λK=>Aw ?_) (λK=>Aw ?_));simp at K;constructor;intro h;cases h;intro h;omega;simp at K;constructor;intro h;omega;intro h;rfl
theorem gv{F n:Nat}(K:n<1000):AI (f88 F (n:Int) d 9) (λr=>r=0↔VD n d):=Xg K
theorem Nm{F:Nat}(Y:100<F)(h:NV 40 o):AI (f48 F o) (λr=>r=0↔VO o):=by
 unfold f48;have Z:=h.l1;have ac:=h.l2;refine CG (λg=>Aw (tk (by decide) λv=>by have:=v.n2;omega)) (λg1=>?_);refine CG (λg=>Aw (tk (by decide) λv=>by have:=v.n5;omega)) (λg2=>?_);refine Bv (S:=λq=>(∃e,q=Sum.inl e/\e≠0/\¬∀x∈o.1,CS x)∨(q=Sum.inr ()/\∀x∈o.1,CS x)) ?_ ?_
 .refine CQ o.1.length (λi s=>s=(i:Int)/\∀x∈o.1.take i,CS x) ⟨V,by simp⟩ (by omega) ?_ ?_
  .rintro i s hi ⟨rfl,K⟩;unfold Ms;refine BW (by omega) (Cf (m:=i) V hi ?_);have ag:=h.n1 _ (no hi);refine CG (λg=>Aw (.inl ⟨_,V,by decide,λk=>by have:=(k _ (no hi)).1;omega⟩)) (λai=>?_);refine Bv (S:=λq=>(q=Sum.inl 1/\¬CS o.1[i])∨(q=Sum.inr ()/\CS o.1[i])) ?_ ?_
   .refine CQ o.1[i].length (λj s=>s=(j:Int)/\∀c∈o.1[i].take j,1<=c/\c<=9) ⟨V,by simp⟩ (by omega) ?_ ?_
    .rintro j s hj ⟨rfl,O⟩;unfold Mr;refine Cf (m:=i) V hi (BW (by omega) ?_);refine Cf (m:=i) V hi (Cf (m:=j) V hj ?_);refine AW (Pf _ _ _ _) (CG (λg=>Aw (.inl ⟨V,λk=>?_⟩)) (λg=>?_));have:=k.2 _ (no hj);simp at g;omega
     refine AI.E ((j+1:Nat):Int) (by simp) (Aw ⟨V,J9 hj O ?_⟩);simpa using g
    .rintro s ⟨rfl,O⟩;unfold Mr;refine Cf (m:=i) V hi ?_;rw[ra] at O;exact BT (by omega) (Aw ⟨_,V,.inr ⟨V,by omega,O⟩⟩)
   .rintro q (⟨rfl,g⟩ | ⟨rfl,g⟩);rw[Sum.elim_inl];exact Aw (.inl ⟨_,V,by decide,λk=>g (k _ (no hi))⟩);rw[Sum.elim_inr];exact AI.E ((i+1:Nat):Int) (by simp) (Aw ⟨V,J9 hi K g⟩)
  .rintro s ⟨rfl,K⟩;unfold Ms;rw[ra] at K;exact BT (by omega) (Aw ⟨_,V,.inr ⟨V,K⟩⟩)
 .rintro q (⟨e,rfl,he,g⟩ | ⟨rfl,O⟩);rw[Sum.elim_inl];exact Aw (tk he λv=>g v.cs);rw[Sum.elim_inr];refine CG (λg=>Aw (tk (by decide) λv=>by have:=v.d8;omega)) (λg2=>?_);refine Bv (S:=λq=>(∃e,q=Sum.inl e/\e≠0/\¬∀d∈o.2,VD o.1.length d)∨(q=Sum.inr ()/\∀d∈o.2,VD o.1.length d)) ?_ ?_;refine CQ o.2.length (λi s=>s=(i:Int)/\∀d∈o.2.take i,VD o.1.length d) ⟨V,by simp⟩ (by omega) ?_ ?_;rintro i s hi ⟨rfl,K⟩;unfold Pm;refine BW (by omega) (Cf (m:=i) V hi ?_);refine Bv (gv (by omega)) ?_;intro x U;refine CG (λg=>Aw (.inl ⟨_,V,g,λk=>g (U.2 (k _ (no hi)))⟩)) (λg=>?_);exact AI.E ((i+1:Nat):Int) (by simp) (Aw ⟨V,J9 hi K (U.1 (th.1 g))⟩);rintro s ⟨rfl,K⟩;unfold Pm;rw[ra] at K;exact BT (by omega) (Aw ⟨_,V,.inr ⟨V,K⟩⟩);rintro q (⟨e,rfl,he,g⟩ | ⟨rfl,g⟩);rw[Sum.elim_inl];exact Aw (tk he λv=>g v.ds);rw[Sum.elim_inr];exact Aw (uL V ⟨by omega,by omega,O,by omega,g⟩)
theorem ga{F:Nat}(K:100<F)(h:NV 40 o):AI (f47 F o) (λr=>r=0↔VO o):=WT F o▸Nm K h
theorem iE{F:Nat}(K:100<F)(h:VO o):f47 F o=some 0:=by
 let⟨r,O,U⟩:=ga K h.nv;rw[O,U.2 h]
theorem Sc{F:Nat}(K:100<F)(h:VO o):f70 F o []=some (o,0):=by
 obtain⟨F,rfl⟩:∃k,F=k+1:=⟨F - 1,by omega⟩;unfold f70;rw[iE K h]
 rfl
theorem aK(a n:Int):a%n=(a - n)%n:=by
 have h:a=(a - n)+n*1:=by omega
 conv=>lhs;rw[h]
 exact Int.add_mul_emod_self_left _ _ _
variable{b:Hq}
theorem fp{F k n:Nat}(hb:BG k b)(am:k<900000)(ap:2<=n)(aq:n<900):AI (f40 F b (n:Int)) (λr=>VD n r.1/\BG (k+4) r.2):=by
 unfold f40;refine AI.E ((n:Int) - 1) V (Bv (Kb hb (by omega) (by omega)) ?_);rintro⟨x,aw⟩ ⟨g1,g2,O⟩;simp only at g1 g2 O ⊢;refine Bv (RS O (by omega) (by omega) (by omega) (by omega)) ?_;rintro⟨x2,a0⟩ ⟨a1,ai,U⟩;simp only at a1 ai U ⊢;refine Bv (WI U (by omega) (by simp) (by simp)) ?_;rintro⟨Y,a2⟩ ⟨Z,ac⟩;simp only at Z ac ⊢;refine AI.E ((n:Int) - 1) V (Bv (RS ac (by omega) (by omega) (by omega) (by omega)) ?_);rintro⟨K,a3⟩ ⟨aj,al,ag⟩;simp only at aj al ag ⊢;refine AI.E (x+K) V (AW (b:=(x+K).tmod n) (by unfold Qq;rw[d7 (by omega)]) ?_);refine Aw ⟨?_,ag⟩;have e:(x+K).tmod n=(x+K)%n:=Int.tmod_eq_emod_of_nonneg (by omega);have p3:1<=Y/\Y<=9:=by
  simp only[fP,qG,rq] at Z;omega
 have a4:(x+K)%(n:Int)<n:=Int.emod_lt_of_pos _ (by omega);have a5:0<=(x+K)%(n:Int):=Int.emod_nonneg _ (by omega);have a6:x≠(x+K)%(n:Int):=by
  rcases Int.lt_or_le (x+K) n with h | h;rw[Int.emod_eq_of_lt (by omega) h];omega;rw[aK,Int.emod_eq_of_lt (by omega) (by omega)];omega
 refine⟨g1,?_,?_,?_,?_,p3.1,p3.2⟩<;>simp only[e]<;>omega
theorem dZ{F k pm dm:Nat}(a4:100<F)(hb:BG k b)(a5:k<1000)(a6:2<=pm)(a7:pm<=5)(hd:dm<=8):AI (f31 F b pm dm) (λr=>VO r.1/\r.1.1.length<=pm/\r.1.2.length<=dm/\BG (k+100) r.2):=by
 unfold f31;refine Bv (RS hb (by omega) (by omega) (by omega) (by omega)) ?_;rintro⟨n,a8⟩ ⟨n1,n2,g1⟩;simp only at n1 n2 g1 ⊢;obtain⟨n,rfl⟩:∃m:Nat,n=(m:Int):=⟨n.toNat,by omega⟩;refine Bv (WJ g1 (by omega) (by omega) (by omega)) ?_;rintro⟨a9,bb⟩ g2;simp only at g2 ⊢;refine Bv (S:=λr=>r.2.2.2.length=n/\(∀x∈r.2.2.2,CS x)/\BG (k+30) (r.1,r.2.1,r.2.2.1)) ?_ ?_;refine CQ n (λi s=>s.2.2.2.2=(i:Int)/\s.1.length=i/\(∀x∈s.1,CS x)/\BG (k+2+5*i) (s.2.1,s.2.2.1,s.2.2.2.1)) ⟨V,V,by simp,g2⟩ (by omega) ?_ ?_;rintro i ⟨ps,l,t,ag,c⟩ hi ⟨ai,aj,al,K⟩;simp only at ai aj al K;subst ai;unfold Pd;refine BW (by simp only;omega) (Bv (Kb K (by omega) (by omega)) ?_);rintro⟨c,be⟩ ⟨c1,c2,am⟩;simp only at c1 c2 am ⊢;obtain⟨c,rfl⟩:∃m:Nat,c=(m:Int):=⟨c.toNat,by omega⟩;refine Bv (S:=λr=>CS r.1/\BG (k+2+5*i+1+c) r.2) ?_ ?_;refine CQ c (λj s=>s.2.2.2.2=((c - j:Nat):Int)/\s.2.2.2.1.length=j/\(∀v∈s.2.2.2.1,1<=v/\v<=9)/\BG (k+2+5*i+1+j) (s.1,s.2.1,s.2.2.1)) ⟨V,V,by simp,am⟩ (by omega) ?_ ?_;rintro j ⟨l,t,ag,w,z⟩ hj ⟨U,hw,O,K⟩;simp only at U hw O K;subst U;unfold Pg;refine BW (by simp only;omega) (Bv (S:=λr=>r.1.length=j+1/\(∀v∈r.1,1<=v/\v<=9)/\BG (k+2+5*i+1+(j+1)) r.2) ?_ ?_);refine CG (λ_=>?_) (λ_=>?_);refine IW (by simp only;omega) (Aw ⟨by simp[hw],?_,K.Ag (by omega)⟩);intro v h;rcases ik.1 h with h | h;exact O v h;have:=aX.1 h;omega;refine Bv (WI K (by omega) (by simp) (by simp)) ?_;rintro⟨v,a3⟩ ⟨aw,ap⟩;simp only at aw ap ⊢;refine IW (by omega) (Aw ⟨by simp[hw],?_,ap⟩);intro u h;rcases ik.1 h with h | h;exact O u h;have:=aX.1 h;subst this;simp only[fP,qG,rq] at aw;omega;rintro⟨w',l',bg,bi⟩ ⟨Z,aq,ac⟩;simp only at Z ac aq ⊢;exact AI.E ((c - (j+1):Nat):Int) (by omega) (Aw ⟨V,Z,aq,ac⟩);rintro⟨l,t,ag,w,z⟩ ⟨U,hw,O,K⟩;simp only at U hw O K;subst U;unfold Pg;exact BT (by simp) (Aw ⟨_,V,⟨by simp only;omega,O⟩,K⟩);rintro⟨w,a3⟩ ⟨Z,ac⟩;simp only at Z ac ⊢;refine IW (by omega) (AI.E ((i+1:Nat):Int) (by simp) ?_);refine Aw ⟨V,by simp[aj],λx Y=>?_,ac.Ag (by omega)⟩;simp only[ik,aX] at Y;rcases Y with Y | rfl;exact al x Y;exact Z;rintro⟨ps,l,t,ag,c⟩ ⟨ai,aj,al,K⟩;simp only at ai aj al K;subst ai;unfold Pd;exact BT (by simp) (Aw ⟨_,V,aj,al,K.Ag (by omega)⟩);rintro⟨l,t,ag,ps⟩ ⟨p1,p2,am⟩;simp only at p1 p2 am ⊢;refine Bv (Kb am (by omega) (by omega)) ?_;rintro⟨c,bo⟩ ⟨c1,c2,ap⟩;simp only at c1 c2 ap ⊢;obtain⟨c,rfl⟩:∃m:Nat,c=(m:Int):=⟨c.toNat,by omega⟩;refine Bv (S:=λr=>r.2.2.2.length<=dm/\(∀d∈r.2.2.2,VD n d)/\BG (k+100) (r.1,r.2.1,r.2.2.1)) ?_ ?_;refine CQ c (λj s=>s.2.2.2.2=((c - j:Nat):Int)/\s.1.length=j/\(∀d∈s.1,VD n d)/\BG (k+31+4*j) (s.2.1,s.2.2.1,s.2.2.2.1)) ⟨V,V,by simp,ap.Ag (by omega)⟩ (by omega) ?_ ?_;rintro j ⟨a0,l,t,ag,z⟩ hj ⟨U,hw,O,K⟩;simp only at U hw O K;subst U;unfold Pe;refine BW (by simp only;omega) (Bv (fp K (by omega) (by omega) (by omega)) ?_);rintro⟨d,bv⟩ ⟨a1,a2⟩;simp only at a1 a2 ⊢;refine AI.LM (by simp;omega) (AI.E ((c - (j+1):Nat):Int) (by omega) ?_);refine Aw ⟨V,by simp[hw],?_,a2.Ag (by omega)⟩;intro x Y;rcases ik.1 Y with Y | Y;exact O x Y;cases aX.1 Y;exact a1;rintro⟨a0,l,t,ag,z⟩ ⟨U,hw,O,K⟩;simp only at U hw O K;subst U;unfold Pe;exact BT (by simp) (Aw ⟨_,V,by simp only;omega,O,K.Ag (by omega)⟩);rintro⟨l,t,ag,a0⟩ ⟨Z,aq,ac⟩;simp only at Z ac aq ⊢;exact Aw ⟨⟨by simp only;omega,by simp only;omega,p2,by simp only;omega,by simp only;rw[p1];exact aq⟩,by simp only;omega,Z,ac⟩
inductive Ge (P:List DT):Nat->CF->List Int->Prop
 | nil {dn:Nat}{C:CF}:dn=2^P.length - 1->Ge P dn C []
 | cons {dn i:Nat}{C K:CF}{d:DT}{O:List Int}:P[i]?=some d->dn.testBit i=false->EK C d K->Ge P (dn|||2^i) K O->Ge P dn C ((i:Int)::O)
def Ends(P:List DT)(dn:Nat)(C:CF):Prop:=∃K,Ge P dn C K
variable{dn:Nat}
theorem Ends.cases{P:List DT}(h:Ends P dn C)(O:dn≠2^P.length - 1):∃(i:Nat) (d:DT) (K:CF),P[i]?=some d/\dn.testBit i=false/\EK C d K/\Ends P (dn|||2^i) K:=by
 obtain⟨U,h⟩:=h;cases h with
 | nil e=>exact absurd e O
 | cons a b c d=>exact⟨_,_,_,a,b,c,_,d⟩
theorem OD(h:i<8):Jb (i:Int)=some (2^i):=by
 unfold Jb;rw[d0 (by omega),rk,Nat.one_shiftLeft,Nat.mod_eq_of_lt];exact rz (s4 (by omega) h) (by decide)
theorem UL(h:i<8):Mz dn (i:Int)=some (dn>>>i):=by unfold Mz;rw[d0 (by omega),rk]
variable{m:Nat}
theorem O7(h:m<=8):2^m<=256:=q8 (rv (by omega) h) (by decide)
theorem Ue(hm:m<=8)(h:dn<2^m):MC (dn>>>i) 1=some (if dn.testBit i=true then 1 else 0):=by
 have K:dn>>>i<=dn:=by rw[s0];exact Nat.div_le_self _ _
 have O:=O7 hm;unfold MC;rw[d0 (by omega),Nat.and_one_is_mod];congr 1;rw[Nat.testBit_eq_decide_div_mod_eq,s0];have:=tJ (dn/2^i) (show 0<2 by omega);by_cases q:dn/2^i%2=1;rw[d0 (qR q),q];rw[d7 (by simpa using q)];omega
theorem OK(hm:m<=8)(h:dn<2^m)(hi:i<m):LA dn (2^i)=some (dn|||2^i)/\dn|||2^i<2^m:=by
 have O:=O7 hm;have K:2^i<2^m:=s4 (by omega) hi;exact⟨d0 (by omega),tg h K⟩
theorem V4(dn i j:Nat):(dn|||2^i).testBit j=(dn.testBit j || decide (i=j)):=by rw[uB,ts]
theorem Xj(h:dn.testBit i=false):dn<dn|||2^i:=by
 rcases Nat.lt_or_eq_of_le (show dn<=dn|||2^i from Nat.left_le_or) with q | q;exact q;have:=V4 dn i i;rw[← q,h] at this;simp at this
variable {F n:Nat}{L:List Nat}{P:List DT}
structure SX (F n:Nat) (L:List Nat) (P:List DT):Prop where
 n5:n<=5
 LS:L.length<=15
 m8:P.length<=8
 ok:∀d∈P,VT n d
 fuel:5^16<F
def Gc(n:Nat)(L:List Nat)(P:List DT)(sm:List ((Nat×List (List Int))×Bool)):Prop:=∀dn X b,Bn sm (dn,X)=some b->∀p,SP n L p->Fs (AJ p)=X->(b=true↔Ends P dn (AJ p))
theorem SX.Qh(h:SX F n L P):100<F:=Nat.lt_trans (by decide) h.fuel
theorem dK(ag:SX F n L P):∀(N dn:Nat) (p:PU) (sm:List ((Nat×List (List Int))×Bool)),256<N+dn->dn<2^P.length->SP n L p->Gc n L P sm->
  AI (Nq N F p dn P sm) (λr=>(r.1=true↔Ends P dn (AJ p))/\Gc n L P r.2):=by
 have hm:=ag.m8;have co:=O7 hm;have bw:=ag.Qh;intro N
 induction N with
 | zero=>intro dn p sm Y ai;omega
 | succ N bx=>
  intro dn p sm cp a8 aw a0;unfold Nq PC;have b0:Jb ((P.length:Nat):Int)=some (2^P.length%256):=by
   unfold Jb;rw[d0 (by omega),rk,Nat.one_shiftLeft]
  refine AW b0 ?_;have ct:1<=2^P.length:=Nat.one_le_two_pow;have b1:(2^P.length%256+(256 - 1))%256=2^P.length - 1:=by omega
  rw[b1];refine CG (λa1=>Aw ⟨uL V ⟨[],.nil (by omega)⟩,a0⟩) (λa1=>?_);have a1:dn≠2^P.length - 1:=λe=>a1 (by rw[e]);refine AW (U9 ag.n5 aw) (CG (λY=>?_) (λY=>?_));let⟨b,hb⟩:=tA.1 Y;rw[hb];exact Aw ⟨a0 _ _ _ hb p aw V,a0⟩
  .have b2:Bn sm (dn,Fs (AJ p))=none:=by
    cases q:Bn sm (dn,Fs (AJ p)) with
    | none=>rfl
    | some b=>rw[q] at Y;exact absurd rfl Y
   rw[b2];refine Bv (S:=λr=>(r.1=true↔Ends P dn (AJ p))/\Gc n L P r.2) ?_ ?_
   .refine CQ P.length (λi s=>s.2.2=(i:Int)/\Gc n L P s.1/\(s.2.1=true->Ends P dn (AJ p))/\(s.2.1=false->∀j<i,∀d O,P[j]?=some d->dn.testBit j=false->EK (AJ p) d O->¬Ends P (dn|||2^j) O)) ⟨V,a0,(λh=>by cases h),(λ_ j hj=>by omega)⟩ (by omega) ?_ ?_
    .rintro i ⟨a9,is,z⟩ hi ⟨Z,aj,am,al⟩;simp only at Z aj am al;subst Z;have hd:=ag.ok _ (no hi);let⟨b3,b4⟩:=OK hm a8 hi;unfold O2;refine BW (by simp only;omega) (Bv (S:=λr=>Gc n L P r.2/\(r.1=true->Ends P dn (AJ p))/\(r.1=false->∀j<i+1,∀d O,P[j]?=some d->dn.testBit j=false->EK (AJ p) d O->¬Ends P (dn|||2^j) O)) ?_ ?_)
     .refine Cf (m:=i) V hi (AW (UL (by omega)) ?_);refine AW (Ue hm a8) (Bv (S:=λc=>c=(dn.testBit i || is)) ?_ ?_)
      .cases hb:dn.testBit i with
       | true=>exact BW (by simp) (Aw rfl)
       | false=>exact BT (by simp) (Aw rfl)
      rintro c rfl;refine CG (λK=>Aw ⟨aj,am,λbb j hj d O Y ai a2=>?_⟩) (λK=>?_)
      .rw [show is=false from bb,Bool.or_false] at K;rcases f7 j i with a3 | b5;exact al bb j a3 d O Y ai a2
       .obtain rfl:j=i:=by omega
        rw[K] at ai;cases ai
      .have hb:dn.testBit i=false:=by cases q:dn.testBit i;rfl;rw[q] at K;exact absurd V K
       have a4:is=false:=by cases q:is;rfl;rw[q,Bool.or_true] at K;exact absurd V K
       subst a4;refine Bv (Vn (d:=P[i]) ag.n5 ag.LS hd bw aw) ?_;rintro l ⟨l1,l2,b6⟩;refine Bv (S:=λr=>Gc n L P r.2/\(r.1=true->Ends P dn (AJ p))/\(r.1=false->∀q∈l,¬Ends P (dn|||2^i) (AJ q))) ?_ ?_
       .have ca:l.length<F:=sS l1 (Nat.lt_trans (by decide) ag.fuel);have cw:(2:Nat)^15=32768:=by decide
        refine CQ l.length (λk s=>s.2.2=(k:Int)/\Gc n L P s.1/\(s.2.1=true->Ends P dn (AJ p))/\(s.2.1=false->∀q∈l.take k,¬Ends P (dn|||2^i) (AJ q))) ⟨V,aj,(λh=>by cases h),(λ_ q a5=>by cases a5)⟩ ca ?_ ?_;rintro k ⟨be,bg,z⟩ a6 ⟨Z,t1,t2,t3⟩;simp only at Z t1 t2 t3;subst Z;let⟨sq,pv⟩:=l2 _ (no a6);unfold Oz;refine BW (by simp only;omega) (Cf (m:=k) V a6 ?_);refine Bv (S:=λr=>Gc n L P r.2/\(r.1=true->Ends P dn (AJ p))/\(r.1=false->∀q∈l.take (k+1),¬Ends P (dn|||2^i) (AJ q))) ?_ ?_;refine CG (λK=>Aw ⟨t1,(λ_=>t2 K),(λh=>by cases h)⟩) (λK=>?_);have K:bg=false:=sY.2 K;refine AW (OD (by omega)) (AW b3 ?_);have cy:=Xj hb;refine Bv (bx (dn|||2^i) l[k] be (by omega) b4 sq t1) ?_;rintro⟨b,a7⟩ ⟨U,ac⟩;refine Aw ⟨ac,λh=>?_,λh=>?_⟩;let⟨c0,cc⟩:=U.1 h;exact⟨_,.cons (bI hi) hb pv cc⟩;refine J9 a6 (t3 K) λhe=>?_;have:=U.2 he;simp only at h this;rw[this] at h;cases h;rintro⟨b,a7⟩ ⟨U,ac,ap⟩;exact AI.E ((k+1:Nat):Int) (by simp) (Aw ⟨V,U,ac,ap⟩);rintro⟨be,bg,z⟩ ⟨Z,t1,t2,t3⟩;simp only at Z t1 t2 t3;subst Z;unfold Oz;rw[ra] at t3;exact BT (by simp only;omega) (Aw ⟨_,V,t1,t2,t3⟩)
       .rintro⟨b,a7⟩ ⟨U,ac,ap⟩;refine Aw ⟨U,ac,λh j hj d O Y ai a2=>?_⟩;rcases f7 j i with a3 | b5;exact al V j a3 d O Y ai a2
        .obtain rfl:j=i:=by omega
         rw[bI hi] at Y;cases Y;let⟨q,a5,e⟩:=b6 O a2;rw[← e];exact ap h q a5
     .rintro⟨b,a7⟩ ⟨U,ac,ap⟩;exact AI.E ((i+1:Nat):Int) (by simp) (Aw ⟨V,U,ac,ap⟩)
    .rintro⟨a9,is,z⟩ ⟨Z,aj,am,al⟩;simp only at Z aj am al;subst Z;unfold O2;refine BT (by simp only;omega) (Aw ⟨_,V,⟨am,λhe=>?_⟩,aj⟩);simp only;cases a4:is with
     | true=>rfl
     | false=>
      let⟨i,d,O,bi,e2,ce,ci⟩:=he.cases a1;exact absurd ci (al a4 i (dY.1 bi).1 d O bi e2 ce)
   .rintro⟨b,a9⟩ ⟨U,ac⟩;refine Aw ⟨U,λc1 X b' aq ck bo bv=>?_⟩;simp only at aq U;rw[KB] at aq;split at aq;rename_i e;cases aq;cases e;rw[Wb ag.n5 bo aw bv];exact U;exact ac _ _ _ aq ck bo bv
theorem cF(U:SX F n L P)(ac:dn<2^P.length){l:List PU}(ap:l.length<=5^15)(ag:∀q∈l,SP n L q){sm:List ((Nat×List (List Int))×Bool)}(ai:Gc n L P sm):
  AI (f160 F l dn P sm) (λr=>Gc n L P r.2/\r.1.length<=l.length/\(∀q∈r.1,q∈l/\Ends P dn (AJ q))/\∀q∈l,Ends P dn (AJ q)->q∈r.1):=by
 have aq:(5:Nat)^15=30517578125:=by decide
 have aw:(5:Nat)^16=152587890625:=by decide
 have a0:=U.fuel;unfold f160;refine Bv (S:=λr=>Gc n L P r.2/\r.1.length<=l.length/\(∀q∈r.1,q∈l/\Ends P dn (AJ q))/\∀q∈l,Ends P dn (AJ q)->q∈r.1) ?_ (λr aj=>Aw aj);refine CQ l.length (λi s=>s.2.2=(i:Int)/\Gc n L P s.1/\s.2.1.length<=i/\(∀q∈s.2.1,q∈l/\Ends P dn (AJ q))/\∀q∈l.take i,Ends P dn (AJ q)->q∈s.2.1) ⟨V,ai,rl _,(λq K=>by cases K),(λq K=>by cases K)⟩ (by omega) ?_ ?_;rintro i ⟨Y,out,z⟩ hi ⟨O,t1,t2,t3,t4⟩;simp only at O t1 t2 t3 t4;subst O;unfold OO;refine BW (by simp only;omega) (Cf (m:=i) V hi ?_);refine Bv (dK U F dn l[i] Y (by omega) ac (ag _ (no hi)) t1) ?_;rintro⟨b,a1⟩ ⟨Z,al⟩;refine Bv (S:=λs=>s.length<=i+1/\(∀q∈s,q∈l/\Ends P dn (AJ q))/\∀q∈l.take (i+1),Ends P dn (AJ q)->q∈s) ?_ ?_;refine CG (λhb=>?_) (λhb=>Aw ⟨by simp only;omega,t3,?_⟩);refine IW (by simp only;omega) (Aw ⟨by show(out++ [_]).length<=i+1;rw[qT,r9];omega,λq K=>?_,?_⟩);rcases ik.1 K with K | K;exact t3 q K;cases aX.1 K;exact⟨no hi,Z.1 hb⟩;exact J9 hi (λq K he=>rt _ (t4 q K he)) λ_=>rm _ (aX.2 V);exact J9 hi t4 λhe=>absurd (Z.2 he) hb;rintro s ⟨v1,v2,am⟩;exact AI.E ((i+1:Nat):Int) (by simp) (Aw ⟨V,al,v1,v2,am⟩);rintro⟨Y,out,z⟩ ⟨O,t1,t2,t3,t4⟩;simp only at O t1 t2 t3 t4;subst O;unfold OO;rw[ra] at t4;exact BT (by simp only;omega) (Aw ⟨_,V,t1,t2,t3,t4⟩)
theorem cu(Y:SX F n L P)(hd:VT n d){now:List PU}(a3:now.length<=5^15)(ac:∀q∈now,SP n L q):
  AI (f161 F now d) (λout=>out.length<=5^15/\(∀q∈out,SP n L q/\∃p∈now,EK (AJ p) d (AJ q))/\∀p∈now,∀K,EK (AJ p) d K->∃q∈out,AJ q=K):=by
 have a4:(5:Nat)^15=30517578125:=by decide
 have a5:(5:Nat)^16=152587890625:=by decide
 have a6:(2:Nat)^15=32768:=by decide
 have a7:=Y.fuel;have aj:∀{out:List PU},(∀q∈out,SP n L q)->(out.map λq=>Fs (AJ q)).Nodup->out.length<=5^15:=λa b=>jI Y.n5 Y.LS a b;unfold f161;refine Bv (S:=λr=>r.1.length<=5^15/\(∀q∈r.1,SP n L q/\∃p∈now,EK (AJ p) d (AJ q))/\∀p∈now,∀K,EK (AJ p) d K->∃q∈r.1,AJ q=K) ?_ (λr al=>Aw al);refine CQ now.length (λi s=>s.2.2=(i:Int)/\(∀X,(Bn s.1 X).getD false=true↔X∈s.2.1.map λq=>Fs (AJ q))/\(s.2.1.map λq=>Fs (AJ q)).Nodup/\(∀q∈s.2.1,SP n L q/\∃p∈now,EK (AJ p) d (AJ q))/\∀p∈now.take i,∀K,EK (AJ p) d K->∃q∈s.2.1,AJ q=K)
  ⟨rfl,(λX=>by simp[Bn]),t6,(λq O=>by cases O),(λp ac=>by cases ac)⟩ (by omega) ?_ ?_
 .rintro i ⟨met,out,z⟩ hi ⟨U,t1,t2,t3,t4⟩;simp only at U t1 t2 t3 t4;subst U;unfold O0;refine BW (by simp only;omega) (Cf (m:=i) V hi ?_);refine Bv (Vn Y.n5 Y.LS hd Y.Qh (ac _ (no hi))) ?_;rintro l ⟨l1,l2,am⟩;refine Bv (S:=λs=>(∀X,(Bn s.2 X).getD false=true↔X∈s.1.map λq=>Fs (AJ q))/\(s.1.map λq=>Fs (AJ q)).Nodup/\(∀q∈s.1,SP n L q/\∃p∈now,EK (AJ p) d (AJ q))/\(∀p∈now.take i,∀K,EK (AJ p) d K->∃q∈s.1,AJ q=K)/\∀q∈l,∃u∈s.1,AJ u=AJ q) ?_ ?_
  .refine CQ l.length (λk s=>s.2.2=(k:Int)/\(∀X,(Bn s.1 X).getD false=true↔X∈s.2.1.map λq=>Fs (AJ q))/\(s.2.1.map λq=>Fs (AJ q)).Nodup/\(∀q∈s.2.1,SP n L q/\∃p∈now,EK (AJ p) d (AJ q))/\(∀p∈now.take i,∀K,EK (AJ p) d K->∃q∈s.2.1,AJ q=K)/\∀q∈l.take k,∃u∈s.2.1,AJ u=AJ q)
    ⟨rfl,t1,t2,t3,t4,(λq O=>by cases O)⟩ (by omega) ?_ ?_
   .rintro k ⟨met,out,z⟩ Z ⟨U,t1,t2,t3,t4,t5⟩;simp only at U t1 t2 t3 t4 t5;subst U;let⟨sq,pv⟩:=l2 _ (no Z);have a8:=aj (λq O=>(t3 q O).1) t2;unfold OE;refine BW (by simp only;omega) (Cf (m:=k) V Z ?_);refine AW (U9 Y.n5 sq) (Bv (S:=λs=>(∀X,(Bn s.2 X).getD false=true↔X∈s.1.map λq=>Fs (AJ q))/\(s.1.map λq=>Fs (AJ q)).Nodup/\(∀q∈s.1,SP n L q/\∃p∈now,EK (AJ p) d (AJ q))/\(∀p∈now.take i,∀K,EK (AJ p) d K->∃q∈s.1,AJ q=K)/\∀q∈l.take (k+1),∃u∈s.1,AJ u=AJ q) ?_ ?_)
    .refine CG (λhb=>?_) (λhb=>Aw ⟨t1,t2,t3,t4,?_⟩)
     .have ap:Fs (AJ l[k]) ∉ out.map λq=>Fs (AJ q):=λh=>by
       rw[(t1 _).2 h] at hb;cases hb
      refine IW (by simp only;omega) (Aw ⟨λX=>?_,?_,λq O=>?_,λp aq K hC=>?_,?_⟩);simp only;rw[KB,ru,ik,List.map_singleton,aX,← t1];by_cases e:X=Fs (AJ l[k]);rw[d0 e];simp[e];rw[d7 e];simp[e];simp only;rw[ru,rS];refine⟨t2,by simp,λa aw b hb e=>?_⟩;cases aX.1 hb;subst e;exact ap aw;rcases ik.1 O with O | O;exact t3 q O;cases aX.1 O;exact⟨sq,_,no hi,pv⟩;let⟨q,O,e⟩:=t4 p aq K hC;exact⟨q,rt _ O,e⟩;refine J9 Z (λq O=>?_) ⟨_,rm _ (aX.2 V),V⟩;let⟨u,hu,e⟩:=t5 q O;exact⟨u,rt _ hu,e⟩
     .refine J9 Z t5 ?_;have a0:Fs (AJ l[k])∈out.map λq=>Fs (AJ q):=(t1 _).1 (by
       cases q:(Bn met (Fs (AJ l[k]))).getD false with
       | true=>rfl
       | false=>rw[q] at hb;exact absurd rfl hb)
      let⟨u,hu,e⟩:=q9.1 a0;exact⟨u,hu,Wb Y.n5 (t3 u hu).1 sq e⟩
    .rintro⟨a1,a2⟩ ⟨v1,v2,ag,v4,ai⟩;exact AI.E ((k+1:Nat):Int) (by simp) (Aw ⟨V,v1,v2,ag,v4,ai⟩)
   .rintro⟨met,out,z⟩ ⟨U,t1,t2,t3,t4,t5⟩;simp only at U t1 t2 t3 t4 t5;subst U;unfold OE;rw[ra] at t5;exact BT (by simp only;omega) (Aw ⟨_,V,t1,t2,t3,t4,t5⟩)
  .rintro⟨a1,a2⟩ ⟨v1,v2,ag,v4,ai⟩;refine AI.E ((i+1:Nat):Int) (by simp) (Aw ⟨V,v1,v2,ag,J9 hi v4 λK hC=>?_⟩);let⟨q,O,e⟩:=am K hC;let⟨u,hu,e2⟩:=ai q O;exact⟨u,hu,e2.trans e⟩
 .rintro⟨met,out,z⟩ ⟨U,t1,t2,t3,t4⟩;simp only at U t1 t2 t3 t4;subst U;unfold O0;rw[ra] at t4;exact BT (by simp only;omega) (Aw ⟨_,V,aj (λq O=>(t3 q O).1) t2,t3,t4⟩)
end Pal
