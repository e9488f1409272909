/- DebtCircle: a circle goes from each person to one to whom they have a debt: a part (5 of 9) of the proof of its row. -/
import Derived.Test.YtmeophcclkejkaaGreatCca
import Derived.Test.YtmeophcclkejkaaGreatCcb
import Derived.Test.YtmeophcclkejkaaGreatCcc
import Derived.Test.YtmeophcclkejkaaGreatCcd
set_option linter.all false
set_option maxRecDepth 100000
namespace Pal
open Go Go.Conc Go.Conc.Lib Go.Proofs Go.ConcR.Gen
theorem JL.uA{J:Judge Tryz.prog}{F:Fam}{Q:GP}{b:Frame}{n:Nat}{L:Env}{ds:Ld_}{k:Li_}{cs:Lf_}{s:St}{ops:Ao_}{i:Nat}{rest:List Nat}{d:Option Tmp}{x:Operand}{ty:TypeId}{p:String}{af:Ae_}{g:On_}(K:Ft b n L ops i=some ⟨d,.fieldAddr 140 x 0,ty,p,af,g⟩)(O:ev L x=some (.pointer (some F.uA)))(h:JL J Q b n (As L d (.pointer (some F.uA))) ds (.inRegion ops rest::k) cs s):JL J Q b n L ds (.inRegion ops (i::rest)::k) cs s:=Am K (λρ h=>Fa (a:=F.uA) 0 0 Tryz.underlying140 (AU Tryz.type21) V V V (h _ _ O)) h
theorem aH{P:Program}{J:Judge P}{Q:GP}{n:Nat}{L:Env}{ds:Ld_}{c:Code}{k:Li_}{cs:Lf_}{s:St}{b:Frame}(h:∀K,K=k->JL J Q b n L ds (.code c::K) cs s):JL J Q b n L ds (.code c::k) cs s:=h _ V
theorem Uk{P:Program}{J:Judge P}{Q:GP}{n:Nat}{L:Env}{ds:Ld_}{k:Li_}{cs:Lf_}{s:St}{b:Frame}(h:∀K,K=k->JL J Q b n L ds K cs s):JL J Q b n L ds k cs s:=h _ V
theorem Ip:(Tryz.prog.funcs[189]?).any (·.norace)=true:=by rw [Tryz.func189];rfl
theorem bK:(Tryz.prog.funcs[163]?).any (·.norace)=true:=by rw [Tryz.func163];rfl
theorem aV:(Tryz.prog.funcs[191]?).any (·.norace)=true:=by rw [Tryz.func191];rfl
theorem Qi:(Tryz.prog.funcs[211]?).any (·.norace)=true:=by rw [Tryz.func211];rfl
theorem PE:(Tryz.prog.info? 140).map (λi=>decide (i.size=0))=some false:=(congrArg (Option.map (λi=>decide (i.size=0))) Tryz.type140).trans V
abbrev G2:=Bool×Bool×Nat×M4×Int
def Uo(a:G2):Prop:=(a.2.1=true->a.2.2.2.1.k=true)/\a.2.2.1<=4/\C7 a.2.2.2.1
def Qr(a:G2):LP:= .Ci a.1 a.2.1 a.2.2.1 a.2.2.2.1
theorem YL{F:Fam}{sv aw:Bool}{it:Nat}{old:M4}{q:Nat}(h:old.l=false/\old.s=false):(mN sv aw old,q,#[Fam.Ca F.uA,Fam.Ey F.uA],some LP.len)∈F.BW (.Ci sv aw it old) old q:=by
 obtain⟨l,k,s,w⟩:=old;obtain⟨K,O⟩:=h;simp only at K O;subst K O;simp [Fam.BW,Fam.FB,mN]
theorem Sk{F:Fam}{sv aw:Bool}{it:Nat}{old:M4}{q:Nat}(h:¬(old.l=false/\old.s=false))(x:LP)(K:x= .Il sv∨x= .Cs sv):(mN sv aw old,q,#[Fam.Ca F.uA,Fam.Ey F.uA],some x)∈F.BW (.Ci sv aw it old) old q:=by
 obtain⟨l,k,s,w⟩:=old;show _∈F.FB _ _ _ _ _ _;unfold Fam.FB;rw [List.mem_append];right;rw [if_pos rfl,if_neg h];cases l <;> cases s <;> simp [mN] at h ⊢ <;> rcases K with rfl | rfl <;> simp
theorem XE{F:Fam}{sv aw:Bool}{it:Nat}{old m:M4}{q:Nat}(h:m≠old):(m,q,#[Fam.Ca F.uA],some (LP.Eo sv aw it))∈F.BW (.Ci sv aw it old) m q:=by
 show _∈F.FB _ _ _ _ _ _;unfold Fam.FB;rw [List.mem_append];right;rw [if_neg h];exact List.mem_singleton.2 V
theorem Yw{F:Fam}{sv:Bool}{it:Nat}{old:M4}{q:Nat}(K:old.l=true/\old.s=false)(O:it<4)(U:old.k=false)(Y:old.w≠0):(({old with k:=true}:M4),q,#[Fam.Ca F.uA,Fam.Ey F.uA],some (LP.Eo sv true (it+1)))∈F.BW (.Ci sv false it old) old q:=by
 show _∈F.FB _ _ _ _ _ _;unfold Fam.FB;rw [List.mem_append];left;rw [if_pos ⟨K.1,K.2,O⟩,if_pos ⟨rfl,U,Y⟩,if_pos rfl];exact List.mem_singleton.2 V
theorem YM{F:Fam}{sv:Bool}{it:Nat}{old m:M4}{q:Nat}(K:old.l=true/\old.s=false)(O:it<4)(U:old.k=false)(Y:old.w≠0)(hm:m≠old):(m,q,#[Fam.Ca F.uA],some (LP.Eo sv false (it+1)))∈F.BW (.Ci sv false it old) m q:=by
 show _∈F.FB _ _ _ _ _ _;unfold Fam.FB;rw [List.mem_append];left;rw [if_pos ⟨K.1,K.2,O⟩,if_pos ⟨rfl,U,Y⟩,if_neg hm];exact List.mem_singleton.2 V
theorem Pu{F:Fam}{sv aw:Bool}{it:Nat}{old m:M4}{q:Nat}(K:old.l=true/\old.s=false)(O:it<4)(U:¬(aw=false/\old.k=false/\old.w≠0)):(m,q,#[],some (LP.Ci sv aw (it+1) m))∈F.BW (.Ci sv aw it old) m q:=by
 show _∈F.FB _ _ _ _ _ _;unfold Fam.FB;rw [List.mem_append];left;rw [if_pos ⟨K.1,K.2,O⟩,if_neg U];exact List.mem_singleton.2 V
theorem G5(m:M4)(h:m.s=true):m={m with l:=m.l || !m.s}:=by
 obtain⟨l,k,s,w⟩:=m;simp only at h;subst h;simp
set_option maxHeartbeats 4000000 in
theorem WC{F:Fam}{n:Nat}{L:Env}{ds:Ld_}{k:Li_}{cs:Lf_}{s:St}{b:Frame}{ops:Ao_}{i:Nat}{rest:List Nat}{d:Option Tmp}{x:Operand}{ats:Array TypeId}{ty:TypeId}{pp:String}{af:Ae_}{g:On_}{kk:Nat}(ac:s.q=false)(cK:ops[i]? =some ⟨d,.call ⟨.value (.func 189),#[x],ats⟩,ty,pp,af,g⟩)(hw:AL L ops ⟨d,.call ⟨.value (.func 189),#[x],ats⟩,ty,pp,af,g⟩=some true)(cM:((b.kind != .early)&&Bb n d)=true)(cN:ev L x=some (.pointer (some F.uA)))
  (h:JL (AS Tryz.prog false) (Stop Tryz.prog F (.lk kk .DJ)) b n (As L d (.tuple #[])) ds (.inRegion ops rest::k) cs s):
  JL (AS Tryz.prog false) (Stop Tryz.prog F (.lk kk (.Eo false false 0))) b n L ds (.inRegion ops (i::rest)::k) cs s:=by
 refine Hc (vs:= [.pointer (some F.uA)]) cK hw cM Tryz.func189 (by decide+kernel) V (by simp [evs,cN]) (Nat.le_of_ble_eq_true V) λb6 back=>C 20 V (JL.uA V V ?_);refine Hd (kk:=kk) (p:= .Eo false false 0) CY.stop ac V V V V V G8 Ip V λca c4 b1=>⟨some (.Ci false false 0 ca),List.mem_singleton.2 V,?_⟩;refine C 3 V (aH λcO cP=>?_);have a1:∀X:Ph->GP,CY Tryz.prog F X->(∀p g s,Stop Tryz.prog F p g s->X p g s)->∀L',look L' 0=some (.pointer (some F.uA))->JL (AS Tryz.prog false) (X (.lk kk .len)) (base 189) Tryz.f189.ntmps L' [] cO (b6::cs) s:=by
  intro X O ay L' cQ;rw [cP];refine Fo (L':= [(0,.pointer (some F.uA))]) ⟨cQ,trivial⟩ (C 3 V ?_);refine K9 (kk:=kk) (p:= .len) O ac V (λ_ _=>V) V V V V (by simp) Oo (C 3 V ?_);refine O5 (kk:=kk) (p:= .KJ) O ac V (λ_ _=>V) V V V V Tryz.underlying229 Tryz.underlying185 PE V (PG (kk:=kk) (p:= .J0) (ad:=F.uA) O ac V (λ_ _=>V) V V V V (by simp) Ur V V ?_);refine JL.done (JL.fin V V (Bz.none Tryz.func189 V) (back _ _ _ _ ?_));exact Ng (λg s=>ay _ g s) h
 refine JL.block (IJ ?_);refine El [(0,.pointer (some F.uA)),(2,iV 0),(3,.bool false),(4,.bool false),(5,iV ((0:Nat):Int)),(6,.int .i32 (ca:M4).num)] V (Uk λcc a6=>?_);refine TM (P:=Tryz.prog) (F:=F) (s:=s) (kk:=kk) (ph:=Qr) (ok:=Uo) (head:=λ(X:Ph->GP) (a:G2)=>JL (AS Tryz.prog false) (X (.lk kk (Qr a))) (base 189) Tryz.f189.ntmps ([(0,.pointer (some F.uA)),(2,iV a.2.2.2.2),(3,.bool a.1),(4,.bool a.2.1),(5,iV (a.2.2.1:Int)),(6,.int .i32 (a.2.2.2.1:M4).num)]) [] cc (b6::cs) s) ?_ (false,false,0,ca,0) ⟨(λe=>by cases e),Nat.zero_le _,b1.2.2.1⟩;intro Y b2 c5 hC;have key:∀N (a:G2),4 - a.2.2.1<N->Uo a->(λ(X:Ph->GP) (a:G2)=>JL (AS Tryz.prog false) (X (.lk kk (Qr a))) (base 189) Tryz.f189.ntmps ([(0,.pointer (some F.uA)),(2,iV a.2.2.2.2),(3,.bool a.1),(4,.bool a.2.1),(5,iV (a.2.2.1:Int)),(6,.int .i32 (a.2.2.2.1:M4).num)]) [] cc (b6::cs) s) Y a:=by
  intro N
  induction N with
  | zero=>intro a co;omega
  | succ N b3=>
   rintro⟨sv,aw,it,old,wt⟩ cR b1;simp only at cR;have cT:aw=true->old.k=true:=b1.1;have ce:C7 old:=b1.2.2;have a2:Cj old:=ce.Cj;show JL (AS Tryz.prog false) (Y (.lk kk (.Ci sv aw it old))) (base 189) Tryz.f189.ntmps [(0,.pointer (some F.uA)),(2,iV wt),(3,.bool sv),(4,.bool aw),(5,iV (it:Int)),(6,.int .i32 (old:M4).num)] [] cc (b6::cs) s;rw [a6];refine C 2 V (Bt (λL s'=>s=s'/\L= [(0,.pointer (some F.uA)),(2,iV wt),(3,.bool sv),(4,.bool aw),(5,iV (it:Int)),(6,.int .i32 (old:M4).num)]) ?_ ?_)
   rotate_left
   ·intro az;refine C 3 V (Am (v:=CQ (By old&&& 5)) V (λρ h=>EB (c:=5) a2 (h _ _ V) (h _ _ V) (by decide)) ?_);refine C 2 V (LS (q:=((By old&&& 5:Nat):Int)=1) (i:=17) V (λcp=>?_) (λcp=>?_))
    ·refine Am (v:=iV (it:Int)) V (λρ h=>Yl.move (h _ _ V)) (JL.canSpin (it:=(it:Int)) ac V V V V Zs V (λGs=>?_) ?_)
     ·refine Am (v:= .bool true) V (λρ h=>LU (h _ _ V) (h _ _ V)) ?_;have a3:=(cm old).1 cp;refine C 5 V ?_;have b4:it<4:=by omega
      refine C 1 V (Am (v:= .bool (!aw)) V (λρ h=>Yl.not (h _ _ V)) ?_);refine C 1 V (Kl (c:= !aw) (i:=23) V (λc1=>?_) (λc1=>?_))
      ·refine Am (v:= .int .i32 (old:M4).num) V (λρ h=>Yl.move (h _ _ V)) (Am (v:=CQ (By old&&& 2)) V (λρ h=>EB (c:=2) a2 (h _ _ V) (h _ _ V) (by decide)) ?_);refine C 3 V (LS (q:=((By old&&& 2:Nat):Int)=0) (i:=28) V (λc2=>?_) (λc2=>?_))
       ·refine Am (v:= .int .i32 (old:M4).num) V (λρ h=>Yl.move (h _ _ V)) (Am (v:=CQ old.w) V (λρ h=>IM a2 (h _ _ V) (h _ _ V)) ?_);refine C 3 V (LS (q:=(old.w:Int)≠0) (i:=33) V (λc3=>?_) (λc3=>?_))
        ·have cV:aw=false:=by simpa using c1
         subst cV;have ct:=(Qh old).1 c2;have cw:old.w≠0:=by omega
         refine C 2 V (JL.uA V V ?_);refine C 2 V (Am (v:= .int .i32 ({old with k:=true}:M4).num) V (λρ h=>NU (c:=2) a2 (by decide) (QO old) V (h _ _ V) (h _ _ V)) ?_);refine Sx (kk:=kk) (p:= .Ci sv false it old) (old:=old) (nw:={old with k:=true}) b2 ac V V V V V N7 V V V (λq a4=>⟨some (.Eo sv true (it+1)),Yw a3 b4 ct cw,?_⟩) (λm q hm a4=>⟨some (.Eo sv false (it+1)),YM a3 b4 ct cw hm,?_⟩)
         ·refine Am (v:= .bool true) V (λρ h=>LU (h _ _ V) (h _ _ V)) (C 7 V ?_);refine JL.ext (v:= .tuple #[]) V V V LW V V (C 4 V ?_);refine Am (v:=iV ((it+1:Nat):Int)) V (λρ h=>F0 (h _ _ V) (h _ _ V) (by unfold Ax;rw [if_pos (by omega)];congr 1)) (C 6 V ?_);refine JL.uA V V (Hd (kk:=kk) (p:= .Eo sv true (it+1)) b2 ac V V V V V G8 Ip V λa7 cy bv=>⟨some (.Ci sv true (it+1) a7),List.mem_singleton.2 V,?_⟩);refine C 3 V (JL.again ?_);rw [← a6];exact El [(0,.pointer (some F.uA)),(2,iV wt),(3,.bool sv),(4,.bool true),(5,iV ((it+1:Nat):Int)),(6,.int .i32 (a7:M4).num)] V (b3 (sv,true,it+1,a7,wt) (by show 4 - (it+1)<N;omega) ⟨bv.2.2.2,(by show it+1<=4;omega),bv.2.2.1⟩)
         ·refine Am (v:= .bool false) V (λρ h=>LU (h _ _ V) (h _ _ V)) (C 5 V ?_);refine JL.ext (v:= .tuple #[]) V V V LW V V (C 4 V ?_);refine Am (v:=iV ((it+1:Nat):Int)) V (λρ h=>F0 (h _ _ V) (h _ _ V) (by unfold Ax;rw [if_pos (by omega)];congr 1)) (C 6 V ?_);refine JL.uA V V (Hd (kk:=kk) (p:= .Eo sv false (it+1)) b2 ac V V V V V G8 Ip V λa7 cy bv=>⟨some (.Ci sv false (it+1) a7),List.mem_singleton.2 V,?_⟩);refine C 3 V (JL.again ?_);rw [← a6];exact El [(0,.pointer (some F.uA)),(2,iV wt),(3,.bool sv),(4,.bool false),(5,iV ((it+1:Nat):Int)),(6,.int .i32 (a7:M4).num)] V (b3 (sv,false,it+1,a7,wt) (by show 4 - (it+1)<N;omega) ⟨bv.2.2.2,(by show it+1<=4;omega),bv.2.2.1⟩)
        ·refine Io V V V (C 12 V ?_);refine JL.ext (v:= .tuple #[]) V V V LW V V (C 4 V ?_);refine Am (v:=iV ((it+1:Nat):Int)) V (λρ h=>F0 (h _ _ V) (h _ _ V) (by unfold Ax;rw [if_pos (by omega)];congr 1)) (C 6 V ?_);refine JL.uA V V (Hd (kk:=kk) (p:= .Ci sv aw it old) b2 ac V V V V V G8 Ip V λm q a4=>⟨some (.Ci sv aw (it+1) m),Pu a3 b4 (λe=>c3 (by omega)),?_⟩);refine C 3 V (JL.again ?_);rw [← a6];exact El [(0,.pointer (some F.uA)),(2,iV wt),(3,.bool sv),(4,.bool aw),(5,iV ((it+1:Nat):Int)),(6,.int .i32 (m:M4).num)] V (b3 (sv,aw,it+1,m,wt) (by show 4 - (it+1)<N;omega) ⟨a4.2.2.2.2.2,(by show it+1<=4;omega),a4.2.2.2.2.1⟩)
       ·refine Io V V V (C 17 V ?_);refine JL.ext (v:= .tuple #[]) V V V LW V V (C 4 V ?_);refine Am (v:=iV ((it+1:Nat):Int)) V (λρ h=>F0 (h _ _ V) (h _ _ V) (by unfold Ax;rw [if_pos (by omega)];congr 1)) (C 6 V ?_);refine JL.uA V V (Hd (kk:=kk) (p:= .Ci sv aw it old) b2 ac V V V V V G8 Ip V λm q a4=>⟨some (.Ci sv aw (it+1) m),Pu a3 b4 (λe=>c2 ((Qh old).2 e.2.1)),?_⟩);refine C 3 V (JL.again ?_);rw [← a6];exact El [(0,.pointer (some F.uA)),(2,iV wt),(3,.bool sv),(4,.bool aw),(5,iV ((it+1:Nat):Int)),(6,.int .i32 (m:M4).num)] V (b3 (sv,aw,it+1,m,wt) (by show 4 - (it+1)<N;omega) ⟨a4.2.2.2.2.2,(by show it+1<=4;omega),a4.2.2.2.2.1⟩)
      ·refine Io V V V (C 22 V ?_);refine JL.ext (v:= .tuple #[]) V V V LW V V (C 4 V ?_);refine Am (v:=iV ((it+1:Nat):Int)) V (λρ h=>F0 (h _ _ V) (h _ _ V) (by unfold Ax;rw [if_pos (by omega)];congr 1)) (C 6 V ?_);refine JL.uA V V (Hd (kk:=kk) (p:= .Ci sv aw it old) b2 ac V V V V V G8 Ip V λm q a4=>⟨some (.Ci sv aw (it+1) m),Pu a3 b4 (λe=>by rw [e.1] at c1;cases c1),?_⟩);refine C 3 V (JL.again ?_);rw [← a6];exact El [(0,.pointer (some F.uA)),(2,iV wt),(3,.bool sv),(4,.bool aw),(5,iV ((it+1:Nat):Int)),(6,.int .i32 (m:M4).num)] V (b3 (sv,aw,it+1,m,wt) (by show 4 - (it+1)<N;omega) ⟨a4.2.2.2.2.2,(by show it+1<=4;omega),a4.2.2.2.2.1⟩)
     ·refine Am (v:= .bool false) V (λρ h=>LU (h _ _ V) (h _ _ V)) (C 3 V ?_);exact AF (az _ _ ⟨V,V⟩) V
    ·refine Io V V V (C 5 V ?_);exact AF (az _ _ ⟨V,V⟩) V
   rintro _ _ ⟨rfl,rfl⟩;refine C 6 V (Bt (λL s'=>s=s'/\L= [(0,.pointer (some F.uA)),(2,iV wt),(3,.bool sv),(4,.bool aw),(5,iV (it:Int)),(6,.int .i32 (old:M4).num),(7,.int .i32 ({old with l:=old.l || !old.s}:M4).num)]) ?_ ?_)
   rotate_left
   ·intro az;refine C 3 V (Am (v:=CQ (By old&&& 4)) V (λρ h=>EB (c:=4) a2 (h _ _ V) (h _ _ V) (by decide)) ?_);refine C 2 V (Gi (p:=((By old&&& 4:Nat):Int)=0) V (λc=>?_) (λc=>?_))
    ·refine JL.region (C 1 V ?_);refine Am (v:= .int .i32 ({old with l:=true}:M4).num) V (λρ h=>NU (c:=1) a2 (by decide) (cB old) V (h _ _ V) (h _ _ V)) (C 2 V ?_);refine Fo ?_ (az _ _ ⟨V,V⟩);exact⟨V,V,V,V,V,V,congrArg (λm:M4=>some (Value.int .i32 m.num)) (by rw [(HO old).1 c];simp),trivial⟩
    ·refine JL.skip (Fo ?_ (az _ _ ⟨V,V⟩));exact⟨V,V,V,V,V,V,congrArg (λm:M4=>some (Value.int .i32 m.num)) ((Bool.eq_false_or_eq_true old.s).elim (G5 old) (λhh=>absurd ((HO old).2 hh) c)),trivial⟩
   rintro _ _ ⟨rfl,rfl⟩;have c6:Cj {old with l:=old.l || !old.s}:=a2;refine JL.seq (Bt (λL s'=>s=s'/\L= [(0,.pointer (some F.uA)),(2,iV wt),(3,.bool sv),(4,.bool aw),(5,iV (it:Int)),(6,.int .i32 (old:M4).num),(7,.int .i32 ({old with l:=old.l || !old.s,w:=if old.l=true∨old.s=true then old.w+1 else old.w}:M4).num)]) ?_ ?_)
   rotate_left
   ·intro az;refine C 3 V (Am (v:=CQ (By old&&& 5)) V (λρ h=>EB (c:=5) a2 (h _ _ V) (h _ _ V) (by decide)) ?_);refine C 2 V (Gi (p:=((By old&&& 5:Nat):Int)≠0) V (λc=>?_) (λc=>?_))
    ·refine JL.region (C 1 V ?_);refine Am (v:= .int .i32 ({old with l:=old.l || !old.s,w:=old.w+1}:M4).num) V (λρ h=>Yp (m:={old with l:=old.l || !old.s}) ce (h _ _ V) (h _ _ V)) (C 2 V ?_);refine Fo ?_ (az _ _ ⟨V,V⟩);exact⟨V,V,V,V,V,V,congrArg (λm:M4=>some (Value.int .i32 m.num)) (by rw [if_pos (by have:=λe=>c ((Mh old).2 e);cases c7:old.l <;> cases c8:old.s <;> simp_all)]),trivial⟩
    ·refine JL.skip (Fo ?_ (az _ _ ⟨V,V⟩));exact⟨V,V,V,V,V,V,congrArg (λm:M4=>some (Value.int .i32 m.num)) (by rw [if_neg (by have:=(Mh old).1 (Decidable.not_not.1 c);rw [this.1,this.2];simp)]),trivial⟩
   rintro _ _ ⟨rfl,rfl⟩;have cG:Cj ({old with l:=old.l || !old.s,w:=if old.l=true∨old.s=true then old.w+1 else old.w}:M4):=by unfold C7 at ce;unfold Cj;simp only;split <;> omega
   refine JL.seq (Bt (λL s'=>s=s'/\L= [(0,.pointer (some F.uA)),(2,iV wt),(3,.bool sv),(4,.bool aw),(5,iV (it:Int)),(6,.int .i32 (old:M4).num),(7,.int .i32 ({old with l:=old.l || !old.s,s:=old.s || (sv&&old.l),w:=if old.l=true∨old.s=true then old.w+1 else old.w}:M4).num)]) ?_ ?_)
   rotate_left
   ·intro az;refine C 4 V (Kl (c:=sv) (i:=61) V (λc1=>?_) (λc1=>?_))
    ·refine Am (v:= .int .i32 (old:M4).num) V (λρ h=>Yl.move (h _ _ V)) (Am (v:=CQ (By old&&& 1)) V (λρ h=>EB (c:=1) a2 (h _ _ V) (h _ _ V) (by decide)) ?_);refine C 3 V (Gi (p:=((By old&&& 1:Nat):Int)≠0) V (λc=>?_) (λc=>?_))
     ·refine JL.region (C 1 V ?_);refine Am (v:= .int .i32 ({old with s:=true,l:=old.l || !old.s,w:=if old.l=true∨old.s=true then old.w+1 else old.w}:M4).num) V (λρ h=>NU (c:=4) (m:={old with l:=old.l || !old.s,w:=if old.l=true∨old.s=true then old.w+1 else old.w}) cG (by decide) (cF _) V (h _ _ V) (h _ _ V)) ?_
      refine C 2 V (Fo ?_ (az _ _ ⟨V,V⟩));exact⟨V,V,V,V,V,V,congrArg (λm:M4=>some (Value.int .i32 m.num)) (by rcases Bool.eq_false_or_eq_true old.l with hh | hh <;> first | exact absurd ((Qv old).2 hh) c | (rw [c1,hh];simp)),trivial⟩
     ·refine JL.skip (Fo ?_ (az _ _ ⟨V,V⟩));exact⟨V,V,V,V,V,V,congrArg (λm:M4=>some (Value.int .i32 m.num)) (by have:=(Qv old).1 (Decidable.not_not.1 c);rw [this];simp),trivial⟩
    ·refine Io V V V (C 6 V ?_);refine Fo ?_ (az _ _ ⟨V,V⟩);exact⟨V,V,V,V,V,V,congrArg (λm:M4=>some (Value.int .i32 m.num)) (by rw [c1];simp),trivial⟩
   rintro _ _ ⟨rfl,rfl⟩;have cH:Cj ({old with l:=old.l || !old.s,s:=old.s || (sv&&old.l),w:=if old.l=true∨old.s=true then old.w+1 else old.w}:M4):=cG
   refine JL.seq (Bt (λL s'=>s=s'/\L= [(0,.pointer (some F.uA)),(2,iV wt),(3,.bool sv),(4,.bool aw),(5,iV (it:Int)),(6,.int .i32 (old:M4).num),(7,.int .i32 (mN sv aw old:M4).num)]) ?_ ?_)
   rotate_left
   ·intro az;refine C 4 V (Pg (t:=aw) V (λc=>?_) (λc=>?_))
    ·have cI:old.k=true:=cT c;refine C 4 V ?_;refine Am (v:=CQ (By ({old with l:=old.l || !old.s,s:=old.s || (sv&&old.l),w:=if old.l=true∨old.s=true then old.w+1 else old.w}:M4)&&& 2)) V (λρ h=>EB (c:=2) (m:={old with l:=old.l || !old.s,s:=old.s || (sv&&old.l),w:=if old.l=true∨old.s=true then old.w+1 else old.w}) cH (h _ _ V) (h _ _ V) (by decide)) ?_
     refine Am (v:= .bool false) V (λρ h=>Yl.to (Yl.eql (h _ _ V) (h _ _ V)) (by rw [decide_eq_false (λe=>by have q:=(Qh _).1 e;simp only at q;rw [cI] at q;cases q)])) (C 5 V ?_);refine Am (v:= .int .i32 ({old with k:=false,l:=old.l || !old.s,s:=old.s || (sv&&old.l),w:=if old.l=true∨old.s=true then old.w+1 else old.w}:M4).num) V (λρ h=>Yl.Pw (m:={old with l:=old.l || !old.s,s:=old.s || (sv&&old.l),w:=if old.l=true∨old.s=true then old.w+1 else old.w}) cH cI (h _ _ V) (h _ _ V)) ?_
     refine C 2 V (Fo ?_ (az _ _ ⟨V,V⟩));exact⟨V,V,V,V,V,V,congrArg (λm:M4=>some (Value.int .i32 m.num)) (by simp [mN,c]),trivial⟩
    ·refine JL.skip (Fo ?_ (az _ _ ⟨V,V⟩));exact⟨V,V,V,V,V,V,congrArg (λm:M4=>some (Value.int .i32 m.num)) (by simp [mN,c]),trivial⟩
   rintro _ _ ⟨rfl,rfl⟩;refine C 4 V (JL.uA V V ?_);refine C 2 V (λT cW=>(AS Tryz.prog false).stop (hC (sv,aw,it,old,wt) _ b1 λX c9 cX O ay b5=>?_));refine Po (kk:=kk) (p:= .Ci sv aw it old) (old:=old) (nw:=mN sv aw old) cX ac V V V V V N7 V V V (λq a4=>?_) (λm q hm a4=>⟨some (.Eo sv aw it),XE hm,?_⟩) T cW
   ·by_cases a3:old.l=false/\old.s=false
    ·refine⟨some .len,YL a3,?_⟩;refine C 6 V (Am (v:=CQ (By old&&& 5)) V (λρ h=>EB (c:=5) a2 (h _ _ V) (h _ _ V) (by decide)) ?_);refine Am (v:= .bool true) V (λρ h=>Yl.to (Yl.eql (h _ _ V) (h _ _ V)) (by rw [decide_eq_true ((Mh old).2 a3)])) (C 3 V ?_);exact a1 X O ay _ V
    ·by_cases cJ:wt=0
     ·refine⟨some ((.Il sv)),Sk a3 _ (.inl V),?_⟩;refine C 6 V (Am (v:=CQ (By old&&& 5)) V (λρ h=>EB (c:=5) a2 (h _ _ V) (h _ _ V) (by decide)) ?_);refine Am (v:= .bool false) V (λρ h=>Yl.to (Yl.eql (h _ _ V) (h _ _ V)) (by rw [decide_eq_false (λe=>a3 ((Mh old).1 e))])) ?_;refine C 13 V (Am (v:= .bool true) V (λρ h=>Yl.to (Yl.eql (h _ _ V) (h _ _ V)) (by rw [decide_eq_true cJ])) ?_);refine C 3 V (O7 (kk:=kk) (p:= .Il sv) O ac V V V V V Qa Qi λm a5 v al=>⟨some (.Cs sv),List.mem_singleton.2 V,?_⟩);refine C 6 V (Am (v:= .pointer (some F.qA)) V (λρ h=>Fa (a:=F.uA) 0 1 Tryz.underlying140 MT V V V (h _ _ V)) ?_);refine C 1 V (RY (kk:=kk) (sv:=sv) O ac V V V V TR V V ?_);refine JL.done ?_;cases sv
      ·rw [if_neg (by decide)];refine C 4 V (O7 (kk:=kk) (p:= .F7) O ac V V V V V Qa Qi λcY cZ v2 c0=>⟨some (.EG (decide (IntKind.i64.wrap (v2 - v)>1000000))),by (cases decide (IntKind.i64.wrap (v2 - v)>1000000) <;> simp [Fam.BW]),?_⟩);refine C 1 V (Am (v:= .int .i64 (IntKind.i64.wrap (v2 - v))) V (λρ h=>Yl.sub (h _ _ V) (h _ _ V)) ?_);refine C 4 V ?_;generalize decide (IntKind.i64.wrap (v2 - v)>1000000)=av;refine C 4 V (JL.uA V V ?_);refine Hd (kk:=kk) (p:= .EG av) O ac V V V V V G8 Ip V ?_;intro m ci a0;have a8:C7 m:=a0.2.2;have am:Cj m:=a8.Cj;by_cases ag:m.s=true
       ·refine⟨some (.Em (!av || m.w==1)),by simp [Fam.BW,ag],?_⟩;refine C 2 V ?_;obtain⟨bw,bx,bz⟩:=a0.1 ag;refine C 4 V (Am (v:=CQ (By m&&& 4)) V (λρ h=>EB (c:=4) am (h _ _ V) (h _ _ V) (by decide)) ?_);refine Am (v:= .bool true) V (λρ h=>Yl.to (HD (h _ _ V) (h _ _ V)) (by have b0:(((By m&&& 4:Nat):Int)≠0):=(λe=>by rw [(HO m).1 e] at ag;cases ag);rw [decide_eq_true b0])) ?_;refine C 6 V (Am (v:=CQ (By m&&& 3)) V (λρ h=>EB (c:=3) am (h _ _ V) (h _ _ V) (by decide)) ?_);refine Am (v:= .bool false) V (λρ h=>Yl.to (HD (h _ _ V) (h _ _ V)) (by rw [(N4 m).2 ⟨bw,bx⟩];rfl)) (C 2 V ?_);refine Am (v:=CQ m.w) V (λρ h=>IM am (h _ _ V) (h _ _ V)) (Am (v:= .bool false) V (λρ h=>Yl.to (Yl.eql (h _ _ V) (h _ _ V)) (by rw [decide_eq_false (λe=>bz (by omega))])) ?_);refine C 12 V (Am (v:= .bool (!av)) V (λρ h=>Yl.not (h _ _ V)) ?_);refine C 1 V (Kl (c:= !av) (i:=119) V (λd1=>?_) (λd1=>?_))
        ·refine Io V V V (C 5 V ?_);have hex:(!av || m.w==1)=true:=by rw [d1];simp
         rw [hex];refine C 2 V (Am (v:= .int .i32 (-11)) V (λρ h=>Yl.to (Yl.sub (h _ _ V) (h _ _ V)) V) ?_);refine C 6 V (JL.uA V V ?_);refine C 1 V (Hb (kk:=kk) (p:= .Em true) (dl:= -11) O ac V V V V V Hh V V λK a5 al=>⟨⟨true,K.k,false,K.w - 1⟩,some .len,?_,List.mem_singleton.2 V,?_⟩)
         ·obtain⟨a9,bb,be,w3⟩:=K;obtain⟨U,g2,Z,ap,bi,aq⟩:=al;simp only at U g2 Z ap;subst U g2 Z;have bn:w3<134217728:=aq;have e:(⟨false,false,true,w3⟩:M4).num+(-11)=((8*(w3 - 1)+1:Nat):Int):=by simp only [M4.num,Bool.toNat_true,Bool.toNat_false];omega
          rw [e,Fy (by omega)];simp only [M4.num,Bool.toNat_true,Bool.toNat_false];omega
         exact C 2 V (a1 X O ay _ V)
        ·refine Am (v:= .int .i32 (m:M4).num) V (λρ h=>Yl.move (h _ _ V)) (Am (v:=CQ m.w) V (λρ h=>IM am (h _ _ V) (h _ _ V)) ?_);refine C 3 V (Gi (p:=(m.w:Int)=1) V (λd2=>?_) (λd2=>?_))
         ·have hex:(!av || m.w==1)=true:=by rw [d1];simp;omega
          rw [hex];refine C 2 V (Am (v:= .int .i32 (-11)) V (λρ h=>Yl.to (Yl.sub (h _ _ V) (h _ _ V)) V) ?_);refine C 6 V (JL.uA V V ?_);refine C 1 V (Hb (kk:=kk) (p:= .Em true) (dl:= -11) O ac V V V V V Hh V V λK a5 al=>⟨⟨true,K.k,false,K.w - 1⟩,some .len,?_,List.mem_singleton.2 V,?_⟩)
          ·obtain⟨a9,bb,be,w3⟩:=K;obtain⟨U,g2,Z,ap,bi,aq⟩:=al;simp only at U g2 Z ap;subst U g2 Z;have bn:w3<134217728:=aq;have e:(⟨false,false,true,w3⟩:M4).num+(-11)=((8*(w3 - 1)+1:Nat):Int):=by simp only [M4.num,Bool.toNat_true,Bool.toNat_false];omega
           rw [e,Fy (by omega)];simp only [M4.num,Bool.toNat_true,Bool.toNat_false];omega
          exact C 2 V (a1 X O ay _ V)
         ·have hex:(!av || m.w==1)=false:=by rw [d1];simp;omega
          rw [hex];refine C 5 V (JL.uA V V ?_);refine C 1 V (Hb (kk:=kk) (p:= .Em false) (dl:= -7) O ac V V V V V Hh V V λK a5 al=>⟨⟨true,K.k,true,K.w - 1⟩,some .len,?_,List.mem_singleton.2 V,?_⟩)
          ·obtain⟨a9,bb,be,w3⟩:=K;obtain⟨U,g2,Z,ap,bi,aq⟩:=al;simp only at U g2 Z ap;subst U g2 Z;have bn:w3<134217728:=aq;have e:(⟨false,false,true,w3⟩:M4).num+(-7)=((8*(w3 - 1)+5:Nat):Int):=by simp only [M4.num,Bool.toNat_true,Bool.toNat_false];omega
           rw [e,Fy (by omega)];simp only [M4.num,Bool.toNat_true,Bool.toNat_false];omega
          exact C 2 V (a1 X O ay _ V)
       ·refine⟨some (.Ci av true 0 m),by simp [Fam.BW,ag],?_⟩;refine C 2 V ?_;have bo:m.s=false:=by simpa using ag
        refine C 4 V (Am (v:=CQ (By m&&& 4)) V (λρ h=>EB (c:=4) am (h _ _ V) (h _ _ V) (by decide)) ?_);refine Am (v:= .bool false) V (λρ h=>Yl.to (HD (h _ _ V) (h _ _ V)) (by rw [(HO m).2 bo];rfl)) (C 11 V ?_);refine JL.again ?_;rw [← a6];exact El [(0,.pointer (some F.uA)),(2,iV v),(3,.bool av),(4,.bool true),(5,iV ((0:Nat):Int)),(6,.int .i32 (m:M4).num)] V (b5 (av,true,0,m,v) ⟨λ_=>a0.2.1 bo,Nat.zero_le _,a8⟩)
      ·rw [if_pos rfl];refine C 15 V (JL.uA V V ?_);refine Hd (kk:=kk) (p:= .EG true) O ac V V V V V G8 Ip V ?_;intro m ci a0;have a8:C7 m:=a0.2.2;have am:Cj m:=a8.Cj;by_cases ag:m.s=true
       ·refine⟨some (.Em (!true || m.w==1)),by simp [Fam.BW,ag],?_⟩;refine C 2 V ?_;obtain⟨bw,bx,bz⟩:=a0.1 ag;refine C 4 V (Am (v:=CQ (By m&&& 4)) V (λρ h=>EB (c:=4) am (h _ _ V) (h _ _ V) (by decide)) ?_);refine Am (v:= .bool true) V (λρ h=>Yl.to (HD (h _ _ V) (h _ _ V)) (by have b0:(((By m&&& 4:Nat):Int)≠0):=(λe=>by rw [(HO m).1 e] at ag;cases ag);rw [decide_eq_true b0])) ?_;refine C 6 V (Am (v:=CQ (By m&&& 3)) V (λρ h=>EB (c:=3) am (h _ _ V) (h _ _ V) (by decide)) ?_);refine Am (v:= .bool false) V (λρ h=>Yl.to (HD (h _ _ V) (h _ _ V)) (by rw [(N4 m).2 ⟨bw,bx⟩];rfl)) (C 2 V ?_);refine Am (v:=CQ m.w) V (λρ h=>IM am (h _ _ V) (h _ _ V)) (Am (v:= .bool false) V (λρ h=>Yl.to (Yl.eql (h _ _ V) (h _ _ V)) (by rw [decide_eq_false (λe=>bz (by omega))])) ?_);refine C 12 V (Am (v:= .bool (!true)) V (λρ h=>Yl.not (h _ _ V)) ?_);refine C 1 V (Kl (c:= !true) (i:=119) V (λd1=>?_) (λd1=>?_))
        ·refine Io V V V (C 5 V ?_);have hex:(!true || m.w==1)=true:=by rw [d1];simp
         rw [hex];refine C 2 V (Am (v:= .int .i32 (-11)) V (λρ h=>Yl.to (Yl.sub (h _ _ V) (h _ _ V)) V) ?_);refine C 6 V (JL.uA V V ?_);refine C 1 V (Hb (kk:=kk) (p:= .Em true) (dl:= -11) O ac V V V V V Hh V V λK a5 al=>⟨⟨true,K.k,false,K.w - 1⟩,some .len,?_,List.mem_singleton.2 V,?_⟩)
         ·obtain⟨a9,bb,be,w3⟩:=K;obtain⟨U,g2,Z,ap,bi,aq⟩:=al;simp only at U g2 Z ap;subst U g2 Z;have bn:w3<134217728:=aq;have e:(⟨false,false,true,w3⟩:M4).num+(-11)=((8*(w3 - 1)+1:Nat):Int):=by simp only [M4.num,Bool.toNat_true,Bool.toNat_false];omega
          rw [e,Fy (by omega)];simp only [M4.num,Bool.toNat_true,Bool.toNat_false];omega
         exact C 2 V (a1 X O ay _ V)
        ·refine Am (v:= .int .i32 (m:M4).num) V (λρ h=>Yl.move (h _ _ V)) (Am (v:=CQ m.w) V (λρ h=>IM am (h _ _ V) (h _ _ V)) ?_);refine C 3 V (Gi (p:=(m.w:Int)=1) V (λd2=>?_) (λd2=>?_))
         ·have hex:(!true || m.w==1)=true:=by rw [d1];simp;omega
          rw [hex];refine C 2 V (Am (v:= .int .i32 (-11)) V (λρ h=>Yl.to (Yl.sub (h _ _ V) (h _ _ V)) V) ?_);refine C 6 V (JL.uA V V ?_);refine C 1 V (Hb (kk:=kk) (p:= .Em true) (dl:= -11) O ac V V V V V Hh V V λK a5 al=>⟨⟨true,K.k,false,K.w - 1⟩,some .len,?_,List.mem_singleton.2 V,?_⟩)
          ·obtain⟨a9,bb,be,w3⟩:=K;obtain⟨U,g2,Z,ap,bi,aq⟩:=al;simp only at U g2 Z ap;subst U g2 Z;have bn:w3<134217728:=aq;have e:(⟨false,false,true,w3⟩:M4).num+(-11)=((8*(w3 - 1)+1:Nat):Int):=by simp only [M4.num,Bool.toNat_true,Bool.toNat_false];omega
           rw [e,Fy (by omega)];simp only [M4.num,Bool.toNat_true,Bool.toNat_false];omega
          exact C 2 V (a1 X O ay _ V)
         ·have hex:(!true || m.w==1)=false:=by rw [d1];simp;omega
          rw [hex];refine C 5 V (JL.uA V V ?_);refine C 1 V (Hb (kk:=kk) (p:= .Em false) (dl:= -7) O ac V V V V V Hh V V λK a5 al=>⟨⟨true,K.k,true,K.w - 1⟩,some .len,?_,List.mem_singleton.2 V,?_⟩)
          ·obtain⟨a9,bb,be,w3⟩:=K;obtain⟨U,g2,Z,ap,bi,aq⟩:=al;simp only at U g2 Z ap;subst U g2 Z;have bn:w3<134217728:=aq;have e:(⟨false,false,true,w3⟩:M4).num+(-7)=((8*(w3 - 1)+5:Nat):Int):=by simp only [M4.num,Bool.toNat_true,Bool.toNat_false];omega
           rw [e,Fy (by omega)];simp only [M4.num,Bool.toNat_true,Bool.toNat_false];omega
          exact C 2 V (a1 X O ay _ V)
       ·refine⟨some (.Ci true true 0 m),by simp [Fam.BW,ag],?_⟩;refine C 2 V ?_;have bo:m.s=false:=by simpa using ag
        refine C 4 V (Am (v:=CQ (By m&&& 4)) V (λρ h=>EB (c:=4) am (h _ _ V) (h _ _ V) (by decide)) ?_);refine Am (v:= .bool false) V (λρ h=>Yl.to (HD (h _ _ V) (h _ _ V)) (by rw [(HO m).2 bo];rfl)) (C 11 V ?_);refine JL.again ?_;rw [← a6];exact El [(0,.pointer (some F.uA)),(2,iV v),(3,.bool true),(4,.bool true),(5,iV ((0:Nat):Int)),(6,.int .i32 (m:M4).num)] V (b5 (true,true,0,m,v) ⟨λ_=>a0.2.1 bo,Nat.zero_le _,a8⟩)
     ·refine⟨some ((.Cs sv)),Sk a3 _ (.inr V),?_⟩;refine C 6 V (Am (v:=CQ (By old&&& 5)) V (λρ h=>EB (c:=5) a2 (h _ _ V) (h _ _ V) (by decide)) ?_);refine Am (v:= .bool false) V (λρ h=>Yl.to (Yl.eql (h _ _ V) (h _ _ V)) (by rw [decide_eq_false (λe=>a3 ((Mh old).1 e))])) ?_;refine C 13 V (Am (v:= .bool false) V (λρ h=>Yl.to (Yl.eql (h _ _ V) (h _ _ V)) (by rw [decide_eq_false cJ])) ?_);refine C 7 V (Am (v:= .pointer (some F.qA)) V (λρ h=>Fa (a:=F.uA) 0 1 Tryz.underlying140 MT V V V (h _ _ V)) ?_);refine C 1 V (RY (kk:=kk) (sv:=sv) O ac V V V V TR V V ?_);refine JL.done ?_;cases sv
      ·rw [if_neg (by decide)];refine C 4 V (O7 (kk:=kk) (p:= .F7) O ac V V V V V Qa Qi λcY cZ v2 c0=>⟨some (.EG (decide (IntKind.i64.wrap (v2 - wt)>1000000))),by (cases decide (IntKind.i64.wrap (v2 - wt)>1000000) <;> simp [Fam.BW]),?_⟩);refine C 1 V (Am (v:= .int .i64 (IntKind.i64.wrap (v2 - wt))) V (λρ h=>Yl.sub (h _ _ V) (h _ _ V)) ?_);refine C 4 V ?_;generalize decide (IntKind.i64.wrap (v2 - wt)>1000000)=av;refine C 4 V (JL.uA V V ?_);refine Hd (kk:=kk) (p:= .EG av) O ac V V V V V G8 Ip V ?_;intro m ci a0;have a8:C7 m:=a0.2.2;have am:Cj m:=a8.Cj;by_cases ag:m.s=true
       ·refine⟨some (.Em (!av || m.w==1)),by simp [Fam.BW,ag],?_⟩;refine C 2 V ?_;obtain⟨bw,bx,bz⟩:=a0.1 ag;refine C 4 V (Am (v:=CQ (By m&&& 4)) V (λρ h=>EB (c:=4) am (h _ _ V) (h _ _ V) (by decide)) ?_);refine Am (v:= .bool true) V (λρ h=>Yl.to (HD (h _ _ V) (h _ _ V)) (by have b0:(((By m&&& 4:Nat):Int)≠0):=(λe=>by rw [(HO m).1 e] at ag;cases ag);rw [decide_eq_true b0])) ?_;refine C 6 V (Am (v:=CQ (By m&&& 3)) V (λρ h=>EB (c:=3) am (h _ _ V) (h _ _ V) (by decide)) ?_);refine Am (v:= .bool false) V (λρ h=>Yl.to (HD (h _ _ V) (h _ _ V)) (by rw [(N4 m).2 ⟨bw,bx⟩];rfl)) (C 2 V ?_);refine Am (v:=CQ m.w) V (λρ h=>IM am (h _ _ V) (h _ _ V)) (Am (v:= .bool false) V (λρ h=>Yl.to (Yl.eql (h _ _ V) (h _ _ V)) (by rw [decide_eq_false (λe=>bz (by omega))])) ?_);refine C 12 V (Am (v:= .bool (!av)) V (λρ h=>Yl.not (h _ _ V)) ?_);refine C 1 V (Kl (c:= !av) (i:=119) V (λd1=>?_) (λd1=>?_))
        ·refine Io V V V (C 5 V ?_);have hex:(!av || m.w==1)=true:=by rw [d1];simp
         rw [hex];refine C 2 V (Am (v:= .int .i32 (-11)) V (λρ h=>Yl.to (Yl.sub (h _ _ V) (h _ _ V)) V) ?_);refine C 6 V (JL.uA V V ?_);refine C 1 V (Hb (kk:=kk) (p:= .Em true) (dl:= -11) O ac V V V V V Hh V V λK a5 al=>⟨⟨true,K.k,false,K.w - 1⟩,some .len,?_,List.mem_singleton.2 V,?_⟩)
         ·obtain⟨a9,bb,be,w3⟩:=K;obtain⟨U,g2,Z,ap,bi,aq⟩:=al;simp only at U g2 Z ap;subst U g2 Z;have bn:w3<134217728:=aq;have e:(⟨false,false,true,w3⟩:M4).num+(-11)=((8*(w3 - 1)+1:Nat):Int):=by simp only [M4.num,Bool.toNat_true,Bool.toNat_false];omega
          rw [e,Fy (by omega)];simp only [M4.num,Bool.toNat_true,Bool.toNat_false];omega
         exact C 2 V (a1 X O ay _ V)
        ·refine Am (v:= .int .i32 (m:M4).num) V (λρ h=>Yl.move (h _ _ V)) (Am (v:=CQ m.w) V (λρ h=>IM am (h _ _ V) (h _ _ V)) ?_);refine C 3 V (Gi (p:=(m.w:Int)=1) V (λd2=>?_) (λd2=>?_))
         ·have hex:(!av || m.w==1)=true:=by rw [d1];simp;omega
          rw [hex];refine C 2 V (Am (v:= .int .i32 (-11)) V (λρ h=>Yl.to (Yl.sub (h _ _ V) (h _ _ V)) V) ?_);refine C 6 V (JL.uA V V ?_);refine C 1 V (Hb (kk:=kk) (p:= .Em true) (dl:= -11) O ac V V V V V Hh V V λK a5 al=>⟨⟨true,K.k,false,K.w - 1⟩,some .len,?_,List.mem_singleton.2 V,?_⟩)
          ·obtain⟨a9,bb,be,w3⟩:=K;obtain⟨U,g2,Z,ap,bi,aq⟩:=al;simp only at U g2 Z ap;subst U g2 Z;have bn:w3<134217728:=aq;have e:(⟨false,false,true,w3⟩:M4).num+(-11)=((8*(w3 - 1)+1:Nat):Int):=by simp only [M4.num,Bool.toNat_true,Bool.toNat_false];omega
           rw [e,Fy (by omega)];simp only [M4.num,Bool.toNat_true,Bool.toNat_false];omega
          exact C 2 V (a1 X O ay _ V)
         ·have hex:(!av || m.w==1)=false:=by rw [d1];simp;omega
          rw [hex];refine C 5 V (JL.uA V V ?_);refine C 1 V (Hb (kk:=kk) (p:= .Em false) (dl:= -7) O ac V V V V V Hh V V λK a5 al=>⟨⟨true,K.k,true,K.w - 1⟩,some .len,?_,List.mem_singleton.2 V,?_⟩)
          ·obtain⟨a9,bb,be,w3⟩:=K;obtain⟨U,g2,Z,ap,bi,aq⟩:=al;simp only at U g2 Z ap;subst U g2 Z;have bn:w3<134217728:=aq;have e:(⟨false,false,true,w3⟩:M4).num+(-7)=((8*(w3 - 1)+5:Nat):Int):=by simp only [M4.num,Bool.toNat_true,Bool.toNat_false];omega
           rw [e,Fy (by omega)];simp only [M4.num,Bool.toNat_true,Bool.toNat_false];omega
          exact C 2 V (a1 X O ay _ V)
       ·refine⟨some (.Ci av true 0 m),by simp [Fam.BW,ag],?_⟩;refine C 2 V ?_;have bo:m.s=false:=by simpa using ag
        refine C 4 V (Am (v:=CQ (By m&&& 4)) V (λρ h=>EB (c:=4) am (h _ _ V) (h _ _ V) (by decide)) ?_);refine Am (v:= .bool false) V (λρ h=>Yl.to (HD (h _ _ V) (h _ _ V)) (by rw [(HO m).2 bo];rfl)) (C 11 V ?_);refine JL.again ?_;rw [← a6];exact El [(0,.pointer (some F.uA)),(2,iV wt),(3,.bool av),(4,.bool true),(5,iV ((0:Nat):Int)),(6,.int .i32 (m:M4).num)] V (b5 (av,true,0,m,wt) ⟨λ_=>a0.2.1 bo,Nat.zero_le _,a8⟩)
      ·rw [if_pos rfl];refine C 15 V (JL.uA V V ?_);refine Hd (kk:=kk) (p:= .EG true) O ac V V V V V G8 Ip V ?_;intro m ci a0;have a8:C7 m:=a0.2.2;have am:Cj m:=a8.Cj;by_cases ag:m.s=true
       ·refine⟨some (.Em (!true || m.w==1)),by simp [Fam.BW,ag],?_⟩;refine C 2 V ?_;obtain⟨bw,bx,bz⟩:=a0.1 ag;refine C 4 V (Am (v:=CQ (By m&&& 4)) V (λρ h=>EB (c:=4) am (h _ _ V) (h _ _ V) (by decide)) ?_);refine Am (v:= .bool true) V (λρ h=>Yl.to (HD (h _ _ V) (h _ _ V)) (by have b0:(((By m&&& 4:Nat):Int)≠0):=(λe=>by rw [(HO m).1 e] at ag;cases ag);rw [decide_eq_true b0])) ?_;refine C 6 V (Am (v:=CQ (By m&&& 3)) V (λρ h=>EB (c:=3) am (h _ _ V) (h _ _ V) (by decide)) ?_);refine Am (v:= .bool false) V (λρ h=>Yl.to (HD (h _ _ V) (h _ _ V)) (by rw [(N4 m).2 ⟨bw,bx⟩];rfl)) (C 2 V ?_);refine Am (v:=CQ m.w) V (λρ h=>IM am (h _ _ V) (h _ _ V)) (Am (v:= .bool false) V (λρ h=>Yl.to (Yl.eql (h _ _ V) (h _ _ V)) (by rw [decide_eq_false (λe=>bz (by omega))])) ?_);refine C 12 V (Am (v:= .bool (!true)) V (λρ h=>Yl.not (h _ _ V)) ?_);refine C 1 V (Kl (c:= !true) (i:=119) V (λd1=>?_) (λd1=>?_))
        ·refine Io V V V (C 5 V ?_);have hex:(!true || m.w==1)=true:=by rw [d1];simp
         rw [hex];refine C 2 V (Am (v:= .int .i32 (-11)) V (λρ h=>Yl.to (Yl.sub (h _ _ V) (h _ _ V)) V) ?_);refine C 6 V (JL.uA V V ?_);refine C 1 V (Hb (kk:=kk) (p:= .Em true) (dl:= -11) O ac V V V V V Hh V V λK a5 al=>⟨⟨true,K.k,false,K.w - 1⟩,some .len,?_,List.mem_singleton.2 V,?_⟩)
         ·obtain⟨a9,bb,be,w3⟩:=K;obtain⟨U,g2,Z,ap,bi,aq⟩:=al;simp only at U g2 Z ap;subst U g2 Z;have bn:w3<134217728:=aq;have e:(⟨false,false,true,w3⟩:M4).num+(-11)=((8*(w3 - 1)+1:Nat):Int):=by simp only [M4.num,Bool.toNat_true,Bool.toNat_false];omega
          rw [e,Fy (by omega)];simp only [M4.num,Bool.toNat_true,Bool.toNat_false];omega
         exact C 2 V (a1 X O ay _ V)
        ·refine Am (v:= .int .i32 (m:M4).num) V (λρ h=>Yl.move (h _ _ V)) (Am (v:=CQ m.w) V (λρ h=>IM am (h _ _ V) (h _ _ V)) ?_);refine C 3 V (Gi (p:=(m.w:Int)=1) V (λd2=>?_) (λd2=>?_))
         ·have hex:(!true || m.w==1)=true:=by rw [d1];simp;omega
          rw [hex];refine C 2 V (Am (v:= .int .i32 (-11)) V (λρ h=>Yl.to (Yl.sub (h _ _ V) (h _ _ V)) V) ?_);refine C 6 V (JL.uA V V ?_);refine C 1 V (Hb (kk:=kk) (p:= .Em true) (dl:= -11) O ac V V V V V Hh V V λK a5 al=>⟨⟨true,K.k,false,K.w - 1⟩,some .len,?_,List.mem_singleton.2 V,?_⟩)
          ·obtain⟨a9,bb,be,w3⟩:=K;obtain⟨U,g2,Z,ap,bi,aq⟩:=al;simp only at U g2 Z ap;subst U g2 Z;have bn:w3<134217728:=aq;have e:(⟨false,false,true,w3⟩:M4).num+(-11)=((8*(w3 - 1)+1:Nat):Int):=by simp only [M4.num,Bool.toNat_true,Bool.toNat_false];omega
           rw [e,Fy (by omega)];simp only [M4.num,Bool.toNat_true,Bool.toNat_false];omega
          exact C 2 V (a1 X O ay _ V)
         ·have hex:(!true || m.w==1)=false:=by rw [d1];simp;omega
          rw [hex];refine C 5 V (JL.uA V V ?_);refine C 1 V (Hb (kk:=kk) (p:= .Em false) (dl:= -7) O ac V V V V V Hh V V λK a5 al=>⟨⟨true,K.k,true,K.w - 1⟩,some .len,?_,List.mem_singleton.2 V,?_⟩)
          ·obtain⟨a9,bb,be,w3⟩:=K;obtain⟨U,g2,Z,ap,bi,aq⟩:=al;simp only at U g2 Z ap;subst U g2 Z;have bn:w3<134217728:=aq;have e:(⟨false,false,true,w3⟩:M4).num+(-7)=((8*(w3 - 1)+5:Nat):Int):=by simp only [M4.num,Bool.toNat_true,Bool.toNat_false];omega
           rw [e,Fy (by omega)];simp only [M4.num,Bool.toNat_true,Bool.toNat_false];omega
          exact C 2 V (a1 X O ay _ V)
       ·refine⟨some (.Ci true true 0 m),by simp [Fam.BW,ag],?_⟩;refine C 2 V ?_;have bo:m.s=false:=by simpa using ag
        refine C 4 V (Am (v:=CQ (By m&&& 4)) V (λρ h=>EB (c:=4) am (h _ _ V) (h _ _ V) (by decide)) ?_);refine Am (v:= .bool false) V (λρ h=>Yl.to (HD (h _ _ V) (h _ _ V)) (by rw [(HO m).2 bo];rfl)) (C 11 V ?_);refine JL.again ?_;rw [← a6];exact El [(0,.pointer (some F.uA)),(2,iV wt),(3,.bool true),(4,.bool true),(5,iV ((0:Nat):Int)),(6,.int .i32 (m:M4).num)] V (b5 (true,true,0,m,wt) ⟨λ_=>a0.2.1 bo,Nat.zero_le _,a8⟩)
   ·refine JL.done (C 4 V ?_);refine JL.uA V V (Hd (kk:=kk) (p:= .Eo sv aw it) O ac V V V V V G8 Ip V λa7 cy bv=>⟨some (.Ci sv aw it a7),List.mem_singleton.2 V,?_⟩);refine C 3 V (JL.again ?_);rw [← a6];exact El [(0,.pointer (some F.uA)),(2,iV wt),(3,.bool sv),(4,.bool aw),(5,iV (it:Int)),(6,.int .i32 (a7:M4).num)] V (b5 (sv,aw,it,a7,wt) ⟨bv.2.2.2,b1.2.1,bv.2.2.1⟩)
 exact λa co=>key 5 a (by omega) co
set_option maxHeartbeats 4000000 in
theorem Vo{F:Fam}{n:Nat}{L:Env}{ds:Ld_}{k:Li_}{cs:Lf_}{s:St}{b:Frame}{ops:Ao_}{i:Nat}{rest:List Nat}{d:Option Tmp}{x:Operand}{ats:Array TypeId}{ty:TypeId}{pp:String}{af:Ae_}{g:On_}{kk:Nat}(K:s.q=false)(O:ops[i]? =some ⟨d,.call ⟨.value (.func 162),#[x],ats⟩,ty,pp,af,g⟩)(hw:AL L ops ⟨d,.call ⟨.value (.func 162),#[x],ats⟩,ty,pp,af,g⟩=some true)(U:((b.kind != .early)&&Bb n d)=true)(Y:ev L x=some (.pointer (some F.uA)))
  (h:JL (AS Tryz.prog false) (Stop Tryz.prog F (.lk kk .DJ)) b n (As L d (.tuple #[])) ds (.inRegion ops rest::k) cs s):
  JL (AS Tryz.prog false) (Stop Tryz.prog F (.lk kk .F8)) b n L ds (.inRegion ops (i::rest)::k) cs s:=by
 refine Hc (vs:= [.pointer (some F.uA)]) O hw U Tryz.func162 (by decide+kernel) V (by simp [evs,Y]) (Nat.le_of_ble_eq_true V) λac back=>C 2 V (K9 (kk:=kk) (p:= .F8) CY.stop K V (λ_ _=>V) V V V V (by simp) Un ?_);refine C 6 V (JL.uA V V ?_);refine Sx (kk:=kk) (p:= .Hg) (old:=M4.zero) (nw:=⟨true,false,false,0⟩) CY.stop K V V V V V N7 V V V (λq Z=>⟨some .len,by simp [Fam.BW],?_⟩) (λm q hm Z=>⟨some (.Eo false false 0),by simp [Fam.BW,hm],?_⟩)
 ·refine JL.done (C 5 V ?_);refine K9 (kk:=kk) (p:= .len) CY.stop K V (λ_ _=>V) V V V V (by simp) Oo (C 3 V ?_);refine O5 (kk:=kk) (p:= .KJ) CY.stop K V (λ_ _=>V) V V V V Tryz.underlying229 Tryz.underlying185 PE V (PG (kk:=kk) (p:= .J0) (ad:=F.uA) CY.stop K V (λ_ _=>V) V V V V (by simp) Ur V V ?_);exact JL.done (JL.ret V V (Bz.none Tryz.func162 V) (back _ _ _ _ h))
 ·refine JL.done (C 4 V ?_);refine WC (kk:=kk) K V V V V (JL.done ?_);exact JL.fin V V (Bz.none Tryz.func162 V) (back _ _ _ _ h)
set_option maxHeartbeats 4000000 in
theorem Wn{F:Fam}{n:Nat}{L:Env}{ds:Ld_}{k:Li_}{cs:Lf_}{s:St}{b:Frame}{ops:Ao_}{i:Nat}{rest:List Nat}{d:Option Tmp}{x:Operand}{ats:Array TypeId}{ty:TypeId}{pp:String}{af:Ae_}{g:On_}{kk:Nat}(K:s.q=false)(O:ops[i]? =some ⟨d,.call ⟨.value (.func 121),#[x],ats⟩,ty,pp,af,g⟩)(hw:AL L ops ⟨d,.call ⟨.value (.func 121),#[x],ats⟩,ty,pp,af,g⟩=some true)(U:((b.kind != .early)&&Bb n d)=true)(Y:ev L x=some (.pointer (some F.uA)))
  (h:JL (AS Tryz.prog false) (Stop Tryz.prog F (.lk kk .DJ)) b n (As L d (.tuple #[])) ds (.inRegion ops rest::k) cs s):
  JL (AS Tryz.prog false) (Stop Tryz.prog F (.lk kk .F8)) b n L ds (.inRegion ops (i::rest)::k) cs s:=by
 refine Hc (vs:= [.pointer (some F.uA)]) O hw U Tryz.func121 (by decide+kernel) V (by simp [evs,Y]) (Nat.le_of_ble_eq_true V) λZ back=>C 3 V (Am (v:= .pointer (some F.uA)) V (λρ h=>Fa (a:=F.uA) 1 0 Tryz.underlying142 (AU Tryz.type140) V V V (h _ _ V)) ?_);refine Vo (kk:=kk) K V V V V (JL.done ?_);exact JL.fin V V (Bz.none Tryz.func121 V) (back _ _ _ _ h)
def IB(m:M4):LP:=if m.l=false/\m.k=false/\m.s=false/\m.w≠0 then .EM m else .Fi
def QE(m:M4):LP:=if m.s=true then .Fe true else if m.k=false/\m.w≠0 then .EM {m with l:=false} else .Fi
set_option maxHeartbeats 4000000 in
theorem VL{F:Fam}{n:Nat}{L:Env}{ds:Ld_}{k:Li_}{cs:Lf_}{s:St}{b:Frame}{ops:Ao_}{i:Nat}{rest:List Nat}{d:Option Tmp}{x Z:Operand}{nw:M4}{ats:Array TypeId}{ty:TypeId}{pp:String}{af:Ae_}{g:On_}{kk:Nat}(U:s.q=false)(a3:ops[i]? =some ⟨d,.call ⟨.value (.func 191),#[x,Z],ats⟩,ty,pp,af,g⟩)(hw:AL L ops ⟨d,.call ⟨.value (.func 191),#[x,Z],ats⟩,ty,pp,af,g⟩=some true)(a4:((b.kind != .early)&&Bb n d)=true)(a5:ev L x=some (.pointer (some F.uA)))(a6:ev L Z=some (.int .i32 nw.num))(al:nw.l=false)(a7:C7 nw)(ac:Cj nw)
  (h:JL (AS Tryz.prog false) (Stop Tryz.prog F (.lk kk .Fi)) b n (As L d (.tuple #[])) ds (.inRegion ops rest::k) cs s):
  JL (AS Tryz.prog false) (Stop Tryz.prog F (.lk kk (if nw.s=true then .Fe true else if nw.k=false/\nw.w≠0 then .EM nw else .Fi))) b n L ds (.inRegion ops (i::rest)::k) cs s:=by
 refine Hc (vs:= [.pointer (some F.uA),.int .i32 nw.num]) a3 hw a4 Tryz.func191 (by decide+kernel) V (by simp [evs,a5,a6]) (Nat.le_of_ble_eq_true V) λam back=>C 4 V (Am (v:= .int .i32 ({nw with l:=true}:M4).num) V (λρ h=>YF ac al (h _ _ V) (h _ _ V)) ?_);refine Am (v:=CQ (By ({nw with l:=true}:M4)&&& 1)) V (λρ h=>EB (c:=1) (m:={nw with l:=true}) ac (h _ _ V) (h _ _ V) (by decide)) (Am (v:= .bool false) V (λρ h=>Yl.to (Yl.eql (h _ _ V) (h _ _ V)) (by rw [decide_eq_false (λe=>by have q:=(Qv _).1 e;cases q)])) ?_);refine C 6 V (Am (v:=CQ (By nw&&& 4)) V (λρ h=>EB (c:=4) ac (h _ _ V) (h _ _ V) (by decide)) ?_);refine C 2 V (Gi (p:=((By nw&&& 4:Nat):Int)=0) V (λc=>?_) (λc=>?_))
 ·have ap:=(HO nw).1 c;rw [if_neg (by rw [ap];exact Bool.false_ne_true)];refine C 6 V ?_;refine IJ ?_;refine El [(0,.pointer (some F.uA)),(4,.int .i32 nw.num)] V ?_;refine Uk λaq av=>?_;have a8:(if nw.k=false/\nw.w≠0 then LP.EM nw else .Fi)=IB nw:=by unfold IB;rw [al,ap];simp
  rw [a8];refine TM (P:=Tryz.prog) (F:=F) (s:=s) (kk:=kk) (ph:=λm=>LP.EM m) (ok:=C7) (head:=λ(X:Ph->GP) (a:M4)=>JL (AS Tryz.prog false) (X (.lk kk (IB a))) (base 191) Tryz.f191.ntmps ([(0,.pointer (some F.uA)),(4,.int .i32 (a:M4).num)]) [] aq (am::cs) s) ?_ nw a7;intro Y bx aw hC old ay;have K:Cj old:=ay.Cj;show JL (AS Tryz.prog false) (Y (.lk kk (IB old))) (base 191) Tryz.f191.ntmps [(0,.pointer (some F.uA)),(4,.int .i32 old.num)] [] aq (am::cs) s;rw [av];refine C 5 V (Am (v:=CQ old.w) V (λρ h=>IM K (h _ _ V) (h _ _ V)) ?_);refine C 2 V (LS (q:=(old.w:Int)=0) (i:=17) V (λc2=>?_) (λc2=>?_))
  ·have O:IB old= .Fi:=by unfold IB;rw [if_neg (λe=>e.2.2.2 (by omega))]
   refine C 6 V ?_;rw [O];exact JL.ret V V (Bz.none Tryz.func191 V) (back _ _ _ _ (Ng (λg s=>aw _ g s) h))
  ·refine Am (v:= .int .i32 (old:M4).num) V (λρ h=>Yl.move (h _ _ V)) (Am (v:=CQ (By old&&& 7)) V (λρ h=>EB (c:=7) K (h _ _ V) (h _ _ V) (by decide)) ?_);refine C 3 V (Gi (p:=((By old&&& 7:Nat):Int)≠0) V (λc3=>?_) (λc3=>?_))
   ·have O:IB old= .Fi:=by unfold IB;rw [if_neg (λe=>c3 ((Us old).2 ⟨e.1,e.2.1,e.2.2.1⟩))]
    rw [O];exact JL.ret V V (Bz.none Tryz.func191 V) (back _ _ _ _ (Ng (λg s=>aw _ g s) h))
   ·have a9:=(Us old).1 (Decidable.not_not.1 c3);obtain⟨l0,bz,b0,w0⟩:=old;obtain⟨z1,az,a0⟩:=a9;simp only at z1 az a0 c2;subst z1 az a0;have a1:w0≠0:=by omega
    have O:IB ⟨false,false,false,w0⟩= .EM ⟨false,false,false,w0⟩:=by unfold IB;rw [if_pos ⟨rfl,rfl,rfl,a1⟩]
    rw [O];refine C 4 V (Am (v:= .int .i32 (⟨false,false,false,w0 - 1⟩:M4).num) V (λρ h=>YK (m:=⟨false,false,false,w0⟩) K a1 (h _ _ V) (h _ _ V)) ?_);refine Am (v:= .int .i32 (⟨false,true,false,w0 - 1⟩:M4).num) V (λρ h=>NU (c:=2) (m:=⟨false,false,false,w0 - 1⟩) (by unfold Cj at K ⊢;simp only at K ⊢;omega) (by decide) (QO _) V (h _ _ V) (h _ _ V)) (C 7 V ?_);refine JL.uA V V (C 2 V ?_);refine λT bb=>(AS Tryz.prog false).stop (hC ⟨false,false,false,w0⟩ _ ay λX b1 be a2 bi bn=>?_);refine Po (kk:=kk) (p:= .EM ⟨false,false,false,w0⟩) (old:=⟨false,false,false,w0⟩) (nw:=⟨false,true,false,w0 - 1⟩) be U V V V V V N7 V V V (λq bo=>⟨some (.Fe false),by simp [Fam.BW],?_⟩) (λm q hm bo=>⟨some .Hl,by simp [Fam.BW,hm],?_⟩) T bb
    ·refine JL.done (C 5 V ?_);refine Am (v:= .pointer (some F.qA)) V (λρ h=>Fa (a:=F.uA) 0 1 Tryz.underlying140 MT V V V (h _ _ V)) (RU (kk:=kk) (st:=false) a2 U V V V V TX V V ?_);exact JL.done (JL.ret V V (Bz.none Tryz.func191 V) (back _ _ _ _ (Ng (λg s=>bi _ g s) h)))
    ·refine JL.done (C 5 V ?_);refine JL.uA V V (Hd (kk:=kk) (p:= .Hl) a2 U V V V V V G8 aV V λag b2 bv=>⟨some (IB ag),List.mem_singleton.2 V,?_⟩);refine C 3 V (JL.again ?_);rw [← av];exact El [(0,.pointer (some F.uA)),(4,.int .i32 ag.num)] V (bn ag bv)
 ·have bw:nw.s=true:=by rcases Bool.eq_false_or_eq_true nw.s with hh | hh;exact hh;exact absurd ((HO nw).2 hh) c
  rw [if_pos bw];refine C 3 V (Am (v:= .pointer (some F.qA)) V (λρ h=>Fa (a:=F.uA) 0 1 Tryz.underlying140 MT V V V (h _ _ V)) ?_);refine RU (kk:=kk) (st:=true) CY.stop U V V V V TX V V (JL.done ?_);exact JL.fin V V (Bz.none Tryz.func191 V) (back _ _ _ _ h)
set_option maxHeartbeats 4000000 in
theorem U4{F:Fam}{n:Nat}{L:Env}{ds:Ld_}{k:Li_}{cs:Lf_}{s:St}{b:Frame}{ops:Ao_}{i:Nat}{rest:List Nat}{d:Option Tmp}{x:Operand}{ats:Array TypeId}{ty:TypeId}{pp:String}{af:Ae_}{g:On_}{kk:Nat}(K:s.q=false)(al:ops[i]? =some ⟨d,.call ⟨.value (.func 163),#[x],ats⟩,ty,pp,af,g⟩)(hw:AL L ops ⟨d,.call ⟨.value (.func 163),#[x],ats⟩,ty,pp,af,g⟩=some true)(am:((b.kind != .early)&&Bb n d)=true)(ap:ev L x=some (.pointer (some F.uA)))
  (h:JL (AS Tryz.prog false) (Stop Tryz.prog F .HT) b n (As L d (.tuple #[])) ds (.inRegion ops rest::k) cs s):
  JL (AS Tryz.prog false) (Stop Tryz.prog F (.lk kk .GL)) b n L ds (.inRegion ops (i::rest)::k) cs s:=by
 refine Hc (vs:= [.pointer (some F.uA)]) al hw am Tryz.func163 (by decide+kernel) V (by simp [evs,ap]) (Nat.le_of_ble_eq_true V) λa0 back=>C 6 V (JL.uA V V ?_);refine Hd (kk:=kk) (p:= .GL) CY.stop K V V V V V G8 bK V λa1 a2 a3=>⟨some .Ka,List.mem_singleton.2 V,?_⟩;refine C 4 V (O5 (kk:=kk) (p:= .Ka) CY.stop K V (λ_ _=>V) V V V V Tryz.underlying229 Tryz.underlying185 PE V ?_);refine PG (kk:=kk) (p:= .J7) (ad:=F.uA) CY.stop K V (λ_ _=>V) V V V V (by simp) cr V V (C 2 V ?_);refine K9 (kk:=kk) (p:= .J3) CY.stop K V (λ_ _=>V) V V V V (by simp) Un (C 5 V ?_);refine JL.uA V V (Hb (kk:=kk) (p:= .HQ) (dl:= -1) CY.stop K V V V V V Hh V V λm q Y=>⟨{m with l:=false},some (QE m),?_,List.mem_singleton.2 V,?_⟩)
 ·obtain⟨aq,O,U,w3⟩:=m;obtain⟨Z,av⟩:=Y;simp only at Z;subst Z;have a4:w3<134217728:=av;have a5:=Bool.toNat_le O;have a6:=Bool.toNat_le U;have e:(⟨true,O,U,w3⟩:M4).num+(-1)=((2*O.toNat+4*U.toNat+8*w3:Nat):Int):=by simp only [M4.num,Bool.toNat_true];omega
  rw [e,Fy (by omega)];simp only [M4.num,Bool.toNat_false];omega
 ·have ac:C7 m:=Y.2;have aw:Cj ({m with l:=false}:M4):=(show C7 ({m with l:=false}:M4) from ac).Cj;refine C 8 V ?_;refine Gi (p:=({m with l:=false}:M4).num≠0) V (λc=>?_) (λc=>?_)
  ·refine JL.region (C 2 V ?_);refine VL (kk:=kk) (nw:={m with l:=false}) K V V V V V V ac aw (C 2 V ?_);refine K9 (kk:=kk) (p:= .Fi) CY.stop K V (λ_ _=>V) V V V V (by simp) Oo (JL.done ?_);exact JL.fin V V (Bz.none Tryz.func163 V) (back _ _ _ _ h)
  ·have ay:({m with l:=false}:M4).num=0:=Decidable.not_not.1 c;have ag:m.k=false/\m.s=false/\m.w=0:=by
    obtain⟨aq,O,U,w3⟩:=m;cases O <;> cases U <;> simp [M4.num] at ay ⊢ <;> omega
   have az:QE m= .Fi:=by unfold QE;rw [if_neg (by rw [ag.2.1];exact Bool.false_ne_true),if_neg (λe=>e.2 ag.2.2)]
   rw [az];refine C 2 V (K9 (kk:=kk) (p:= .Fi) CY.stop K V (λ_ _=>V) V V V V (by simp) Oo ?_);exact JL.done (JL.fin V V (Bz.none Tryz.func163 V) (back _ _ _ _ h))
theorem JO.Yh{F:Fam}{n:Nat}{M:Env}{ds:Ld_}{cs:Lf_}{s:St}{b:Frame}{kk:Nat}(K:b.roundOf=none)(O:s.q=false)(h:JO (AS Tryz.prog false) (Stop Tryz.prog F .HT) b n M ds cs s):
  JO (AS Tryz.prog false) (Stop Tryz.prog F (.lk kk .GL)) b n M (dcall 122 #[.pointer (some F.uA)]::ds) cs s:=by
 refine JO.enter (vs:= [.pointer (some F.uA)]) K Tryz.func122 (by decide+kernel) V (Nat.le_of_ble_eq_true V) λT U todo=>C 3 V (Am (v:= .pointer (some F.uA)) V (λρ h=>Fa (a:=F.uA) 1 0 Tryz.underlying142 (AU Tryz.type140) V V V (h _ _ V)) ?_);refine U4 (kk:=kk) O V V V V (JL.done ?_);exact JL.out V (JO.leaveD V Tryz.func122 V (.inl V) (h T U todo))
end Pal
namespace Pal
open Go Go.Conc
open Go.ConcN (upd)
variable {ops:Ao_}{i:Nat}{rest:List Nat}{d:Option Tmp}{f:FuncId}{ats:Array TypeId}{ty t u tw:TypeId}{pp:String}{af:Ae_}{g:On_}{kk:Nat}
section
variable {P:Program}{F:Fam}{n:Nat}{L L':Env}{ds:Ld_}{k:Li_}{cs:Lf_}{s s':St}{b:Frame}
variable {x y z:Operand}
theorem Vg{m:Nat}(h:Bl P t=some m)(w:World):(Go.sizeOf t).run P w= .ok m w:=by
 unfold Bl at h;simp only [Go.sizeOf,typeInfo,bind,Sem.bind,program,Sem.run];cases hi:P.info? t with
 | none=>rw [hi] at h;cases h
 | some j=>rw [hi] at h;simp at h;subst h;rfl
theorem X2{w:World}{K:Nat->Value}(h:F.FD w K)(O:kk<F.n):w.cell? ⟨F.fd,kk,none⟩=some (K kk)/\w.frozen? ⟨F.fd,kk,none⟩=false:=by
 unfold Fam.FD Fam.IC at h;constructor
 ·simp [World.cell?,h,O]
 ·simp [World.frozen?,h]
theorem VA{w:World}{O:Nat->Value}{v:Value}(h:F.FD w O)(ac:kk<F.n):w.setCell ⟨F.fd,kk,none⟩ v=F.Hj w (upd O kk v):=by
 unfold Fam.Hj World.setCell;congr 1;apply Array.ext_getElem?;intro i;unfold Fam.FD Fam.IC at h;rw [Array.getElem?_modify];have U:F.fd<w.heap.size:=by
  rcases Nat.lt_or_ge F.fd w.heap.size with K | K
  ·exact K
  ·simp [Array.getElem?_eq_none K] at h
 by_cases e:F.fd=i
 ·subst e;rw [Array.getElem?_setIfInBounds_self_of_lt U,h];simp only [if_true,Option.map_some,Fam.IC,Option.some.injEq,Obj.cells.injEq,and_true];apply Array.ext
  ·simp
  ·intro j ag Y;by_cases e2:kk=j
   ·subst e2;simp [upd]
   ·have Z:¬j=kk:=λe=>e2 e.symm;simp [upd,Z];rw [Array.getElem_setIfInBounds (by simpa using Y),if_neg e2];simp
 ·rw [Array.getElem?_setIfInBounds_ne e,if_neg e]
theorem VK{X:Ph->GP}(av:CY P F X){a:Option Addr}{l c:Nat}(aw:s.q=false)(Y:kk<F.n)
  (ay:ops[i]? =some ⟨d,.store t x y,ty,pp,af,g⟩) (Z:b.roundOf=none) (hw:AL L ops ⟨d,.store t x y,ty,pp,af,g⟩=some true) (U:((b.kind != .early)&&Bb n d)=true)
  (az:Bl P t=some 1) (a0:(P.funcs[b.fn]?).any (·.norace)=false) (a1:ev L x=some (.pointer (some ⟨F.fd,kk,none⟩))) (a2:ev L y=some (.slice a l c)) (hm:F.msg kk (.slice a l c) s.E)
  (h:JL (AS P false) (X (.lk kk .GL)) b n (As L d undef) ds (.inRegion ops rest::k) cs s):
  JL (AS P false) (X (.lk kk .DJ)) b n L ds (.inRegion ops (i::rest)::k) cs s:=λT K=>by
 simp only [Bool.and_eq_true] at U
 refine(AS P _).stop (av _ _ _ {
  run:=rfl,offers:=rfl,quiet:=(by simp [Fam.CL]),live:=λ_=>aw,act:=(by simp [Fam.act]),IX:=(by simp),Fh:=(by simp),go:=(by simp),lk:=λk' l e a3=>by cases e;exact absurd rfl a3
  Cs:=(by simp),store:=λk' e=>?_,fin:=(by simp)})
 cases e
 refine⟨_,hm,G (fr b (CJ T d undef) ds (.inRegion ops rest::k)) cs,rfl,λw a4 ac=>?_,h _ (K.put U.2 _)⟩
 obtain⟨c1,c2⟩:=X2 ac Y
 have ag:execOp (⟨T,ds⟩:Act).eval ⟨d,.store t x y,ty,pp,af,g⟩=(do Instr.storeAt t (.pointer (some ⟨F.fd,kk,none⟩)) (.slice a l c);pure Next.skip):=by
  rw [KW];simp only [execOp,K.ev a1,K.ev a2]
 have al:(Value.slice a l c).cells= #[.slice a l c]:=rfl;have am:(Value.slice a l c).oneCell'=true:=rfl;have ap:(Addr.add ⟨F.fd,kk,none⟩ 0)=⟨F.fd,kk,none⟩:=by rw [Dm rfl];rfl
 have aq:=Vg (P:=P) az w;have O:=run_store P w ⟨F.fd,kk,none⟩ (.slice a l c) .plain am;rw [c1] at O;simp only [c2,Bool.false_eq_true,if_false] at O;rw [BK Z,BK Z,stepG_none (a:=⟨T,ds⟩) (w':=F.Hj w (upd a4 kk (.slice a l c))) ay (B4 K hw) (by simpa using U.1) (by
  rw [ag]
  simp [Instr.storeAt,Instr.sureAddr,storeVar,al,aq,storeCells,ap,O,VA ac Y,Result.andThen]),Ek]
 have e2:listed P b.fn ⟨T,ds⟩ ⟨d,.store t x y,ty,pp,af,g⟩ w= #[⟨.cell ⟨F.fd,kk,none⟩,true,false⟩]:=by
  unfold listed;rw [ag];have a5:=events_store (P:=P) (w:=w) (es:= #[]) ⟨F.fd,kk,none⟩ (.slice a l c) .plain am;have a6:(do Instr.storeAt t (.pointer (some ⟨F.fd,kk,none⟩)) (.slice a l c);pure Next.skip:Sem Next).events P w #[]= #[⟨.cell ⟨F.fd,kk,none⟩,true,false⟩]:=by
   simp [Instr.storeAt,Instr.sureAddr,storeVar,al,aq,storeCells,ap,O,c1,c2,a5,Result.evThen]
  rw [a6,seen_def];simp [seenStep,a0]
 rw [e2]
end
end Pal
namespace Pal
open Go Go.Conc Go.Proofs
open Go.Proofs.Tryz
open Go.Conc.Lib Go.ConcR.Gen
theorem aT:(Tryz.prog.funcs[117]?).any (·.norace)=false:=by rw [func117];rfl
def KD(fu_:Nat)(K:A4)(p:Aw)(j:Nat):Option (List Int):=
 (f120 fu_ K).bind λO=>
 (f119 fu_ ([O]:List (List (AH))) ((j:Nat):Int) p ([]:List ((Nat×Be)×Bool))).bind λU=>
 some U.1
set_option maxHeartbeats 1000000 in
theorem aK{F:Fam}{j:Nat}{E:LH}{ap a1 aq:Ao}{Z c2 av ac op ag al am oi kf off:Nat}{p:Aw}{O:A4}(a3:At E ac op [.slice ap p.length Z])(a4:Al AA E ap Z p)(a5:At E ag al [sV a1 O.1 c2,sV aq O.2 av])(a6:Al (rL rI) E a1 c2 O.1)(a7:Al AA E aq av O.2)(hi:At E am oi [iV ((j:Nat):Int)])(a8:At E kf off [.slice (some ⟨F.fd,0,none⟩) F.n F.n]){fu_:Nat}{r:List Int}(az:KD fu_ O p j=some r)(a0:j<F.n)(a9:∀E' a c,Le E E'->Al rI E' a c r->(r= []->a=none)->F.msg j (.slice a r.length c) E'):
  Way Tryz.prog false (Stop Tryz.prog F (F.start j)) (born Tryz.prog ⟨.fn (.func 117) [.pointer (some F.sA),Aj ac op,Aj ag al,Aj am oi,.pointer (some F.uA),Aj kf off].toArray,#[]⟩) ⟨E,λ_=>none,false⟩:=by
 refine W7 (fn:=Tryz.f117) (vs:= [.pointer (some F.sA),Aj ac op,Aj ag al,Aj am oi,.pointer (some F.uA),Aj kf off]) func117 (by decide+kernel) V (by simp) (Nat.le_of_ble_eq_true V) ?_;obtain⟨H,bb⟩:∃H:LH,H=λ_=>none:=⟨_,V⟩;rw [← bb];have be:Ap E H []:=trivial;refine(?_:JL (AS Tryz.prog false) (Stop Tryz.prog F (.lk j .F8)) (baseD 117) Tryz.f117.ntmps (Gj 0 [.pointer (some F.sA),Aj ac op,Aj ag al,Aj am oi,.pointer (some F.uA),Aj kf off]) [] [.code _] [Lj Tryz.prog] (Ak E H []));unfold KD at az;refine C 2 V (JL.defer (vs:= [.pointer (some F.sA)]) V V V V V ?_);refine C 3 V (C8 0 a3 BC V V V ?_);refine JS.makeMap V V V be λr1 bi=>Am (v:= .agg #[sV ap p Z,.map (some r1)]) V (λρ h=>Dh [(0,1),(1,1)] h (Ds type153) underlying153 ⟨V,AU type80,V,AU type151,trivial⟩ V V) (JS.box (v:= .agg #[sV ap p Z,.map (some r1)]) V V V bi V λct bn=>?_);refine C 3 V (Eh 1 bn V λcw K bo bv=>?_);refine Fc 5 λaw=>Dd 0 aw V V (JV 1 aw (a5.Ah K) Gd Eg V V V ?_);refine Ex 4 aw 0 (hi.Ah K) A7 V V V V ?_;obtain⟨a2,bw,bx⟩:=bs az;refine JG.call (i:=2) (vs:= [.agg #[sV a1 O.1 c2,sV aq O.2 av]]) (aA (a6.Ah K) (a7.Ah K) bw) (by decide+kernel) V V V (Ba func120 V) V bv ?_;rintro _ cy _ U ⟨bz,b0,rfl,rfl,b1⟩ b2;refine JG.one (i:=3) V (by decide+kernel) (Take.Ff (pp:=(rL (rM rI false rI false))) [sV bz a2 b0] ([a2]:List (List AH)) b2 V V V underlying158 Jy MO (by decide) V V V ⟨⟨_,_,V,b1⟩,trivial⟩ λcG cH b3 b4=>?_);refine Dp [5,6] (B9 3 b3 b4 V λcI Y b5 b6=>?_);obtain⟨ca,cc,ce⟩:=bs bx;refine Cr 0 (ZN b5 (bo.Ah (U.Ad Y)) (a4.Ah ((K.Ad U).Ad Y)) BE.nil cc) V V (Ba func119 V) b6 V ?_;rintro _ cJ _ ay ⟨cK,cM,cN,rfl,rfl,ci,co,cO⟩ cP;refine C 3 V ?_;have cp:r=ca.1:=(Option.some.inj ce).symm;subst cp;refine JL.region (Wn (kk:=j) V V V V V ?_);refine C 3 V (JL.defer (vs:= [.pointer (some F.uA)]) V V V V V ?_);refine C 2 V (C8 0 (a8.Ah (((K.Ad U).Ad Y).Ad ay)) FT V V V ?_);refine C8 0 (hi.Ah (((K.Ad U).Ad Y).Ad ay)) A7 V V V (C 1 V ?_);refine Am (v:= Aj F.fd j) V (λρ h=>Yl.to (Fx (xs:=List.replicate F.n ()) (m:=((j:Nat):Int)) (xv:=()) (List.length_replicate) (by simp [ix,a0]) underlying22 FG (h _ _ V) (h _ _ V)) (by show Aj F.fd (j*1)=_;rw [Nat.mul_one])) (VK (kk:=j) CY.stop V a0 V V V V FG aT V V (a9 _ _ _ (((K.Ad U).Ad Y).Ad ay) ci co) ?_);exact JL.done (JL.out V (JO.Yh (kk:=j) V V (JO.bl Tryz.Kx V V (JO.leaveD V func117 V (.inr V) VG))))
theorem OL.Zv{e:TypeId}{E:LH}{r c:Nat}{seg:Seg}{xs:Lv_}(h:OL e rV E (AP r) c seg xs)(Y:c=xs.length):seg= [(r,.cells xs.toArray e (0,0))]:=by
 obtain⟨wss,ag,K,Z⟩:=h;rcases ag with⟨al,_⟩ | ⟨bk,f,am,e2,ac,ap,O⟩
 ·cases al
 cases am;have hw:wss=xs.map λx=> [x]:=by
  apply List.ext_getElem?;intro i;rw [List.getElem?_map];cases U:xs[i]? with
  | none=>rw [List.getElem?_eq_none (by rw [K];exact List.getElem?_eq_none_iff.1 U)];rfl
  | some x=>
   have hi:i<wss.length:=by rw [K];exact(List.getElem?_eq_some_iff.1 U).1
   have:=(Z i x wss[i] U (List.getElem?_eq_getElem hi)).1;rw [List.getElem?_eq_getElem hi,this];rfl
 have aq:wss.flatten=xs:=by
  rw [hw];clear hw O Z K ac ap Y
  induction xs with
  | nil=>rfl
  | cons x xs av=>simp [av]
 rw [aq] at O;have ay:rV.n=1:=V;have aw:f.toList=xs:=by
  rw [O];rw [List.take_of_length_le (by rw [Array.length_toList,ac,Y];exact Nat.le_refl _)]
 rw [e2,← aw]
noncomputable def KF:Code:=match(Tryz.f77.body).bind (Jk 0) with | some (.loop c)=>c | _=> .skip
noncomputable def UC:Code:=match(Tryz.f77.body).bind (Jk 2) with | some (.loop c)=>c | _=> .skip
set_option maxHeartbeats 1000000 in
theorem XZ{F:Fam}{n:Nat}(aw:F.n=n)(bx:0<n)(bz:n<=1000){E:LH}{ap a1 al:Ao}{am c2 aq:Nat}{p:Aw}{O:A4}(ay:Al AA E ap am p)(az:Al (rL rI) E a1 c2 O.1)(a0:Al AA E al aq O.2)(hlen:p.length=n){Y Z kf:Nat}(a2:At E Y 0 [.slice ap p.length am])(a3:At E Z 0 [sV a1 O.1 c2,sV al O.2 aq])(a4:At E kf 0 [.slice (some ⟨F.fd,0,none⟩) F.n F.n]){fu_:Nat}{xs:Nat->List Int}(a5:∀j,j<n->KD fu_ O p j=some (xs j))(a6:∀j,j<n->∀E' a c,Al rI E' a c (xs j)->(xs j= []->a=none)->F.msg j (.slice a (xs j).length c) E'){j:Nat}(ac:j<n){ag H:LH}(hle:Le E ag)(a7:Ap ag H []){k:Li_}{cs:Lf_}
  (h:∀U,Le E U->Ap U H []->JL (AS Tryz.prog true) (Stop Tryz.prog F (F.EH j)) (base 77) Tryz.f77.ntmps [(2,Aj Z 0),(3,Aj Y 0),(6,.pointer (some F.uA)),(7,.pointer (some F.sA)),(8,Aj kf 0),(19,iV (p.length:Int)),(20,iV ((j+1:Nat):Int))] [] (.inLoop KF::k) cs (Ak U H [])):
  JL (AS Tryz.prog true) (Stop Tryz.prog F (.Gq j)) (base 77) Tryz.f77.ntmps [(2,Aj Z 0),(3,Aj Y 0),(6,.pointer (some F.uA)),(7,.pointer (some F.sA)),(8,Aj kf 0),(19,iV (p.length:Int)),(20,iV ((j:Nat):Int))] [] (.code KF:: .inLoop KF::k) cs (Ak ag H []):=by
 refine C 2 V (Am (v:= .bool true) V (λρ h=>Yl.to (Yl.lss (h _ _ V) (h _ _ V)) (by rw [decide_eq_true (show((j:Nat):Int)<(p.length:Int) by omega)])) ?_);refine C 9 V (BV a7 CI λrn a8=>?_);refine BJ 0 a8 AG λa9=>?_;refine Eh 0 a9 V λU bb be bi=>Ib (S':= []) (by simp) bi λbn=>?_;have K:=hle.trans bb;refine C 3 V (V2 Tryz.Kx V V V V V V ?_);refine C 2 V (Am (v:= .func (.func 117) #[] ([.pointer (some F.sA),Aj Y 0,Aj Z 0,Aj rn 0,.pointer (some F.uA),Aj kf 0]:Lv_).toArray) V (λρ h=>KU (by simp) (by simp [h (.tmp 7) _ rfl,h (.tmp 3) _ rfl,h (.tmp 2) _ rfl,h (.tmp 9) _ rfl,h (.tmp 6) _ rfl,h (.tmp 8) _ rfl])) ?_);have av:=aK (F:=F) (j:=j) (a2.Ah K) (ay.Ah K) (a3.Ah K) (az.Ah K) (a0.Ah K) be (a4.Ah K) (a5 j ac) (by rw [aw];exact ac) (λE' a c _ bo bv=>a6 j ac E' a c bo bv);refine ZL (fi:= #[]) V V V V V V V (by first | exact av | (simp only [List.append_toArray,List.nil_append,Array.append_empty,Array.empty_append];exact av)) ?_
 refine C 3 V ?_;have bw:Ax (((j:Nat):Int)+1)=some (((j+1:Nat)):Int):=by unfold Ax;rw [if_pos (by omega)];simp
 refine Br bw V V V (C 2 V ?_);exact AF (h U K bn) V
theorem Vx{F:Fam}{n:Nat}(Y:F.n=n)(aw:0<n)(ay:n<=1000){E:LH}{ap a1 ag:Ao}{al c2 am:Nat}{p:Aw}{O:A4}(az:Al AA E ap al p)(a0:Al (rL rI) E a1 c2 O.1)(a2:Al AA E ag am O.2)(hlen:p.length=n){Z ac kf:Nat}(a3:At E Z 0 [.slice ap p.length al])(a4:At E ac 0 [sV a1 O.1 c2,sV ag O.2 am])(a5:At E kf 0 [.slice (some ⟨F.fd,0,none⟩) F.n F.n]){fu_:Nat}{xs:Nat->List Int}(a6:∀j,j<n->KD fu_ O p j=some (xs j))(a7:∀j,j<n->∀E' a c,Al rI E' a c (xs j)->(xs j= []->a=none)->F.msg j (.slice a (xs j).length c) E'){H:LH}{k:Li_}{cs:Lf_}
  (h:∀K,Le E K->Ap K H []->JL (AS Tryz.prog true) (Stop Tryz.prog F .Dj) (base 77) Tryz.f77.ntmps [(2,Aj ac 0),(3,Aj Z 0),(6,.pointer (some F.uA)),(7,.pointer (some F.sA)),(8,Aj kf 0),(19,iV (p.length:Int)),(20,iV (p.length:Int))] [] (.code KF:: .inLoop KF::k) cs (Ak K H [])):
  ∀(m j:Nat),j+m=n->0<m->∀U,Le E U->Ap U H []->JL (AS Tryz.prog true) (Stop Tryz.prog F (.Gq j)) (base 77) Tryz.f77.ntmps [(2,Aj ac 0),(3,Aj Z 0),(6,.pointer (some F.uA)),(7,.pointer (some F.sA)),(8,Aj kf 0),(19,iV (p.length:Int)),(20,iV ((j:Nat):Int))] [] (.code KF:: .inLoop KF::k) cs (Ak U H []):=by
 intro m
 induction m with
 | zero=>intro j _ a8;cases a8
 | succ m a9=>
  intro j bi _ U hle bb;refine XZ Y aw ay az a0 a2 hlen a3 a4 a5 a6 a7 (by omega) hle bb λK aq av=>JL.again ?_;by_cases hm:m=0
  ·subst hm;have be:j+1=F.n:=by rw [Y];omega
   have e:F.EH j= .Dj:=by unfold Fam.EH;rw [if_pos be]
   rw [e];have e2:((j+1:Nat):Int)=(p.length:Int):=by rw [hlen];omega
   rw [e2];exact h K aq av
  ·have e:F.EH j= .Gq (j+1):=by unfold Fam.EH;rw [if_neg (by rw [Y];omega)]
   rw [e];exact a9 (j+1) (by omega) (by omega) K aq av
def Om(fu_:Nat)(K:A4)(p:Aw)(j:Nat):List Int:=(KD fu_ K p j).getD []
def Md(n:Nat)(xs:Nat->List Int):(List Int)×Bool:=match(List.range n).find? (λj=> !(xs j).isEmpty) with | some j=>(xs j,true) | none=>([],false)
def f77(fu_:Nat)(K:A4)(p:Aw):Option ((List Int)×Bool):= if p.length=0 then some ([],true) else if p.length<=1000/\(List.range p.length).all (λj=>(KD fu_ K p j).isSome)=true then some (Md p.length (Om fu_ K p)) else none
theorem V4{n:Nat}{xs:Nat->List Int}{i:Nat}(hi:i<n)(K:xs i≠ [])(O:∀k,k<i->xs k= []):Md n xs=(xs i,true):=by
 unfold Md;have:(List.range n).find? (λj=> !(xs j).isEmpty)=some i:=by
  rw [List.find?_range_eq_some];refine⟨by simp [K],by simpa using hi,λj U=>by simp [O j U]⟩
 rw [this]
theorem VS{n:Nat}{xs:Nat->List Int}(K:∀k,k<n->xs k= []):Md n xs=([],false):=by
 unfold Md;have:(List.range n).find? (λj=> !(xs j).isEmpty)=none:=by
  rw [List.find?_eq_none];intro j O;simp [K j (List.mem_range.1 O)]
 rw [this]
theorem Yb{E:LH}{a:Ao}{c:Nat}{xs:List Int}(h:Al rI E a c xs)(K:xs≠ []):a.isNone=false:=by
 rcases h.2 with⟨e,_⟩ | ⟨bk,off,e,_⟩
 ·exact absurd e K
 ·rw [e];rfl
set_option maxHeartbeats 1000000 in
theorem ZK{J:Judge Tryz.prog}{Q:Gs_}{Y:Frame}{cs:Lf_}{fd n:Nat}{f:Nat->Value}{xs:Nat->List Int}(ay:n<=1000){E H:LH}{k:Li_}(ag:Ap E H [[(fd,.cells (Array.ofFn λi:Fin n=>f i) 28 (0,0))]])(hm:∀k,k<n->∃a c,f k= .slice a (xs k).length c/\Al rI E a c (xs k)/\(xs k= []->a=none))
  (al:∀i a c L',i<n->xs i≠ []->(∀k,k<i->xs k= [])->Al rI E a c (xs i)->look L' 4=some (.slice a (xs i).length c)->look L' 5=some (.bool true)->∀k',JL J Q (base 77) Tryz.f77.ntmps L' [] (.code .ret::k') (Y::cs) (Ak E H [[(fd,.cells (Array.ofFn λi:Fin n=>f i) 28 (0,0))]]))
  (am:(∀k,k<n->xs k= [])->JL J Q (base 77) Tryz.f77.ntmps [] [] k (Y::cs) (Ak E H [[(fd,.cells (Array.ofFn λi:Fin n=>f i) 28 (0,0))]])):
  ∀m i,i+m=n->(∀k,k<i->xs k= [])->JL J Q (base 77) Tryz.f77.ntmps [(27,.slice (AP fd) n n),(28,iV (n:Int)),(29,iV (i:Int))] [] (.code UC:: .inLoop UC:: .inBlock 2::k) (Y::cs) (Ak E H [[(fd,.cells (Array.ofFn λi:Fin n=>f i) 28 (0,0))]]):=by
 intro m
 induction m with
 | zero=>
  intro i hi K;refine C 2 V (Am (v:= .bool false) V (λρ h=>Yl.to (Yl.lss (h _ _ V) (h _ _ V)) (by rw [decide_eq_false (show ¬((i:Int)<(n:Int)) by omega)])) ?_);refine C 4 V (El [] V ?_);exact am λk az=>K k (by omega)
 | succ m ap=>
  intro i hi K;have O:i<n:=by omega
  obtain⟨a,c,aq,ac,av⟩:=hm i O;refine C 2 V (Am (v:= .bool true) V (λρ h=>Yl.to (Yl.lss (h _ _ V) (h _ _ V)) (by rw [decide_eq_true (show(i:Int)<(n:Int) by omega)])) ?_);refine C 8 V (Am (v:= Aj fd i) V (λρ h=>Yl.to (Fx (xs:=List.replicate n ()) (m:=((i:Nat):Int)) (xv:=()) (List.length_replicate) (by simp [ix,O]) underlying22 FG (h _ _ V) (h _ _ V)) (by show Aj fd (i*1)=_;rw [Nat.mul_one])) ?_);refine Am (v:= .slice a (xs i).length c) V (λρ h=>Yl.load Jx (h _ _ V) (BI (j:=0) (off:=i) ag V (by simp [O,aq]))) (C 5 V ?_);refine Am (v:= .bool (!a.isNone)) V (λρ h=>VQ underlying28 (h _ _ V) (h _ _ V)) (JL.done ?_);by_cases U:xs i= []
  ·have Z:(!a.isNone)=false:=by rw [av U];rfl
   rw [Z];refine C 4 V ?_;have aw:Ax (((i:Nat):Int)+1)=some (((i+1:Nat)):Int):=by unfold Ax;rw [if_pos (by omega)];simp
   refine Br aw V V V ?_;refine C 2 V ?_;refine JL.again ?_;refine Fo ?_ (ap (i+1) (by omega) (λk a0=>by
    by_cases e:k=i
    ·subst e;exact U
    ·exact K k (by omega)))
   exact⟨V,V,V,trivial⟩
  ·have Z:(!a.isNone)=true:=by rw [Yb ac U];rfl
   rw [Z];exact C 7 V (al i a c _ O U K ac V V _)
set_option maxHeartbeats 2000000 in
theorem bI{E:LH}{a1:Ao}{c2:Nat}{a8:Ao}{a9:Nat}{ap:Ao}{bb:Nat}{O:A4}{p:Aw}(cc:Al (rL rI) E a1 c2 O.1)(ce:Al AA E a8 a9 O.2)(ci:Al AA E ap bb p){fu_:Nat}{r:(List Int)×Bool}(U:f77 fu_ O p=some r):
  AQ (GR Tryz.prog) 77 [.agg #[sV a1 O.1 c2,sV a8 O.2 a9],sV ap p bb] E [] (λw E' B'=>∃(be:Ao) (bi:Nat),w= .tuple #[sV be r.1 bi,.bool r.2]/\B'= []/\Al rI E' be bi r.1):=by
 refine Qg func77 V V λQ db cs H co Y=>?_;unfold f77 at U;refine C 2 V (Dv co λcp dc ct cw cy=>?_);refine Dv cy λcG dd bn am cH=>?_;refine Ib (S':= []) (by simp) cH λbo=>?_;have bv:=ct.Ad bn;refine C 6 V (C8 0 am BC V V V ?_);refine JL.ln underlying80 V V V (C 2 V ?_);refine Gi (p:=(p.length:Int)=0) V (λcI=>?_) (λcI=>?_)
 ·rw [if_pos (by omega)] at U;have Z:=(Option.some.inj U).symm;subst Z;refine C 5 V (AZ func77 V V ?_);exact Y _ _ _ _ bv V ⟨none,0,V,V,Al.nil⟩ bo
 rw [if_neg (by omega)] at U;split at U
 rotate_left
 ·cases U
 rename_i hb;obtain⟨bw,cJ⟩:=hb;have Z:=(Option.some.inj U).symm;have ag:∀j,j<p.length->KD fu_ O p j=some (Om fu_ O p j):=λj az=>by
  have aq:=List.all_eq_true.1 cJ j (List.mem_range.2 az);obtain⟨x,a0⟩:=Option.isSome_iff_exists.1 aq;unfold Om;rw [a0];rfl
 generalize de:Om fu_ O p=xs at ag Z;have bx:0<p.length:=by omega
 refine C 3 V (BV bo (Ds type142) λmu cK=>?_);refine C 3 V (BV cK (Ds type148) λwg cM=>?_);refine JL.done (Ib (S':= [[(mu,.cells #[.int .i32 0,.int .u32 0] 142 (0,0))],[(wg,.cells #[.int .u64 0,.int .u32 0] 148 (0,0))]]) (by simp [Value.cells]) cM λcN=>?_);refine C 2 V (C8 0 am BC V V V ?_);refine JL.ln underlying80 V V V ?_;have cO:JZ (p.length:Int) (Value.slice none 0 0)=some (List.replicate p.length nS):=by unfold JZ;rw [if_pos (by omega)];simp
 refine JS.make (pp:=rV) cO V V V V V underlying22 FG (Dl type28) (by decide) KS (by decide) ⟨V,V⟩ cN λfd df cP bz=>?_;have cQ:=OL.Zv cP V;subst cQ;obtain⟨K,b0⟩:∃K,K=List.replicate p.length (Value.slice none 0 0):=⟨_,V⟩;have b1:(List.replicate p.length (Value.slice none 0 0)).length=p.length:=by simp
 rw [← b0] at bz b1 ⊢;rw [b1];refine BV bz (Ds type22) λkf cR=>?_;refine BJ 3 cR FH λcT=>?_;refine Eh 3 cT V λac av b2 cV=>Ib (S':= [[(mu,.cells #[.int .i32 0,.int .u32 0] 142 (0,0))],[(wg,.cells #[.int .u64 0,.int .u32 0] 148 (0,0))],[(fd,.cells K.toArray 28 (0,0))]]) (by simp) cV λal=>?_;have aw:=bv.Ad av;refine C 4 V (C8 0 (am.Ah av) BC V V V ?_);refine JL.ln underlying80 V V V (C 3 V ?_);refine IJ (El [(2,Aj cp 0),(3,Aj cG 0),(6,.pointer (some (⟨mu,0,none⟩:Addr))),(7,.pointer (some (⟨wg,0,none⟩:Addr))),(8,Aj kf 0),(19,iV (p.length:Int)),(20,iV ((0:Nat):Int))] V ?_);have b3:=Nd.iff.1 al;intro T cW;let F:Fam:=⟨wg,mu,fd,148,142,28,p.length,λkk v E=>kk<p.length/\∃a c,v= .slice a (xs kk).length c/\Al rI E a c (xs kk)/\(xs kk= []->a=none),λg s=>(GR Tryz.prog).ok Q g s⟩;have ay:=b3.1;simp only [List.flatten_cons,List.flatten_nil,List.append_nil,List.cons_append,List.nil_append,List.map_cons,List.map_nil,List.nodup_cons,List.mem_cons,List.not_mem_nil,not_or,or_false,not_false_eq_true,and_true,List.nodup_nil] at ay;have cX:(Ak ac H [[(mu,.cells #[.int .i32 0,.int .u32 0] 142 (0,0))],[(wg,.cells #[.int .u64 0,.int .u32 0] 148 (0,0))],[(fd,.cells K.toArray 28 (0,0))]]).H fd=some (F.IC λ_=> nS):=by
  rw [J6 (j:=2) al rfl];have:(Array.ofFn λ_:Fin p.length=>Value.slice none 0 0)=K.toArray:=by
   rw [b0];apply Array.ext
   ·simp
   ·intro i aq b4;simp
  show some (Obj.cells K.toArray 28 (0,0))=some (Obj.cells (Array.ofFn λ_:Fin p.length=>Value.slice none 0 0) 28 (0,0));rw [this]
 refine YJ F (f₀:=λ_=> .slice none 0 0) (show 1<=p.length by omega) (show p.length<134217728 by omega) ?_ ay.1.1 (λe=>ay.2 e.symm) (λe=>ay.1.2 e.symm) (J6 (j:=1) al V) (J6 (j:=0) al V) cX ?_ (λg s h=>h)
 ·rintro kk v dg dh cY ⟨aq,a,c,b4,a2,a3⟩;exact⟨aq,a,c,b4,a2.Ah cY,a3⟩
 have cZ:=VH al;show Way Tryz.prog true (Stop Tryz.prog F (.Gq 0)) _ (⟨(Ak ac H [[(mu,.cells #[.int .i32 0,.int .u32 0] 142 (0,0))],[(wg,.cells #[.int .u64 0,.int .u32 0] 148 (0,0))],[(fd,.cells K.toArray 28 (0,0))]]).E,JK (Ak ac H [[(mu,.cells #[.int .i32 0,.int .u32 0] 142 (0,0))],[(wg,.cells #[.int .u64 0,.int .u32 0] 148 (0,0))],[(fd,.cells K.toArray 28 (0,0))]]).H wg mu fd,false⟩:St);rw [show(Ak ac H [[(mu,.cells #[.int .i32 0,.int .u32 0] 142 (0,0))],[(wg,.cells #[.int .u64 0,.int .u32 0] 148 (0,0))],[(fd,.cells K.toArray 28 (0,0))]]).E=ac from rfl,cZ];have c0:Ap ac H []:=trivial;have c1:H fd=none:=(b3.2 (fd,.cells K.toArray 28 (0,0)) (by simp)).2;refine Vx (F:=F) (n:=p.length) V bx bw (ci.Ah aw) (cc.Ah aw) (ce.Ah aw) V (am.Ah av) (cw.Ah (bn.Ad av)) b2 ag (λj az E' a c c3 c4=>⟨az,a,c,V,c3,c4⟩) (λc5 b5 di=>?_) p.length 0 (by omega) bx ac Ay c0 T cW;refine C 2 V ?_;refine Am (v:= .bool false) V (λρ h=>Yl.to (Yl.lss (h _ _ V) (h _ _ V)) (by rw [decide_eq_false (show ¬((p.length:Int)<(p.length:Int)) by omega)])) ?_;refine C 6 V ?_;refine JL.wait Tryz.Kx (F:=F) (show p.length<2147483648 by omega) V V V V V (Q:=Q) (λg s h=>h) λa4 f b6 c6 dj c7=>?_;have a5:Ap a4 H [[(fd,F.IC f)]]:=Nd.iff.2 ⟨by simp,λq ag=>by
  simp at ag;subst ag;exact⟨c6,c1⟩⟩
 have es:(⟨a4,F.JR (Ak c5 H []).H f,false⟩:St)=Ak a4 H [[(fd,F.IC f)]]:=by
  unfold Ak mk;congr 1
 rw [es];have ca:=(aw.Ad b5).Ad b6;refine C 4 V (C8 0 (b2.Ah (b5.Ad b6)) FT V V V ?_);refine JL.ln underlying22 V V V (C 3 V ?_);refine IJ (El [(27,.slice (AP fd) p.length p.length),(28,iV (p.length:Int)),(29,iV ((0:Nat):Int))] V ?_);refine ZK (n:=p.length) (f:=f) (xs:=xs) bw a5 (λk Y=>?_) (λi a c L' hi a0 a6 c8 a2 a3 k'=>?_) (λa6=>?_) p.length 0 (by omega) (λk Y=>absurd Y (Nat.not_lt_zero _))
 ·obtain⟨_,a,c,c9,e2,da⟩:=c7 k Y;exact⟨a,c,c9,e2,da⟩
 ·rw [V4 hi a0 a6] at Z;subst Z;exact JL.ret (v:= .tuple #[.slice a (xs i).length c,.bool true]) V V (Bz.list func77 V (vs:= [.slice a (xs i).length c,.bool true]) ⟨a2,a3,trivial⟩) (Ro a5 λa7=>Y _ _ _ _ ca V ⟨a,c,V,V,c8⟩ a7)
 ·rw [VS a6] at Z;subst Z;refine C 5 V (AZ func77 V V ?_);exact Ro a5 λa7=>Y _ _ _ _ ca V ⟨none,0,V,V,Al.nil⟩ a7
end Pal
namespace Pal
open Go Go.Conc Go.Proofs
open Go.Proofs.Tryz
def TN(fu_:Nat)(Z:A4×Int)(O:AX)(K:Int):Option (Bm Int ((Aw×(List Int)×Int)⊕(Unit))):= if K<(O.length:Int) then((ix O K).bind λU=> (f77 fu_ Z.1 U).bind λY=> if Y.2=true then(some (.done (Sum.inl (U,Y.1,0)))) else((Ax (K+1)).bind λac=> some (.more ac))) else(some (.done (Sum.inr ())))
def f27(fu_:Nat)(p0:A4):Option (Aw×(List Int)×Int):= (f70 fu_ p0 ([])).bind λK=> if K.2≠0 then(some ([],[],K.2)) else((f71 fu_ K.1 0).bind λO=> (f76 fu_ O).bind λU=> Option.bind (iter (TN fu_ K U) fu_ 0) λY=> Sum.elim (λr=>some r) (λZ=> some ([],[],11)) Y)
theorem bu{E:LH}{a1:Ao}{c2:Nat}{al:Ao}{am:Nat}{p0:A4}(ce:Al (rL rI) E a1 c2 p0.1)(ci:Al AA E al am p0.2){fu_:Nat}{r:Aw×(List Int)×Int}(a8:f27 fu_ p0=some r):AQ (GR Tryz.prog) 27 [.agg #[sV a1 p0.1 c2,sV al p0.2 am]] E [] (λw E' B'=>∃(a9:Ao) (bb:Nat) (be:Ao) (bi:Nat),w= .tuple #[sV a9 r.1 bb,sV be r.2.1 bi,iV r.2.2]/\B'= []/\Al AA E' a9 bb r.1/\Al rI E' be bi r.2.1):=by
 refine Bn func27 λQ dz cs H co a2=>?_;unfold f27 at a8;refine C 2 V (Dv co λcp dA Y ct cw=>?_);refine C 6 V (Cx ct Ee Ck V V ?_);obtain⟨K,cy,cG⟩:=bs a8;refine BT (Ln (ce.Ah Y) (ci.Ah Y) Al.nil cy) V V KR cw ?_;rintro _ dB _ a3 ⟨ap,aq,av,aw,rfl,rfl,bn,bo⟩ cH;refine C 3 V (BV cH H5 λbv cI=>?_);refine BJ 3 cI Eg λcJ=>?_;refine Eh 3 cJ V λdC O bw bx=>C 8 V (AW cG (λcK cM=>?_) (λcK cN=>?_))
 ·refine C 7 V ?_;obtain rfl:=oi cM;exact AZ func27 V V (a2 ((Y.Ad a3).Ad O) V ⟨none,0,none,0,V,V,Al.nil,Al.nil⟩ bx)
 ·refine C 3 V (Cx bw Gd Eg V V ?_);obtain⟨dD,cO,cP⟩:=bs cN;refine BT (Qq (bn.Ah O) (bo.Ah O) cO) V V OK bx ?_;rintro _ dE dF Z ⟨ay,az,_,rfl,rfl,cQ⟩ cR;obtain⟨ac,cT,cV⟩:=bs cP;refine C 5 V (Cr 4 (Z4 cQ cT) V V (Ba func76 V) cR V ?_);rintro _ cW cX ag ⟨rfl,cY,a4⟩ cZ;refine Fo (L':= [(23,.tuple #[]),(0,.agg #[.slice a1 p0.1.length c2,.slice al p0.2.length am]),(1,Aj cp 0),(2,.slice none 0 0),(3,.slice none 0 0),(4,iV 0),(13,.agg #[.slice a1 p0.1.length c2,.slice al p0.2.length am]),(14,.tuple #[.agg #[.slice ap K.1.1.length aq,.slice av K.1.2.length aw],iV K.2]),(12,.tuple #[.agg #[.slice ap K.1.1.length aq,.slice av K.1.2.length aw],iV K.2]),(15,.agg #[.slice ap K.1.1.length aq,.slice av K.1.2.length aw]),(16,iV K.2),(5,Aj bv 0),(6,iV K.2),(17,iV K.2),(18,.bool (decide (K.2≠0))),(20,.agg #[.slice ap K.1.1.length aq,.slice av K.1.2.length aw]),(21,.slice ay ac.length az),(7,.slice ay ac.length az),(22,.slice ay ac.length az)]) ⟨V,V,V,V,V,V,V,V,V,V,V,V,V,V,V,V,by rw [a4];rfl,by rw [a4];rfl,by rw [a4];rfl,trivial⟩ ?_;refine C 5 V (JL.ln underlying83 V V V ?_);obtain⟨bz,c0,b0⟩:=bs cV;refine C 2 V (Bt (λL s=>∃(b1:Unit) (b2:LH),bz=Sum.inr b1/\Jm cW H b2 [] [] L s) ?_ ?_)
  ·rintro _ _ ⟨b1,b2,rfl,rfl,rfl,c1,c3⟩;have c4:=elim_inr b0;refine C 6 V ?_;obtain rfl:=oi c4;exact AZ func27 V V (a2 (((((Y.Ad a3).Ad O).Ad Z).Ad ag).Ad c1) V ⟨none,0,none,0,V,V,Al.nil,Al.nil⟩ c3)
  ·intro c5;refine JL.block (DX c0 (λa5=> [cX]) (λa5=> [(5,Aj bv 0),(24,sV ay ac az),(25,iV (ac.length:Int)),(26,iV a5)]) Ay cZ ?_);rintro a5 c6 U a6 b3 ⟨dG,a0⟩ c7;have b4:=a0;unfold TN at b4;refine C 5 V (AW b4 (λc8 c9=>?_) (λc8 da=>?_))
   ·obtain⟨db,dc,dd⟩:=bs c9;refine C 5 V (Kt 0 (cY.Ah U) dc V V V V V V underlying83 Bi ?_);rintro dH dI f93 _ de ⟨b5,b6,rfl,ca⟩ df dJ dK dL dM;refine Am (v:= sV b5 db b6) V (λρ h=>Yl.load BC (h _ _ V) (BI (j:=0) a6 de (df 0 _ V))) (C 4 V ?_);refine Cx (bw.Ah ((Z.Ad ag).Ad U)) Gd Eg V V ?_;obtain⟨dN,dg,dh⟩:=bs dd;refine C 1 V (BT (bI (bn.Ah (((O.Ad Z).Ad ag).Ad U)) (bo.Ah (((O.Ad Z).Ad ag).Ad U)) ca dg) V V (Ba func77 V) a6 ?_);rintro _ dO _ a7 ⟨di,dj,rfl,rfl,dk⟩ cc;refine C 10 V (CE dh (λdn dp=>?_) (λdn dq=>?_))
    ·refine C 8 V (JS.drop 0 cc V λdr=>?_);obtain rfl:=oi dp;obtain rfl:=b3 _ a0;have dt:=elim_inl b0;obtain rfl:=oi dt;exact AZ func27 V V (a2 ((((((Y.Ad a3).Ad O).Ad Z).Ad ag).Ad U).Ad a7) V ⟨b5,b6,di,dj,V,V,(ca.Ah a7),dk⟩ dr)
    ·obtain⟨du,dv,dw⟩:=bs dq;refine C 3 V (Br dv V V V ?_);refine C 2 V ?_;obtain rfl:=oi dw;exact c7 du (U.Ad a7) cc V a0
   ·refine JL.exit V (JS.drop 0 a6 V λdx=>?_);obtain rfl:=oi da;have dy:bz=(Sum.inr ()):=(b3 _ a0).symm;exact AF (c5 _ _ ⟨(),c6,dy,V,V,U,dx⟩) V
variable {J:Judge Tryz.prog}{E:LH}
def TE(fu_:Nat)(p0:List Int)(K:Aw×Int):Option (Bm (Aw×Int) (Aw)):= (Ax (K.2+2)).bind λO=> if O<(p0.length:Int) then((ix p0 K.2).bind λU=> (Ax (K.2+1)).bind λY=> (ix p0 Y).bind λZ=> (Ax (K.2+2)).bind λac=> (ix p0 ac).bind λag=> (CN K.1 ([(U,Z,ag)]:Aw)).bind λal=> (Ax (K.2+3)).bind λam=> some (.more (al,am))) else(some (.done K.1))
def f67(fu_:Nat)(p0:List Int):Option (Aw):= Option.bind (iter (TE fu_ p0) fu_ ([],0)) λK=> some K
theorem N2{a1:Ao}{c2:Nat}{p0:List Int}(aq:Al rI E a1 c2 p0){fu_:Nat}{r:Aw}(a2:f67 fu_ p0=some r):AQ J 67 [sV a1 p0 c2] E [] (λw E' B'=>∃(a3:Ao) (a4:Nat) (g0:Seg),w= sV a3 r a4/\B'=g0/\OL 27 AA E' a3 a4 g0 r):=by
 refine Bn func67 λQ c6 cs H be bi=>?_;unfold f67 at a2;obtain⟨a5,bn,bo⟩:=bs a2;refine C 13 V (Bt (λL s=>∃(av:LH) (Y:Ao) (Z:Nat) (ac:Seg),Jn E H av [ac] [(3,sV Y a5 Z)] L s (OL 27 AA av Y Z ac a5)) ?_ ?_)
 ·rintro _ _ ⟨av,Y,Z,ac,rfl,rfl,bv,bw,bx⟩;refine C 5 V ?_;obtain rfl:=oi bo;exact AZ func67 V V (bi bv V ⟨Y,Z,ac,V,(by first | rfl | simp | (simp [Value.cells])),bx⟩ bw)
 ·intro bz;refine JL.block (CB bn (λL s ag=>∃(al:LH) (am:Ao) (ap:Nat) (O:Seg),Jn E H al [O] [(0,sV a1 p0 c2),(3,sV am ag.1 ap),(4,iV ag.2)] L s (OL 27 AA al am ap O ag.1)) ⟨E,none,0,[],V,V,Ay,be,OL.nil⟩ ?_);rintro _ _ ag ⟨al,am,ap,O,rfl,rfl,U,a6,a7⟩ b0 ⟨c7,aw⟩ b1;have a8:=aw;unfold TE at a8;obtain⟨c8,b2,b3⟩:=bs a8;refine C 4 V (Br b2 V V V ?_);refine C 1 V (JL.ln underlying28 V V V ?_);refine C 2 V (AW b3 (λb4 b5=>?_) (λb4 b6=>?_))
  ·refine C 3 V (Fc 17 λK=>?_);refine A5 K V [0,1,2] V ?_;obtain⟨ay,ca,cc⟩:=bs b5;refine ED 3 (aq.Ah U) ca K underlying28 AG ?_;rintro c9 da _ rfl ce;refine Ex 4 K 0 ce A7 V V V V (A5 K V [5,6] V ?_);obtain⟨db,ci,co⟩:=bs cc;refine AO 7 K V V (λρ h s' a9=>F0 (h _ _ V) (h _ _ V) ci) ?_;obtain⟨az,cp,ct⟩:=bs co;refine ED 8 (aq.Ah U) cp K underlying28 AG ?_;rintro dc dd _ rfl cw;refine Ex 9 K 0 cw A7 V V V V (A5 K V [10,11] V ?_);obtain⟨de,cy,cG⟩:=bs ct;refine AO 12 K V V (λρ h s' a9=>F0 (h _ _ V) (h _ _ V) cy) ?_;obtain⟨a0,cH,cI⟩:=bs cG;refine ED 13 (aq.Ah U) cH K underlying28 AG ?_;rintro df dg _ rfl cJ;refine Ex 14 K 0 cJ A7 V V V V (AO (v:= .agg #[iV ay,iV az,iV a0]) 15 K V V (λρ h s' a9=>Dh [(0,1),(1,1),(2,1)] h BO underlying27 ⟨V,AU type3,V,AU type3,V,AU type3,trivial⟩ V V) ?_);refine JG.one (i:=16) V (by decide+kernel) (Take.Ff (pp:=AA) [.agg #[iV ay,iV az,iV a0]] ([(ay,az,a0)]:Aw) a6 V V V underlying23 Bg BO (by decide) V V V ⟨⟨_,_,V,V,⟨_,_,V,V,V⟩⟩,trivial⟩ λdh cK cM cN=>?_);refine Dp [17,18] (BS (S':= [O,cK]) V cN λcO=>?_);refine B9 1 cM cO V λcP bb cQ cR=>?_;obtain⟨cT,cV,cW⟩:=bs cI;refine IL (pp:=AA) 0 cV V V V V V V V underlying23 underlying23 Bg (Dl type27) BO V (by decide) (by decide) (a7.Ah bb) cQ cR V λcX cY cZ c0 c1=>?_;obtain⟨c3,c4,c5⟩:=bs cW;refine C 5 V (Br c4 V V V ?_);refine C 2 V ?_;obtain rfl:=oi c5;exact AF (b1 _ _ (cT,c3) ⟨cP,cX,cY,cZ,V,V,(U.Ad bb),c1,c0⟩ aw) V
  ·refine JL.exit V ?_;obtain rfl:=oi b6;obtain rfl:=b0 _ aw;exact AF (bz _ _ ⟨al,am,ap,O,V,V,U,a6,a7⟩) V
def f110(fu_:Nat)(p0:List Int)(p1:List Int):Option (A4):= (f67 fu_ ([0,1,5,1,2,5,2,3,2,0,3,1,3,1,1]:List Int)).bind λK=> (f67 fu_ p1).bind λO=> (CN K O).bind λU=> some (([p0,[],([3]:List Int),([1]:List Int)]:Be),U)
theorem P3{a1:Ao}{c2:Nat}{aw:Ao}{ay:Nat}{p0:List Int}{p1:List Int}(a8:Al rI E a1 c2 p0)(a9:Al rI E aw ay p1){fu_:Nat}{r:A4}(az:f110 fu_ p0 p1=some r):AQ J 110 [sV a1 p0 c2,sV aw p1 ay] E [] (λw E' B'=>∃(a0:Ao) (a2:Nat) (a3:Ao) (a4:Nat),w= .agg #[sV a0 r.1 a2,sV a3 r.2 a4]/\B'= []/\Al (rL rI) E' a0 a2 r.1/\Al AA E' a3 a4 r.2):=by
 refine Bn func110 λQ c6 cs H bb be=>?_;unfold f110 at az;refine C 2 V (BV bb H4 λY bi=>?_);refine C 4 V (F1 (pp:=rI) [iV 3] [3] V V V underlying28 AG CI (by decide) V V V ⟨V,trivial⟩ bi λbn bo bv bw=>?_);refine F1 (pp:=rI) [iV 1] [1] V V V underlying28 AG CI (by decide) V V V ⟨V,trivial⟩ bw λbx bz b0 b1=>BS (S':= [[],[(Y,.cells #[nS,nS] 25 (0,0))],bo,bz]) V b1 λb2=>B9 2 bv b2 V λc7 ac b3 b4=>B9 3 (b0.Ah ac) b4 V λc8 ag b5 b6=>F1 (pp:=(rL rI)) [sV a1 p0 c2,nS,.slice (AP bn) (([3]:List Int)).length 1,.slice (AP bx) (([1]:List Int)).length 1] [p0,[],([3]:List Int),([1]:List Int)] V V V underlying22 FG KS (by decide) V V V ⟨⟨_,_,V,(a8.Ah (ac.Ad ag))⟩,⟨_,_,V,Al.nil⟩,⟨_,_,V,(b3.Ah ag)⟩,⟨_,_,V,b5⟩,trivial⟩ b6 λK al ca cc=>BS (S':= [[],[(Y,.cells #[nS,nS] 25 (0,0))],[],[],al]) V cc λce=>F1 (pp:=rI) [iV 0,iV 1,iV 5,iV 1,iV 2,iV 5,iV 2,iV 3,iV 2,iV 0,iV 3,iV 1,iV 3,iV 1,iV 1] [0,1,5,1,2,5,2,3,2,0,3,1,3,1,1] V V V underlying28 AG CI (by decide) V V V ⟨V,V,V,V,V,V,V,V,V,V,V,V,V,V,V,trivial⟩ ce λc9 da ci co=>B9 5 ci co V λdb am cp ct=>?_;obtain⟨dc,cw,cy⟩:=bs az;refine BT (N2 cp cw) V V MQ ct ?_;rintro _ dd cG ap ⟨de,df,_,rfl,rfl,cH⟩ cI;refine BS (S':= [[],[(Y,.cells #[nS,nS] 25 (0,0))],[],[],al,[],cG]) V cI λcJ=>?_;obtain⟨dg,cK,cM⟩:=bs cy;refine C 1 V (BT (N2 (a9.Ah (((ac.Ad ag).Ad am).Ad ap)) cK) V V MQ cJ ?_);rintro _ dh di aq ⟨dj,dk,_,rfl,rfl,cN⟩ cO;refine B9 7 cN cO V λdn av cP cQ=>?_;obtain⟨Z,cR,cT⟩:=bs cM;refine IL (pp:=AA) 6 cR V V V V V V V underlying23 underlying23 Bg (Dl type27) BO V (by decide) (by decide) (cH.Ah (aq.Ad av)) cP cQ V λO U cV cW cX=>BS (S':= [[],[(Y,.cells #[nS,nS] 25 (0,0))],[],[],al,[],cV,[]]) V cX λcY=>Am (v:= .agg #[.slice (AP K) (([p0,[],([3]:List Int),([1]:List Int)]:Be)).length 4,sV O Z U]) V (λρ h=>Dh [(0,1),(1,1)] h H4 underlying25 ⟨V,AU type22,V,AU type23,trivial⟩ V V) (BJ 1 cY Ck λcZ=>?_);refine JL.done (B9 4 (ca.Ah (((am.Ad ap).Ad aq).Ad av)) cZ V λdp a5 c0 c1=>?_);refine B9 6 (cW.Ah a5) c1 V λdq a6 c3 c4=>BS (S':= [[],[(Y,.cells #[.slice (AP K) (([p0,[],([3]:List Int),([1]:List Int)]:Be)).length 4,sV O Z U] 25 (0,0))],[],[],[],[],[],[]]) V c4 λa7=>?_;obtain rfl:=oi cT;refine JL.ret (v:= .agg #[.slice (AP K) (([p0,[],([3]:List Int),([1]:List Int)]:Be)).length 4,sV O Z U]) V V (Bz.list func110 V (vs:= [.agg #[.slice (AP K) (([p0,[],([3]:List Int),([1]:List Int)]:Be)).length 4,sV O Z U]]) ⟨⟨_,V,Ld.many (vs:= [.slice (AP K) (([p0,[],([3]:List Int),([1]:List Int)]:Be)).length 4,sV O Z U]) Ee Ck (Fw (off:=0) 1 a7 V V)⟩,trivial⟩) (Eu 1 a7 V λc5=>?_);exact be (((((((ac.Ad ag).Ad am).Ad ap).Ad aq).Ad av).Ad a5).Ad a6) V ⟨(AP K),4,O,U,V,V,(c0.Ah a6),c3⟩ c5
def f63(fu_:Nat):Option (A4):= (f110 fu_ ([1,2,3]:List Int) ([])).bind λK=> some K
theorem Od{fu_:Nat}{r:A4}(ac:f63 fu_=some r):AQ J 63 [] E [] (λw E' B'=>∃(ag:Ao) (al:Nat) (am:Ao) (ap:Nat),w= .agg #[sV ag r.1 al,sV am r.2 ap]/\B'= []/\Al (rL rI) E' ag al r.1/\Al AA E' am ap r.2):=by
 refine Bn func63 λQ be cs H av aw=>?_;unfold f63 at ac;refine C 2 V (BV av H4 λr1 ay=>?_);refine C 3 V (F1 (pp:=rI) [iV 1,iV 2,iV 3] [1,2,3] V V V underlying28 AG CI (by decide) V V V ⟨V,V,V,trivial⟩ ay λbi bn az a0=>?_);refine B9 2 az a0 V λbo a1 a2 a3=>?_;obtain⟨K,a4,a5⟩:=bs ac;refine BT (P3 a2 Al.nil a4) V V OB a3 ?_;rintro _ bv _ a6 ⟨O,U,Y,Z,rfl,rfl,a7,a8⟩ a9;refine BJ 1 a9 Ck λaq=>?_;refine JL.done ?_;obtain rfl:=oi a5;refine JL.ret (v:= .agg #[sV O K.1 U,sV Y K.2 Z]) V V (Bz.list func63 V (vs:= [.agg #[sV O K.1 U,sV Y K.2 Z]]) ⟨⟨_,V,Ld.many (vs:= [sV O K.1 U,sV Y K.2 Z]) Ee Ck (Fw (off:=0) 1 aq V V)⟩,trivial⟩) (Eu 1 aq V λbb=>?_);exact aw (a1.Ad a6) V ⟨O,U,Y,Z,V,V,a7,a8⟩ bb
def f64(fu_:Nat):Option (A4):= (f110 fu_ ([]) ([])).bind λK=> some K
theorem aZ{fu_:Nat}{r:A4}(ac:f64 fu_=some r):AQ J 64 [] E [] (λw E' B'=>∃(ag:Ao) (al:Nat) (am:Ao) (ap:Nat),w= .agg #[sV ag r.1 al,sV am r.2 ap]/\B'= []/\Al (rL rI) E' ag al r.1/\Al AA E' am ap r.2):=by
 refine Bn func64 λQ a6 cs H av aw=>?_;unfold f64 at ac;refine C 2 V (BV av H4 λr1 ay=>?_);obtain⟨K,az,a0⟩:=bs ac;refine C 3 V (BT (P3 Al.nil Al.nil az) V V OB ay ?_);rintro _ a7 _ a1 ⟨O,U,Y,Z,rfl,rfl,a2,a3⟩ a4;refine BJ 1 a4 Ck λaq=>?_;refine JL.done ?_;obtain rfl:=oi a0;refine JL.ret (v:= .agg #[sV O K.1 U,sV Y K.2 Z]) V V (Bz.list func64 V (vs:= [.agg #[sV O K.1 U,sV Y K.2 Z]]) ⟨⟨_,V,Ld.many (vs:= [sV O K.1 U,sV Y K.2 Z]) Ee Ck (Fw (off:=0) 1 aq V V)⟩,trivial⟩) (Eu 1 aq V λa5=>?_);exact aw a1 V ⟨O,U,Y,Z,V,V,a2,a3⟩ a5
def f65(fu_:Nat):Option (A4):= (f110 fu_ ([5,1]:List Int) ([])).bind λK=> some K
theorem bp{fu_:Nat}{r:A4}(ac:f65 fu_=some r):AQ J 65 [] E [] (λw E' B'=>∃(ag:Ao) (al:Nat) (am:Ao) (ap:Nat),w= .agg #[sV ag r.1 al,sV am r.2 ap]/\B'= []/\Al (rL rI) E' ag al r.1/\Al AA E' am ap r.2):=by
 refine Bn func65 λQ be cs H av aw=>?_;unfold f65 at ac;refine C 2 V (BV av H4 λr1 ay=>?_);refine C 3 V (F1 (pp:=rI) [iV 5,iV 1] [5,1] V V V underlying28 AG CI (by decide) V V V ⟨V,V,trivial⟩ ay λbi bn az a0=>?_);refine B9 2 az a0 V λbo a1 a2 a3=>?_;obtain⟨K,a4,a5⟩:=bs ac;refine BT (P3 a2 Al.nil a4) V V OB a3 ?_;rintro _ bv _ a6 ⟨O,U,Y,Z,rfl,rfl,a7,a8⟩ a9;refine BJ 1 a9 Ck λaq=>?_;refine JL.done ?_;obtain rfl:=oi a5;refine JL.ret (v:= .agg #[sV O K.1 U,sV Y K.2 Z]) V V (Bz.list func65 V (vs:= [.agg #[sV O K.1 U,sV Y K.2 Z]]) ⟨⟨_,V,Ld.many (vs:= [sV O K.1 U,sV Y K.2 Z]) Ee Ck (Fw (off:=0) 1 aq V V)⟩,trivial⟩) (Eu 1 aq V λbb=>?_);exact aw (a1.Ad a6) V ⟨O,U,Y,Z,V,V,a7,a8⟩ bb
def f66(fu_:Nat):Option (Aw):= (f67 fu_ ([0,1,1,0,2,3,0,3,2]:List Int)).bind λK=> some K
theorem bL{fu_:Nat}{r:Aw}(K:f66 fu_=some r):AQ J 66 [] E [] (λw E' B'=>∃(O:Ao) (U:Nat),w= sV O r U/\B'= []/\Al AA E' O U r):=by
 refine Bn func66 λQ a5 cs H Y Z=>?_;unfold f66 at K;refine C 6 V (F1 (pp:=rI) [iV 0,iV 1,iV 1,iV 0,iV 2,iV 3,iV 0,iV 3,iV 2] [0,1,1,0,2,3,0,3,2] V V V underlying28 AG CI (by decide) V V V ⟨V,V,V,V,V,V,V,V,V,trivial⟩ Y λr1 g2 ac ag=>?_);refine B9 1 ac ag V λa6 al am ap=>?_;obtain⟨a7,aq,av⟩:=bs K;refine BT (N2 am aq) V V MQ ap ?_;rintro _ a8 a9 aw ⟨ay,az,_,rfl,rfl,a0⟩ a1;refine C 2 V (B9 2 a0 a1 V λbb a2 a3 a4=>?_);obtain rfl:=oi av;exact AZ func66 V V (Z ((al.Ad aw).Ad a2) V ⟨ay,az,V,V,a3⟩ a4)
def NR(fu_:Nat)(p0:List Int)(p1:List Int)(K:Int):Option (Bm Int ((Bool)⊕(Unit))):= Option.bind (if K<(p0.length:Int) then(some (decide (K<(p1.length:Int)))) else(some false)) λO=> if O=true then((ix p0 K).bind λU=> (ix p1 K).bind λY=> if U≠Y then(some (.done (Sum.inl false))) else((Ax (K+1)).bind λZ=> some (.more Z))) else(some (.done (Sum.inr ())))
def f29(fu_:Nat)(p0:List Int)(p1:List Int):Option Bool:= Option.bind (iter (NR fu_ p0 p1) fu_ 0) λK=> Sum.elim (λr=>some r) (λO=> some (decide ((p0.length:Int)=(p1.length:Int)))) K
theorem Mj{a1:Ao}{c2:Nat}{O:Ao}{U:Nat}{p0:List Int}{p1:List Int}(a6:Al rI E a1 c2 p0)(a7:Al rI E O U p1){fu_:Nat}{r:Bool}(aq:f29 fu_ p0 p1=some r):AQ J 29 [sV a1 p0 c2,sV O p1 U] E [] (λw E' B'=>w= .bool r/\B'= []):=by
 refine Bn func29 λQ cJ cs H a8 av=>?_;unfold f29 at aq;obtain⟨aw,a9,ay⟩:=bs aq;refine C 9 V (Bt (λL s=>∃(az:Unit) (a0:LH),aw=Sum.inr az/\Jm E H a0 [] [(0,sV a1 p0 c2),(1,sV O p1 U)] L s) ?_ ?_)
 ·rintro _ _ ⟨az,a0,rfl,rfl,rfl,bb,be⟩;have bi:=elim_inr ay;refine C 3 V (JL.ln underlying28 V V V ?_);refine C 1 V (JL.ln underlying28 V V V ?_);refine C 3 V ?_;obtain rfl:=oi bi;exact AZ func29 V V (av bb V ⟨V,V⟩ be)
 ·intro bn;refine JL.block (DX a9 (λac=> []) (λac=> [(0,sV a1 p0 c2),(1,sV O p1 U),(5,iV ac)]) Ay a8 ?_);rintro ac al Y a2 a3 ⟨cK,ag⟩ bo;have a4:=ag;unfold NR at a4;refine C 5 V (JL.ln underlying28 V V V ?_);obtain⟨bv,bw,bx⟩:=bs a4;refine C 2 V (Ie [] (λL s=>∃(am:LH),Jm al H am [] [(0,sV a1 p0 c2),(1,sV O p1 U),(5,iV ac),(15,.bool bv)] L s) ?_ ?_)
  ·rintro _ _ ⟨am,rfl,rfl,Z,ap⟩;refine JL.done (CE bx (λbz b0=>?_) (λbz b1=>?_))
   ·refine C 4 V (Fc 8 λK=>?_);refine A5 K V [0,1] V ?_;obtain⟨cM,b2,b3⟩:=bs b0;refine ED 2 (a6.Ah (Y.Ad Z)) b2 K underlying28 AG ?_;rintro cN cO _ rfl b4;refine Ex 3 K 0 b4 A7 V V V V (A5 K V [4,5] V ?_);obtain⟨cP,b5,b6⟩:=bs b3;refine ED 6 (a7.Ah (Y.Ad Z)) b5 K underlying28 AG ?_;rintro cQ cR _ rfl ca;refine Ex 7 K 0 ca A7 V V V V (Dp [8] ?_);refine C 2 V (AW b6 (λcc ce=>?_) (λcc ci=>?_))
    ·refine C 4 V ?_;obtain rfl:=oi ce;obtain rfl:=a3 _ ag;have co:=elim_inl ay;obtain rfl:=oi co;exact AZ func29 V V (av (Y.Ad Z) V ⟨V,V⟩ ap)
    ·obtain⟨cp,ct,cw⟩:=bs ci;refine C 4 V (Br ct V V V ?_);refine C 2 V ?_;obtain rfl:=oi cw;exact bo cp (Y.Ad Z) ap V ag
   ·refine JL.exit V ?_;obtain rfl:=oi b1;have cy:aw=(Sum.inr ()):=(a3 _ ag).symm;exact AF (bn _ _ ⟨(),am,cy,V,V,(Y.Ad Z),ap⟩) V
  ·intro a5;refine HN 10 bw (λcG cH=>?_) (λcG cI=>?_)
   ·refine C 2 V (JL.ln underlying28 V V V ?_);refine C 2 V ?_;obtain rfl:=oi cH;exact AF (a5 _ _ ⟨al,V,V,Ay,a2⟩) V
   ·refine C 5 V ?_;obtain rfl:=oi cI;exact AF (a5 _ _ ⟨al,V,V,Ay,a2⟩) V
def NY(fu_:Nat)(p0:Aw)(p1:Aw)(K:Int):Option (Bm Int ((Bool)⊕(Unit))):= Option.bind (if K<(p0.length:Int) then(some (decide (K<(p1.length:Int)))) else(some false)) λO=> if O=true then((ix p0 K).bind λU=> (ix p1 K).bind λY=> if U≠Y then(some (.done (Sum.inl false))) else((Ax (K+1)).bind λZ=> some (.more Z))) else(some (.done (Sum.inr ())))
def f26(fu_:Nat)(p0:Aw)(p1:Aw):Option Bool:= Option.bind (iter (NY fu_ p0 p1) fu_ 0) λK=> Sum.elim (λr=>some r) (λO=> some (decide ((p0.length:Int)=(p1.length:Int)))) K
theorem Qx{a1:Ao}{c2:Nat}{O:Ao}{U:Nat}{p0:Aw}{p1:Aw}(a8:Al AA E a1 c2 p0)(a9:Al AA E O U p1){fu_:Nat}{r:Bool}(aw:f26 fu_ p0 p1=some r):AQ J 26 [sV a1 p0 c2,sV O p1 U] E [] (λw E' B'=>w= .bool r/\B'= []):=by
 refine Bn func26 λQ cM cs H bb ay=>?_;unfold f26 at aw;obtain⟨az,be,a0⟩:=bs aw;refine C 9 V (Bt (λL s=>∃(a2:Unit) (a3:LH),az=Sum.inr a2/\Jm E H a3 [] [(0,sV a1 p0 c2),(1,sV O p1 U)] L s) ?_ ?_)
 ·rintro _ _ ⟨a2,a3,rfl,rfl,rfl,bi,bn⟩;have bo:=elim_inr a0;refine C 3 V (JL.ln underlying23 V V V ?_);refine C 1 V (JL.ln underlying23 V V V ?_);refine C 3 V ?_;obtain rfl:=oi bo;exact AZ func26 V V (ay bi V ⟨V,V⟩ bn)
 ·intro bv;refine JL.block (DX be (λam=> []) (λam=> [(0,sV a1 p0 c2),(1,sV O p1 U),(5,iV am)]) Ay bb ?_);rintro am aq Y a4 a5 ⟨cN,ap⟩ bw;have a6:=ap;unfold NY at a6;refine C 5 V (JL.ln underlying23 V V V ?_);obtain⟨bx,bz,b0⟩:=bs a6;refine C 2 V (Ie [] (λL s=>∃(Z:LH),Jm aq H Z [] [(0,sV a1 p0 c2),(1,sV O p1 U),(5,iV am),(15,.bool bx)] L s) ?_ ?_)
  ·rintro _ _ ⟨Z,rfl,rfl,ac,av⟩;refine JL.done (CE b0 (λb1 b2=>?_) (λb1 b3=>?_))
   ·refine C 4 V (Fc 8 λK=>?_);refine A5 K V [0,1] V ?_;obtain⟨ag,b4,b5⟩:=bs b2;refine ED 2 (a8.Ah (Y.Ad ac)) b4 K underlying23 Bg ?_;rintro cO cP _ ⟨_,_,rfl,rfl,⟨_,_,rfl,rfl,rfl⟩⟩ b6;refine JV 3 K b6 Ef Bg V V V (A5 K V [4,5] V ?_);obtain⟨al,ca,cc⟩:=bs b5;refine ED 6 (a9.Ah (Y.Ad ac)) ca K underlying23 Bg ?_;rintro cQ cR _ ⟨_,_,rfl,rfl,⟨_,_,rfl,rfl,rfl⟩⟩ ce;refine JV 7 K ce Ef Bg V V V (Dp [8] ?_);refine Am (v:= .bool (decide (ag≠al))) V (λρ h=>Tr (E:=Z) (E':=Z) (ws:= [iV ag.1,iV ag.2.1,iV ag.2.2]) (ws':= [iV al.1,iV al.2.1,iV al.2.2]) (a:=ag) (b:=al) aX (by decide) (by decide+kernel) ⟨_,_,V,V,⟨_,_,V,V,V⟩⟩ ⟨_,_,V,V,⟨_,_,V,V,V⟩⟩ (h _ _ V) (h _ _ V)) (JL.done ?_);refine AW cc (λci co=>?_) (λci cp=>?_)
    ·refine C 4 V ?_;obtain rfl:=oi co;obtain rfl:=a5 _ ap;have ct:=elim_inl a0;obtain rfl:=oi ct;exact AZ func26 V V (ay (Y.Ad ac) V ⟨V,V⟩ av)
    ·obtain⟨cw,cy,cG⟩:=bs cp;refine C 4 V (Br cy V V V ?_);refine C 2 V ?_;obtain rfl:=oi cG;exact bw cw (Y.Ad ac) av V ap
   ·refine JL.exit V ?_;obtain rfl:=oi b3;have cH:az=(Sum.inr ()):=(a5 _ ap).symm;exact AF (bv _ _ ⟨(),Z,cH,V,V,(Y.Ad ac),av⟩) V
  ·intro a7;refine HN 10 bz (λcI cJ=>?_) (λcI cK=>?_)
   ·refine C 2 V (JL.ln underlying23 V V V ?_);refine C 2 V ?_;obtain rfl:=oi cJ;exact AF (a7 _ _ ⟨aq,V,V,Ay,a4⟩) V
   ·refine C 5 V ?_;obtain rfl:=oi cK;exact AF (a7 _ _ ⟨aq,V,V,Ay,a4⟩) V
def f18(fu_:Nat):Option Bool:= (f63 fu_).bind λag=> (f43 fu_ ag).bind λO=> (f63 fu_).bind λal=> (f33 fu_ al).bind λU=> (f63 fu_).bind λam=> (f22 fu_ am).bind λY=> (f63 fu_).bind λap=> (f24 fu_ ap).bind λZ=> (f64 fu_).bind λaq=> (f39 fu_ aq).bind λac=> (f65 fu_).bind λav=> (f27 fu_ av).bind λK=> Option.bind (if O.2=0 then(some (decide (U.2=0))) else(some false)) λaw=> Option.bind (if aw=true then(some (decide (Y.2=0))) else(some false)) λay=> Option.bind (if ay=true then(some (decide (Z.2=0))) else(some false)) λaz=> Option.bind (if az=true then(some (decide (ac.2=0))) else(some false)) λa0=> Option.bind (if a0=true then(some (decide (K.2.2=0))) else(some false)) λa1=> Option.bind (if a1=true then(some (decide (Z.1=16))) else(some false)) λa2=> Option.bind (if a2=true then((f29 fu_ O.1 ([(-6),1,3,2]:List Int)).bind λa3=> some a3) else(some false)) λa4=> Option.bind (if a4=true then((f29 fu_ U.1 ([1,2,3]:List Int)).bind λa5=> some a5) else(some false)) λa6=> Option.bind (if a6=true then((f66 fu_).bind λa7=> (f26 fu_ Y.1 a7).bind λa8=> some a8) else(some false)) λa9=> Option.bind (if a9=true then((f29 fu_ ac.1 ([0]:List Int)).bind λbb=> some bb) else(some false)) λbe=> Option.bind (if be=true then((f67 fu_ ([0,2,6,2,3,3,3,1,1]:List Int)).bind λbi=> (f26 fu_ K.1 bi).bind λbn=> some bn) else(some false)) λbo=> Option.bind (if bo=true then((f29 fu_ K.2.1 ([0,1,2]:List Int)).bind λbv=> some bv) else(some false)) λbw=> some bw
theorem Qw{E:LH}{fu_:Nat}{r:Bool}(b2:f18 fu_=some r):AQ (GR Tryz.prog) 18 [] E [] (λw E' B'=>w= .bool r/\B'= []):=by
 refine Bn func18 λQ gQ cs H c5 c6=>?_;unfold f18 at b2;obtain⟨gR,c7,c8⟩:=bs b2;refine C 6 V (BT (Od c7) V V MP c5 ?_);rintro _ gS _ c9 ⟨gT,gU,gV,gW,rfl,rfl,da,db⟩ dc;obtain⟨a6,dd,de⟩:=bs c8;refine BT (Qz da db dd) V V OF dc ?_;rintro _ gX _ df ⟨a7,a8,rfl,rfl,dg⟩ dh;obtain⟨gY,di,dj⟩:=bs de;refine C 8 V (BT (Od di) V V MP dh ?_);rintro _ gZ _ b3 ⟨g0,g1,g3,g4,rfl,rfl,dk,dn⟩ dp;refine BS (S':= [[],[],[],[]]) V dp λdq=>?_;obtain⟨av,dr,dt⟩:=bs dj;refine BT (Qy dk dn dr) V V ON dq ?_;rintro _ g5 _ b4 ⟨aw,ay,rfl,rfl,du⟩ dv;obtain⟨g6,dw,dx⟩:=bs dt;refine C 8 V (BT (Od dw) V V MP dv ?_);rintro _ g7 _ bz ⟨g8,g9,ha,hb,rfl,rfl,dy,dz⟩ dA;obtain⟨ag,dB,dC⟩:=bs dx;refine BT (Qs dy dz dB) V V OI dA ?_;rintro _ hc _ b0 ⟨ap,aq,rfl,rfl,dD⟩ dE;refine BS (S':= [[],[],[],[],[],[],[]]) V dE λdF=>?_;obtain⟨hd,dG,dH⟩:=bs dC;refine C 8 V (BT (Od dG) V V MP dF ?_);rintro _ he _ bn ⟨hf,hg,hj,hk,rfl,rfl,dI,dJ⟩ dK;obtain⟨az,dL,dM⟩:=bs dH;refine CF (Qp dI dJ dL) V V OO dK λhl bo dN=>?_;obtain⟨hm,dO,dQ⟩:=bs dM;refine C 8 V (BT (aZ dO) V V (Ba func64 V) dN ?_);rintro _ hn _ bv ⟨ho,hp,hq,hr,rfl,rfl,dR,dS⟩ dT;refine BS (S':= [[],[],[],[],[],[],[],[],[],[]]) V dT λdU=>?_;obtain⟨O,dV,dW⟩:=bs dQ;refine BT (br dR dS dV) V V (Ba func39 V) dU ?_;rintro _ hs _ bw ⟨al,am,rfl,rfl,dX⟩ dY;obtain⟨ht,dZ,ea⟩:=bs dW;refine C 8 V (BT (bp dZ) V V (Ba func65 V) dY ?_);rintro _ hu _ bb ⟨hv,hw,hx,hy,rfl,rfl,eb,ec⟩ ed;obtain⟨K,ee,ef⟩:=bs ea;refine BT (bu eb ec ee) V V (Ba func27 V) ed ?_;rintro _ hz _ be ⟨Z,ac,U,Y,rfl,rfl,eg,eh⟩ ei;refine BS (S':= [[],[],[],[],[],[],[],[],[],[],[],[],[]]) V ei λb5=>?_;obtain⟨ej,ek,el⟩:=bs ef;refine C 13 V (DY 6 52 [] [(1,sV a7 a6.1 a8),(3,sV aw av.1 ay),(5,sV ap ag.1 aq),(6,iV ag.2),(7,iV az.1),(8,iV az.2),(9,sV al O.1 am),(10,iV O.2),(11,sV Z K.1 ac),(12,sV U K.2.1 Y),(13,iV K.2.2),(50,.bool ej)] (λhA a0 b6=>?_) (λca=>?_))
 ·obtain⟨em,en,eo⟩:=bs el;refine C 1 V (DY 10 48 [] [(1,sV a7 a6.1 a8),(3,sV aw av.1 ay),(5,sV ap ag.1 aq),(7,iV az.1),(8,iV az.2),(9,sV al O.1 am),(10,iV O.2),(11,sV Z K.1 ac),(12,sV U K.2.1 Y),(13,iV K.2.2),(54,.bool em)] (λhB a1 cc=>?_) (λce=>?_))
  ·obtain⟨ep,er,et⟩:=bs eo;refine C 1 V (DY 14 44 [] [(1,sV a7 a6.1 a8),(3,sV aw av.1 ay),(5,sV ap ag.1 aq),(7,iV az.1),(9,sV al O.1 am),(10,iV O.2),(11,sV Z K.1 ac),(12,sV U K.2.1 Y),(13,iV K.2.2),(58,.bool ep)] (λhC a2 ci=>?_) (λco=>?_))
   ·obtain⟨eu,ew,ex⟩:=bs et;refine C 1 V (DY 18 40 [] [(1,sV a7 a6.1 a8),(3,sV aw av.1 ay),(5,sV ap ag.1 aq),(7,iV az.1),(9,sV al O.1 am),(11,sV Z K.1 ac),(12,sV U K.2.1 Y),(13,iV K.2.2),(62,.bool eu)] (λhD a3 cp=>?_) (λct=>?_))
    ·obtain⟨ey,ez,eA⟩:=bs ex;refine C 1 V (DY 22 36 [] [(1,sV a7 a6.1 a8),(3,sV aw av.1 ay),(5,sV ap ag.1 aq),(7,iV az.1),(9,sV al O.1 am),(11,sV Z K.1 ac),(12,sV U K.2.1 Y),(66,.bool ey)] (λhE a4 cw=>?_) (λcy=>?_))
     ·obtain⟨eB,eC,eD⟩:=bs eA;refine C 1 V (DY 26 32 [] [(1,sV a7 a6.1 a8),(3,sV aw av.1 ay),(5,sV ap ag.1 aq),(9,sV al O.1 am),(11,sV Z K.1 ac),(12,sV U K.2.1 Y),(70,.bool eB)] (λhF a5 cG=>?_) (λcH=>?_))
      ·obtain⟨eE,eF,eG⟩:=bs eD;refine C 1 V (DY 31 27 [] [(3,sV aw av.1 ay),(5,sV ap ag.1 aq),(9,sV al O.1 am),(11,sV Z K.1 ac),(12,sV U K.2.1 Y),(75,.bool eE)] (λhG a9 cI=>?_) (λcJ=>?_))
       ·obtain⟨eH,eI,eJ⟩:=bs eG;refine C 1 V (DY 36 22 [] [(5,sV ap ag.1 aq),(9,sV al O.1 am),(11,sV Z K.1 ac),(12,sV U K.2.1 Y),(80,.bool eH)] (λhH bi cK=>?_) (λcM=>?_))
        ·obtain⟨eK,eL,eM⟩:=bs eJ;refine C 1 V (DY 41 17 [] [(9,sV al O.1 am),(11,sV Z K.1 ac),(12,sV U K.2.1 Y),(85,.bool eK)] (λhI bx cN=>?_) (λcO=>?_))
         ·obtain⟨eN,eO,eP⟩:=bs eM;refine C 1 V (DY 46 12 [] [(11,sV Z K.1 ac),(12,sV U K.2.1 Y),(90,.bool eN)] (λhJ b1 cP=>?_) (λcQ=>?_))
          ·obtain⟨eQ,eR,eS⟩:=bs eP;refine C 1 V (DY 52 6 [] [(12,sV U K.2.1 Y),(96,.bool eQ)] (λhK cR cT=>?_) (λcV=>?_))
           ·obtain⟨eT,eU,eV⟩:=bs eS;refine C 1 V (DY 57 1 [] [(101,.bool eT)] (λhL eW eX=>?_) (λcW=>?_))
            ·refine C 2 V ?_;obtain rfl:=oi eV;exact AZ func18 V V (c6 (((((((((((((((((((((((c9.Ad df).Ad b3).Ad b4).Ad bz).Ad b0).Ad bn).Ad bo).Ad bv).Ad bw).Ad bb).Ad be).Ad a0).Ad a1).Ad a2).Ad a3).Ad a4).Ad a5).Ad a9).Ad bi).Ad bx).Ad b1).Ad cR).Ad eW) V ⟨V,V⟩ eX)
            ·refine DZ 97 eU (λeY eZ=>?_) (λeY e0=>?_)
             ·refine C 1 V (F1 (pp:=rI) [iV 0,iV 1,iV 2] [0,1,2] V V V underlying28 AG CI (by decide) V V V ⟨V,V,V,trivial⟩ cT λhM hN e1 e3=>?_);refine B9 0 e1 e3 V λhO cX e4 e5=>?_;obtain⟨hP,e6,e7⟩:=bs eZ;refine CF (Mj (eh.Ah (((((((((((a0.Ad a1).Ad a2).Ad a3).Ad a4).Ad a5).Ad a9).Ad bi).Ad bx).Ad b1).Ad cR).Ad cX)) e4 e6) V V LD e5 λhQ e8 e9=>BS (S':= [[],[]]) V e9 λfa=>C 1 V ?_;obtain rfl:=oi e7;exact cW (cX.Ad e8) fa V
             ·refine C 4 V ?_;obtain rfl:=oi e0;exact cW Ay cT V
           ·refine DZ 91 eR (λfb fc=>?_) (λfb fe=>?_)
            ·refine C 1 V (F1 (pp:=rI) [iV 0,iV 2,iV 6,iV 2,iV 3,iV 3,iV 3,iV 1,iV 1] [0,2,6,2,3,3,3,1,1] V V V underlying28 AG CI (by decide) V V V ⟨V,V,V,V,V,V,V,V,V,trivial⟩ cP λhR hS ff fg=>?_);refine B9 0 ff fg V λhT cY fh fj=>?_;obtain⟨hU,fk,fl⟩:=bs fc;refine BT (N2 fh fk) V V MQ fj ?_;rintro _ hV fm cZ ⟨hW,hX,_,rfl,rfl,fo⟩ fp;refine BS (S':= [[],fm]) V fp λfq=>B9 1 fo fq V λhY c0 fs fu=>?_;obtain⟨hZ,fv,fw⟩:=bs fl;refine CF (Qx (eg.Ah ((((((((((((a0.Ad a1).Ad a2).Ad a3).Ad a4).Ad a5).Ad a9).Ad bi).Ad bx).Ad b1).Ad cY).Ad cZ).Ad c0)) fs fv) V V OJ fu λh0 fx fy=>C 1 V ?_;obtain rfl:=oi fw;exact cV (((cY.Ad cZ).Ad c0).Ad fx) fy V
            ·refine C 5 V ?_;obtain rfl:=oi fe;exact cV Ay cP V
          ·refine DZ 86 eO (λfz fA=>?_) (λfz fB=>?_)
           ·refine C 1 V (F1 (pp:=rI) [iV 0] [0] V V V underlying28 AG CI (by decide) V V V ⟨V,trivial⟩ cN λh1 h2 fC fD=>?_);refine B9 0 fC fD V λh3 c1 fE fF=>?_;obtain⟨h4,fG,fH⟩:=bs fA;refine CF (Mj (dX.Ah (((((((((((bb.Ad be).Ad a0).Ad a1).Ad a2).Ad a3).Ad a4).Ad a5).Ad a9).Ad bi).Ad bx).Ad c1)) fE fG) V V LD fF λh5 fI fJ=>BS (S':= [[],[]]) V fJ λfK=>C 1 V ?_;obtain rfl:=oi fH;exact cQ (c1.Ad fI) fK V
           ·refine C 4 V ?_;obtain rfl:=oi fB;exact cQ Ay cN V
         ·refine DZ 81 eL (λfL fM=>?_) (λfL fN=>?_)
          ·obtain⟨h6,fO,fP⟩:=bs fM;refine C 1 V (BT (bL fO) V V (Ba func66 V) cK ?_);rintro _ h7 _ c2 ⟨h8,h9,rfl,rfl,fQ⟩ fR;obtain⟨ia,fS,fT⟩:=bs fP;refine CF (Qx (dD.Ah ((((((((((((((bn.Ad bo).Ad bv).Ad bw).Ad bb).Ad be).Ad a0).Ad a1).Ad a2).Ad a3).Ad a4).Ad a5).Ad a9).Ad bi).Ad c2)) fQ fS) V V OJ fR λic fU fW=>C 1 V ?_;obtain rfl:=oi fT;exact cO (c2.Ad fU) fW V
          ·refine C 4 V ?_;obtain rfl:=oi fN;exact cO Ay cK V
        ·refine DZ 76 eI (λfX fY=>?_) (λfX fZ=>?_)
         ·refine C 1 V (F1 (pp:=rI) [iV 1,iV 2,iV 3] [1,2,3] V V V underlying28 AG CI (by decide) V V V ⟨V,V,V,trivial⟩ cI λie ig ga gb=>?_);refine B9 0 ga gb V λih c3 gc gd=>?_;obtain⟨ii,ge,gf⟩:=bs fY;refine CF (Mj (du.Ah (((((((((((((((bz.Ad b0).Ad bn).Ad bo).Ad bv).Ad bw).Ad bb).Ad be).Ad a0).Ad a1).Ad a2).Ad a3).Ad a4).Ad a5).Ad a9).Ad c3)) gc ge) V V LD gd λij gg gh=>BS (S':= [[],[]]) V gh λgi=>C 1 V ?_;obtain rfl:=oi gf;exact cM (c3.Ad gg) gi V
         ·refine C 4 V ?_;obtain rfl:=oi fZ;exact cM Ay cI V
       ·refine DZ 71 eF (λgj gk=>?_) (λgj gl=>?_)
        ·refine C 1 V (F1 (pp:=rI) [iV (-6),iV 1,iV 3,iV 2] [(-6),1,3,2] V V V underlying28 AG CI (by decide) V V V ⟨V,V,V,V,trivial⟩ cG λik il gm gn=>?_);refine B9 0 gm gn V λio c4 gp gq=>?_;obtain⟨iq,gr,gt⟩:=bs gk;refine CF (Mj (dg.Ah ((((((((((((((((b3.Ad b4).Ad bz).Ad b0).Ad bn).Ad bo).Ad bv).Ad bw).Ad bb).Ad be).Ad a0).Ad a1).Ad a2).Ad a3).Ad a4).Ad a5).Ad c4)) gp gr) V V LD gq λir gu gv=>BS (S':= [[],[]]) V gv λgw=>C 1 V ?_;obtain rfl:=oi gt;exact cJ (c4.Ad gu) gw V
        ·refine C 4 V ?_;obtain rfl:=oi gl;exact cJ Ay cG V
      ·refine DZ 67 eC (λgx gy=>?_) (λgx gz=>?_)
       ·refine C 3 V ?_;obtain rfl:=oi gy;exact cH Ay cw V
       ·refine C 3 V ?_;obtain rfl:=oi gz;exact cH Ay cw V
     ·refine DZ 63 ez (λgA gB=>?_) (λgA gC=>?_)
      ·refine C 3 V ?_;obtain rfl:=oi gB;exact cy Ay cp V
      ·refine C 3 V ?_;obtain rfl:=oi gC;exact cy Ay cp V
    ·refine DZ 59 ew (λgD gE=>?_) (λgD gF=>?_)
     ·refine C 3 V ?_;obtain rfl:=oi gE;exact ct Ay ci V
     ·refine C 3 V ?_;obtain rfl:=oi gF;exact ct Ay ci V
   ·refine DZ 55 er (λgG gH=>?_) (λgG gI=>?_)
    ·refine C 3 V ?_;obtain rfl:=oi gH;exact co Ay cc V
    ·refine C 3 V ?_;obtain rfl:=oi gI;exact co Ay cc V
  ·refine DZ 51 en (λgJ gK=>?_) (λgJ gL=>?_)
   ·refine C 3 V ?_;obtain rfl:=oi gK;exact ce Ay b6 V
   ·refine C 3 V ?_;obtain rfl:=oi gL;exact ce Ay b6 V
 ·refine HN 47 ek (λgM gO=>?_) (λgM gP=>?_)
  ·refine C 3 V ?_;obtain rfl:=oi gO;exact ca Ay b5 V
  ·refine C 3 V ?_;obtain rfl:=oi gP;exact ca Ay b5 V
def f104(fu_:Nat)(p0:List Int):Option ((List Int)):= (CN ([]:List Int) p0).bind λK=> some K
theorem Zc{a1:Ao}{c2:Nat}{p0:List Int}(Y:Al rI E a1 c2 p0){fu_:Nat}{r:(List Int)}(K:f104 fu_ p0=some r):AQ J 104 [sV a1 p0 c2] E [] (λw E' B'=>∃(O:Ao) (U:Nat),w= sV O r U/\B'= []/\Al rI E' O U r):=by
 refine Bn func104 λQ a3 cs H Z ac=>?_;unfold f104 at K;refine C 6 V (ND (pp:=rI) V V V underlying28 AG Z λa4 a5 ag al=>?_);obtain⟨a6,am,ap⟩:=bs K;refine C 1 V (IL (pp:=rI) 1 am V V V V V V V underlying28 underlying28 AG (Dl type3) CI V (by decide) (by decide) ag Y al V λaq av a7 aw ay=>?_);refine C 2 V (B9 1 aw ay V λa8 az a0 a2=>?_);obtain rfl:=oi ap;exact AZ func104 V V (ac az V ⟨aq,av,V,V,a0⟩ a2)
def NS(fu_:Nat)(p0:Be)(K:Be×Int):Option (Bm (Be×Int) (Be)):= if K.2<(p0.length:Int) then((ix p0 K.2).bind λO=> (f104 fu_ O).bind λU=> (ix K.1 K.2).bind λZ=> (Ax (K.2+1)).bind λY=> some (.more ((K.1.set (Int.toNat K.2) U),Y))) else(some (.done K.1))
def f68(fu_:Nat)(p0:Be):Option (Be):= (JZ (p0.length:Int) ([]:List Int)).bind λK=> Option.bind (iter (NS fu_ p0) fu_ (K,0)) λO=> some O
theorem aS{a1:Ao}{c2:Nat}{p0:Be}(be:Al (rL rI) E a1 c2 p0){fu_:Nat}{r:Be}(a0:f68 fu_ p0=some r):AQ J 68 [sV a1 p0 c2] E [] (λw E' B'=>∃(a2:Ao) (a3:Nat),w= sV a2 r a3/\B'= []/\Al (rL rI) E' a2 a3 r):=by
 refine Bn func68 λQ c8 cs H bi bn=>?_;unfold f68 at a0;refine C 7 V (JL.ln underlying22 V V V ?_);obtain⟨bo,bv,bw⟩:=bs a0;refine JS.make (pp:=(rL rI)) bv V V V V V underlying22 FG (Dl type28) (by decide) KS (by decide) ⟨_,_,V,Al.nil⟩ bi λbx bz b0 b1=>?_;obtain⟨a4,b2,b3⟩:=bs bw;refine C 7 V (Bt (λL s=>∃(aq:LH) (Z:Ao) (ac:Nat) (av:Seg),Jn E H aq [av] [(3,sV Z a4 ac)] L s (OL 28 (rL rI) aq Z ac av a4)) ?_ ?_)
 ·rintro _ _ ⟨aq,Z,ac,av,rfl,rfl,b4,b5,b6⟩;refine C 5 V (B9 0 b6 b5 V λc9 ca cc ce=>?_);obtain rfl:=oi b3;exact AZ func68 V V (bn (b4.Ad ca) V ⟨Z,ac,V,V,cc⟩ ce)
 ·intro ci;refine JL.block (CB b2 (λL s K=>∃(ag:LH) (U:Ao) (Y:Nat) (al:Seg),Jn E H ag [al] [(0,sV a1 p0 c2),(3,sV U K.1 Y),(4,iV K.2)] L s (OL 28 (rL rI) ag U Y al K.1)) ⟨E,(AP bx),bo.length,bz,V,V,Ay,b1,b0⟩ ?_);rintro _ _ K ⟨ag,U,Y,al,rfl,rfl,aw,a5,a6⟩ co ⟨da,ay⟩ cp;have a7:=ay;unfold NS at a7;refine C 5 V (JL.ln underlying22 V V V ?_);refine C 2 V (AW a7 (λct cw=>?_) (λct cy=>?_))
  ·obtain⟨cG,cH,cI⟩:=bs cw;refine C 8 V (JS.ix (be.Ah aw) cH underlying22 FG ?_);rintro cJ cK _ ⟨cM,cN,rfl,cO⟩ cP;refine C8 0 cP Jx V V V ?_;obtain⟨O,cQ,cR⟩:=bs cI;refine BT (Zc cO cQ) V V (Ba func104 V) a5 ?_;rintro _ cT _ a8 ⟨am,ap,rfl,rfl,cV⟩ cW;obtain⟨db,cX,cY⟩:=bs cR;refine Kt 0 (a6.Ah a8) cX V V V V V V underlying22 FG ?_;rintro a9 az f78 _ cZ ⟨dc,dd,rfl,de⟩ df c0 c1 dg dh;refine JS.store (v:= sV am O ap) (off:=az) 0 V V V cW V V FG (by simp [Value.cells,C9]) cZ (by have:=c0;simp only [Rp.n,rK,rN,rB,rP,rL] at this;show _+1<=_;omega) λc3=>?_;have c4:=c1 O [sV am O ap] ⟨_,_,V,cV⟩;have bb:(K.1.set (Int.toNat K.2) O).length=K.1.length:=List.length_set;refine Fo (L':= [(0,.slice a1 p0.length c2),(3,.slice U ((K.1.set (Int.toNat K.2) O)).length Y),(4,iV K.2),(8,iV K.2),(9,.slice a1 p0.length c2),(10,iV (p0.length:Int)),(11,.bool (decide (K.2<(p0.length:Int)))),(14,.slice U ((K.1.set (Int.toNat K.2) O)).length Y),(15,iV K.2),(16,.slice a1 p0.length c2),(17,iV K.2),(18,Aj cJ cK),(19,.slice cM cG.length cN),(20,.slice am O.length ap),(21,Aj a9 az)]) ⟨V,by rw [bb];rfl,V,V,V,V,V,by rw [bb];rfl,V,V,V,V,V,V,V,trivial⟩ ?_;obtain⟨c5,c6,c7⟩:=bs cY;refine C 4 V (Br c6 V V V ?_);refine C 2 V ?_;obtain rfl:=oi c7;exact AF (cp _ _ ((K.1.set (Int.toNat K.2) O),c5) ⟨cT,U,Y,[(a9,.cells (A6 f78 az [sV am O ap]) 28 (0,0))],V,V,(aw.Ad a8),c3,c4⟩ ay) V
  ·refine JL.exit V ?_;obtain rfl:=oi cy;obtain rfl:=co _ ay;exact AF (ci _ _ ⟨ag,U,Y,al,V,V,aw,a5,a6⟩) V
def f69(fu_:Nat)(p0:Aw):Option (Aw):= (CN ([]:Aw) p0).bind λK=> some K
def f21(fu_:Nat)(p0:A4):Option (A4):= (f68 fu_ p0.1).bind λK=> (f69 fu_ p0.2).bind λO=> some (K,O)
def f20(fu_:Nat)(p0:List Int):Option ((Cd)):= some (p0,0,2685821657736338717)
theorem bD{a1:Ao}{c2:Nat}{p0:List Int}(Z:Al rI E a1 c2 p0){fu_:Nat}{r:(Cd)}(K:f20 fu_ p0=some r):AQ J 20 [sV a1 p0 c2] E [] (λw E' B'=>∃(O:Nat) (U:Ao) (Y:Nat),w= Aj O 0/\B'= [(O,.cells #[sV U r.1 Y,iV r.2.1,.int .u64 ((r.2.2:Nat):Int)] 74 (0,0))]/\Al rI E' U Y r.1):=by
 refine Bn func20 λQ ap cs H ac ag=>?_;unfold f20 at K;refine C 7 V (Am (v:= .agg #[sV a1 p0 c2,iV 0,.int .u64 ((2685821657736338717:Nat):Int)]) V (λρ h=>Dh [(0,1),(1,1),(2,1)] h (Ds type74) underlying74 ⟨V,AU type28,V,AU type3,V,AU type72,trivial⟩ V V) ?_);refine JS.box (v:= .agg #[sV a1 p0 c2,iV 0,.int .u64 ((2685821657736338717:Nat):Int)]) V V V ac V λal am=>C 2 V ?_;obtain rfl:=oi K;exact AZ func20 V V (ag Ay V ⟨al,a1,c2,V,(by first | rfl | simp | (simp [Value.cells])),Z⟩ am)
def f92(fu_:Nat)(p0:Int)(p1:Int)(p2:Int):Option Bool:= Option.bind (if p1<=p0 then(some (decide (p0<=p2))) else(some false)) λK=> some K
def f88(fu_:Nat)(p0:Int)(p1:Int×Int×Int)(p2:Int):Option Int:= (Ax (p0 - 1)).bind λK=> (f92 fu_ p1.1 0 K).bind λO=> Option.bind (if(!O)=true then(some true) else((Ax (p0 - 1)).bind λU=> (f92 fu_ p1.2.1 0 U).bind λY=> some (!Y))) λZ=> if Z=true then(some 3) else(if p1.1=p1.2.1 then(some 8) else((f92 fu_ p1.2.2 1 p2).bind λac=> if(!ac)=true then(some 1) else(some 0)))
def L8(fu_:Nat)(p0:A4)(O:Int)(K:Int):Option (Bm Int ((Int)⊕(Unit))):= (ix p0.1 O).bind λU=> if K<(U.length:Int) then((ix p0.1 O).bind λY=> (ix Y K).bind λZ=> (f92 fu_ Z 1 9).bind λac=> if(!ac)=true then(some (.done (Sum.inl 1))) else((Ax (K+1)).bind λag=> some (.more ag))) else(some (.done (Sum.inr ())))
def Mg(fu_:Nat)(p0:A4)(K:Int):Option (Bm Int ((Int)⊕(Unit))):= if K<(p0.1.length:Int) then((ix p0.1 K).bind λO=> if 3<(O.length:Int) then(some (.done (Sum.inl 6))) else(Option.bind (iter (L8 fu_ p0 K) fu_ 0) λU=> Sum.elim (λr=>some (.done (Sum.inl r))) (λZ=> (Ax (K+1)).bind λY=> some (.more Y)) U)) else(some (.done (Sum.inr ())))
def P0(fu_:Nat)(p0:A4)(K:Int):Option (Bm Int ((Int)⊕(Unit))):= if K<(p0.2.length:Int) then((ix p0.2 K).bind λU=> (f88 fu_ (p0.1.length:Int) U 9).bind λO=> if O≠0 then(some (.done (Sum.inl O))) else((Ax (K+1)).bind λY=> some (.more Y))) else(some (.done (Sum.inr ())))
def f48(fu_:Nat)(p0:A4):Option Int:= if(p0.1.length:Int)<2 then(some 7) else(if 5<(p0.1.length:Int) then(some 6) else(Option.bind (iter (Mg fu_ p0) fu_ 0) λK=> Sum.elim (λr=>some r) (λU=> if 8<(p0.2.length:Int) then(some 6) else(Option.bind (iter (P0 fu_ p0) fu_ 0) λO=> Sum.elim (λr=>some r) (λY=> some 0) O)) K))
def f83(fu_:Nat)(p0:Cd):Option (Nat×(Cd)):= (Ax (p0.2.1+1)).bind λO=> Option.bind (if O<=(p0.1.length:Int) then((Ax (O - 1)).bind λU=> (ix p0.1 U).bind λY=> some (((((C3 O)*11400714819323198485) % 2 ^ 64) ^^^ (((C3 Y)*14029467366897019727) % 2 ^ 64)) % 2 ^ 64)) else(some (((C3 O)*11400714819323198485) % 2 ^ 64))) λK=> some (((((((((((p0.2.2 ^^^ K) % 2 ^ 64)*18397679294719823053) % 2 ^ 64) ^^^ (((((p0.2.2 ^^^ K) % 2 ^ 64)*18397679294719823053) % 2 ^ 64)>>>33)) % 2 ^ 64)*14181476777654086739) % 2 ^ 64) ^^^ (((((((((p0.2.2 ^^^ K) % 2 ^ 64)*18397679294719823053) % 2 ^ 64) ^^^ (((((p0.2.2 ^^^ K) % 2 ^ 64)*18397679294719823053) % 2 ^ 64)>>>33)) % 2 ^ 64)*14181476777654086739) % 2 ^ 64)>>>29)) % 2 ^ 64)>>>11,(p0.1,O,(((((p0.2.2 ^^^ K) % 2 ^ 64)*18397679294719823053) % 2 ^ 64) ^^^ (((((p0.2.2 ^^^ K) % 2 ^ 64)*18397679294719823053) % 2 ^ 64)>>>33)) % 2 ^ 64))
theorem bG{bk:Nat}{a1:Ao}{c2:Nat}{p0:Cd}(al:Al rI E a1 c2 p0.1){fu_:Nat}{r:Nat×(Cd)}(am:f83 fu_ p0=some r):AQ J 83 [Aj bk 0] E [(bk,.cells #[sV a1 p0.1 c2,iV p0.2.1,.int .u64 ((p0.2.2:Nat):Int)] 74 (0,0))] (λw E' B'=>∃(ap:Ao) (aq:Nat),w= .int .u64 ((r.1:Nat):Int)/\B'= [(bk,.cells #[sV ap r.2.1 aq,iV r.2.2.1,.int .u64 ((r.2.2.2:Nat):Int)] 74 (0,0))]/\Al rI E' ap aq r.2.1):=by
 refine Bn func83 λQ bv cs H av a2=>?_;unfold f83 at am;refine C 8 V (JL.fd underlying74 AG V V V ?_);refine Am (v:=iV p0.2.1) V (λρ h=>Yl.load A7 (h _ _ V) (BI (j:=0) (off:=1) av V V)) ?_;obtain⟨Y,a3,a4⟩:=bs am;refine Br a3 V V V (C 1 V ?_);refine JL.fd underlying74 AG V V V (BJ 0 av AG λU=>?_);refine C 5 V (JL.fd underlying74 AG V V V ?_);refine Am (v:=iV Y) V (λρ h=>Yl.load A7 (h _ _ V) (BI (j:=0) (off:=1) U V V)) (Am (v:= .int .u64 ((C3 Y:Nat):Int)) V (λρ h=>Yl.C3 underlying3 underlying72 (h _ _ V)) ?_);refine Am (v:= .int .u64 ((((C3 Y)*11400714819323198485) % 2 ^ 64:Nat):Int)) V (λρ h=>Nz (h _ _ V) (h _ _ V)) (C 4 V ?_);refine Fb 9 [bk] ⟨⟨0,_,V⟩,trivial⟩ U λK=>A5 K V [0,1] V (JG.fd 2 K underlying74 AG V V V V ?_);refine IV 3 K 1 0 U A7 ?_;refine A5 K V [4,5] V (JG.fd 6 K underlying74 FG V V V V ?_);refine IV 7 K 0 0 U Jx ?_;refine AO 8 K V V (λρ h s' Z=>Yl.len V underlying28 (h _ _ V)) (Dp [9] ?_);obtain⟨O,a5,a6⟩:=bs a4;refine C 2 V (EK [bX bk #[sV a1 p0.1 c2,iV Y,.int .u64 ((p0.2.2:Nat):Int)] 74] [(0,Aj bk 0),(3,.int .u64 ((O:Nat):Int))] (λbw aw ay=>?_) (λaz=>?_))
 ·refine C 5 V (JL.fd underlying74 Jz V V V ?_);refine Am (v:= .int .u64 ((p0.2.2:Nat):Int)) V (λρ h=>Yl.load ML (h _ _ V) (BI (j:=0) (off:=2) ay V V)) (C 1 V ?_);refine Am (v:= .int .u64 (((p0.2.2 ^^^ O) % 2 ^ 64:Nat):Int)) V (λρ h=>NB (h _ _ V) (h _ _ V)) (Am (v:= .int .u64 (((((p0.2.2 ^^^ O) % 2 ^ 64)*18397679294719823053) % 2 ^ 64:Nat):Int)) V (λρ h=>Nz (h _ _ V) (h _ _ V)) ?_);refine C 1 V (JL.fd underlying74 Jz V V V ?_);refine BJ 0 ay Jz λac=>?_;refine C 2 V (Fb 11 [bk] ⟨⟨0,_,V⟩,trivial⟩ ac λK=>?_);refine A5 K V [0,1,2] V (JG.fd 3 K underlying74 Jz V V V V ?_);refine IV 4 K 2 0 ac ML ?_;refine A5 K V [5,6] V (JG.fd 7 K underlying74 Jz V V V V ?_);refine IV 8 K 2 0 ac ML ?_;refine AO (v:= .int .u64 ((((((p0.2.2 ^^^ O) % 2 ^ 64)*18397679294719823053) % 2 ^ 64)>>>33:Nat):Int)) 9 K V V (λρ h s' Z=>K4 33 (h _ _ V) (h _ _ V) (by decide)) (AO (v:= .int .u64 (((((((p0.2.2 ^^^ O) % 2 ^ 64)*18397679294719823053) % 2 ^ 64) ^^^ (((((p0.2.2 ^^^ O) % 2 ^ 64)*18397679294719823053) % 2 ^ 64)>>>33)) % 2 ^ 64:Nat):Int)) 10 K V V (λρ h s' Z=>NB (h _ _ V) (h _ _ V)) ?_);refine Dp [11,12,13] (C 1 V ?_);refine JL.fd underlying74 Jz V V V (BJ 0 ac Jz λa0=>?_);refine C 5 V (JL.fd underlying74 Jz V V V ?_);refine Am (v:= .int .u64 (((((((p0.2.2 ^^^ O) % 2 ^ 64)*18397679294719823053) % 2 ^ 64) ^^^ (((((p0.2.2 ^^^ O) % 2 ^ 64)*18397679294719823053) % 2 ^ 64)>>>33)) % 2 ^ 64:Nat):Int)) V (λρ h=>Yl.load ML (h _ _ V) (BI (j:=0) (off:=2) a0 V V)) (Am (v:= .int .u64 (((((((((p0.2.2 ^^^ O) % 2 ^ 64)*18397679294719823053) % 2 ^ 64) ^^^ (((((p0.2.2 ^^^ O) % 2 ^ 64)*18397679294719823053) % 2 ^ 64)>>>33)) % 2 ^ 64)*14181476777654086739) % 2 ^ 64:Nat):Int)) V (λρ h=>Nz (h _ _ V) (h _ _ V)) ?_);refine C 6 V (Am (v:= .int .u64 ((((((((((p0.2.2 ^^^ O) % 2 ^ 64)*18397679294719823053) % 2 ^ 64) ^^^ (((((p0.2.2 ^^^ O) % 2 ^ 64)*18397679294719823053) % 2 ^ 64)>>>33)) % 2 ^ 64)*14181476777654086739) % 2 ^ 64)>>>29:Nat):Int)) V (λρ h=>K4 29 (h _ _ V) (h _ _ V) (by decide)) ?_);refine Am (v:= .int .u64 (((((((((((p0.2.2 ^^^ O) % 2 ^ 64)*18397679294719823053) % 2 ^ 64) ^^^ (((((p0.2.2 ^^^ O) % 2 ^ 64)*18397679294719823053) % 2 ^ 64)>>>33)) % 2 ^ 64)*14181476777654086739) % 2 ^ 64) ^^^ (((((((((p0.2.2 ^^^ O) % 2 ^ 64)*18397679294719823053) % 2 ^ 64) ^^^ (((((p0.2.2 ^^^ O) % 2 ^ 64)*18397679294719823053) % 2 ^ 64)>>>33)) % 2 ^ 64)*14181476777654086739) % 2 ^ 64)>>>29)) % 2 ^ 64:Nat):Int)) V (λρ h=>NB (h _ _ V) (h _ _ V)) (Am (v:= .int .u64 ((((((((((((p0.2.2 ^^^ O) % 2 ^ 64)*18397679294719823053) % 2 ^ 64) ^^^ (((((p0.2.2 ^^^ O) % 2 ^ 64)*18397679294719823053) % 2 ^ 64)>>>33)) % 2 ^ 64)*14181476777654086739) % 2 ^ 64) ^^^ (((((((((p0.2.2 ^^^ O) % 2 ^ 64)*18397679294719823053) % 2 ^ 64) ^^^ (((((p0.2.2 ^^^ O) % 2 ^ 64)*18397679294719823053) % 2 ^ 64)>>>33)) % 2 ^ 64)*14181476777654086739) % 2 ^ 64)>>>29)) % 2 ^ 64)>>>11:Nat):Int)) V (λρ h=>K4 11 (h _ _ V) (h _ _ V) (by decide)) ?_);refine C 2 V ?_;obtain rfl:=oi a6;exact AZ func83 V V (a2 aw V ⟨a1,c2,V,V,(al.Ah aw)⟩ a0)
 ·refine AW a5 (λa7 a8=>?_) (λa7 a9=>?_)
  ·refine Fb 14 [bk] ⟨⟨0,_,V⟩,trivial⟩ U λK=>A5 K V [0,1,2] V (JG.fd 3 K underlying74 FG V V V V ?_);refine IV 4 K 0 0 U Jx ?_;refine A5 K V [5,6] V (JG.fd 7 K underlying74 AG V V V V ?_);refine IV 8 K 1 0 U A7 ?_;obtain⟨bx,bb,be⟩:=bs a8;refine AO 9 K V V (λρ h s' Z=>Ei (h _ _ V) (h _ _ V) bb) ?_;obtain⟨ag,bi,bn⟩:=bs be;refine ED 10 al bi K underlying28 AG ?_;rintro bz b0 _ rfl bo;refine JG.lp 11 K 0 bo U ⟨⟨0,_,V⟩,trivial⟩ A7 ?_;refine AO (v:= .int .u64 ((C3 ag:Nat):Int)) 12 K V V (λρ h s' Z=>Yl.C3 underlying3 underlying72 (h _ _ V)) (AO (v:= .int .u64 ((((C3 ag)*14029467366897019727) % 2 ^ 64:Nat):Int)) 13 K V V (λρ h s' Z=>Nz (h _ _ V) (h _ _ V)) ?_);refine Dp [14,15] (Am (v:= .int .u64 ((((((C3 Y)*11400714819323198485) % 2 ^ 64) ^^^ (((C3 ag)*14029467366897019727) % 2 ^ 64)) % 2 ^ 64:Nat):Int)) V (λρ h=>NB (h _ _ V) (h _ _ V)) ?_);refine C 2 V ?_;obtain rfl:=oi bn;exact az Ay U V
  ·refine JL.skip ?_;obtain rfl:=oi a9;exact az Ay U V
def f36(fu_:Nat)(p0:Cd)(p1:Int):Option (Int×(Cd)):= (f83 fu_ p0).bind λK=> if p1<1 then(some (0,K.2)) else((N6 K.1 ((C3 p1+1) % 2 ^ 64)).bind λO=> some (MD O,K.2))
theorem Li{bk:Nat}{a1:Ao}{c2:Nat}{p0:Cd}{p1:Int}(aq:Al rI E a1 c2 p0.1){fu_:Nat}{r:Int×(Cd)}(K:f36 fu_ p0 p1=some r):AQ J 36 [Aj bk 0,iV p1] E [(bk,.cells #[sV a1 p0.1 c2,iV p0.2.1,.int .u64 ((p0.2.2:Nat):Int)] 74 (0,0))] (λw E' B'=>∃(O:Ao) (U:Nat),w=iV r.1/\B'= [(bk,.cells #[sV O r.2.1 U,iV r.2.2.1,.int .u64 ((r.2.2.2:Nat):Int)] 74 (0,0))]/\Al rI E' O U r.2.1):=by
 refine Bn func36 λQ a5 cs H av Y=>?_;unfold f36 at K;obtain⟨a6,aw,ay⟩:=bs K;refine C 7 V (Cr 0 (bG aq aw) V V (Ba func83 V) av V ?_);rintro _ a7 _ Z ⟨ac,ag,rfl,rfl,al⟩ am;refine C 8 V (AW ay (λaz a0=>?_) (λaz a2=>?_))
 ·refine C 4 V ?_;obtain rfl:=oi a0;exact AZ func36 V V (Y Z V ⟨ac,ag,V,V,al⟩ am)
 ·refine C 5 V (Am (v:= .int .u64 ((C3 p1:Nat):Int)) V (λρ h=>Yl.C3 underlying3 underlying72 (h _ _ V)) ?_);refine Am (v:= .int .u64 (((C3 p1+1) % 2 ^ 64:Nat):Int)) V (λρ h=>YI (h _ _ V) (h _ _ V)) ?_;obtain⟨ap,a3,a4⟩:=bs a2;refine Am (v:= .int .u64 ((ap:Nat):Int)) V (λρ h=>W2 (h _ _ V) (h _ _ V) a3) (Am (v:=iV (MD ap)) V (λρ h=>ZJ underlying72 underlying3 (h _ _ V)) ?_);refine C 2 V ?_;obtain rfl:=oi a4;exact AZ func36 V V (Y Z V ⟨ac,ag,V,V,al⟩ am)
def f37(fu_:Nat)(p0:Cd)(p1:Int)(p2:Int):Option (Int×(Cd)):= (Ax (p2 - p1)).bind λO=> (f36 fu_ p0 O).bind λK=> (Ax (p1+K.1)).bind λU=> some (U,K.2)
theorem Qk{bk:Nat}{a1:Ao}{c2:Nat}{p0:Cd}{p1:Int}{p2:Int}(Y:Al rI E a1 c2 p0.1){fu_:Nat}{r:Int×(Cd)}(K:f37 fu_ p0 p1 p2=some r):AQ J 37 [Aj bk 0,iV p1,iV p2] E [(bk,.cells #[sV a1 p0.1 c2,iV p0.2.1,.int .u64 ((p0.2.2:Nat):Int)] 74 (0,0))] (λw E' B'=>∃(O:Ao) (U:Nat),w=iV r.1/\B'= [(bk,.cells #[sV O r.2.1 U,iV r.2.2.1,.int .u64 ((r.2.2.2:Nat):Int)] 74 (0,0))]/\Al rI E' O U r.2.1):=by
 refine Bn func37 λQ a3 cs H Z ac=>?_;unfold f37 at K;obtain⟨a4,ag,al⟩:=bs K;refine C 10 V (Cp ag V V V ?_);obtain⟨a5,am,ap⟩:=bs al;refine Cr 0 (Li Y am) V V KQ Z V ?_;rintro _ a6 _ aq ⟨av,aw,rfl,rfl,ay⟩ az;obtain⟨a7,a0,a2⟩:=bs ap;refine Br a0 V V V (C 2 V ?_);obtain rfl:=oi a2;exact AZ func37 V V (ac aq V ⟨av,aw,V,V,ay⟩ az)
def f32(fu_:Nat)(p0:Cd)(p1:Int):Option (Bool×(Cd)):= (Ax (p1 - 1)).bind λO=> (f36 fu_ p0 O).bind λK=> some (decide (K.1=0),K.2)
theorem Uq{bk:Nat}{a1:Ao}{c2:Nat}{p0:Cd}{p1:Int}(Y:Al rI E a1 c2 p0.1){fu_:Nat}{r:Bool×(Cd)}(K:f32 fu_ p0 p1=some r):AQ J 32 [Aj bk 0,iV p1] E [(bk,.cells #[sV a1 p0.1 c2,iV p0.2.1,.int .u64 ((p0.2.2:Nat):Int)] 74 (0,0))] (λw E' B'=>∃(O:Ao) (U:Nat),w= .bool r.1/\B'= [(bk,.cells #[sV O r.2.1 U,iV r.2.2.1,.int .u64 ((r.2.2.2:Nat):Int)] 74 (0,0))]/\Al rI E' O U r.2.1):=by
 refine Bn func32 λQ a0 cs H Z ac=>?_;unfold f32 at K;obtain⟨a2,ag,al⟩:=bs K;refine C 8 V (Cp ag V V V ?_);obtain⟨a3,am,ap⟩:=bs al;refine Cr 0 (Li Y am) V V KQ Z V ?_;rintro _ a4 _ aq ⟨av,aw,rfl,rfl,ay⟩ az;refine C 3 V ?_;obtain rfl:=oi ap;exact AZ func32 V V (ac aq V ⟨av,aw,V,V,ay⟩ az)
def f81(fu_:Nat)(p0:Cd)(p1:List Int):Option (Int×(Cd)):= (Ax ((p1.length:Int) - 1)).bind λO=> (f36 fu_ p0 O).bind λK=> (ix p1 K.1).bind λU=> some (U,K.2)
theorem Uj{bk:Nat}{a1:Ao}{c2:Nat}{K:Ao}{O:Nat}{p0:Cd}{p1:List Int}(ag:Al rI E a1 c2 p0.1)(al:Al rI E K O p1){fu_:Nat}{r:Int×(Cd)}(U:f81 fu_ p0 p1=some r):AQ J 81 [Aj bk 0,sV K p1 O] E [(bk,.cells #[sV a1 p0.1 c2,iV p0.2.1,.int .u64 ((p0.2.2:Nat):Int)] 74 (0,0))] (λw E' B'=>∃(Y:Ao) (Z:Nat),w=iV r.1/\B'= [(bk,.cells #[sV Y r.2.1 Z,iV r.2.2.1,.int .u64 ((r.2.2.2:Nat):Int)] 74 (0,0))]/\Al rI E' Y Z r.2.1):=by
 refine Bn func81 λQ a7 cs H am ap=>?_;unfold f81 at U;refine C 9 V (JL.ln underlying28 V V V ?_);obtain⟨a8,aq,av⟩:=bs U;refine Cp aq V V V ?_;obtain⟨a9,aw,ay⟩:=bs av;refine Cr 0 (Li ag aw) V V KQ am V ?_;rintro _ bb _ ac ⟨az,a0,rfl,rfl,a2⟩ a3;obtain⟨be,a4,a5⟩:=bs ay;refine JS.ix (al.Ah ac) a4 underlying28 AG ?_;rintro bi bn _ rfl a6;refine C8 0 a6 A7 V V V (C 2 V ?_);obtain rfl:=oi a5;exact AZ func81 V V (ap ac V ⟨az,a0,V,V,a2⟩ a3)
def f40(fu_:Nat)(p0:Cd)(p1:Int):Option (Dq×(Cd)):= (Ax (p1 - 1)).bind λZ=> (f36 fu_ p0 Z).bind λK=> (f37 fu_ K.2 1 9).bind λO=> (f81 fu_ O.2 ([1,2,2,3,O.1]:List Int)).bind λU=> (Ax (p1 - 1)).bind λac=> (f37 fu_ U.2 1 ac).bind λY=> (Ax (K.1+Y.1)).bind λag=> (Ls ag p1).bind λal=> some ((K.1,al,U.1),Y.2)
theorem Ux{bk:Nat}{a1:Ao}{c2:Nat}{p0:Cd}{p1:Int}(ay:Al rI E a1 c2 p0.1){fu_:Nat}{r:Dq×(Cd)}(ac:f40 fu_ p0 p1=some r):AQ J 40 [Aj bk 0,iV p1] E [(bk,.cells #[sV a1 p0.1 c2,iV p0.2.1,.int .u64 ((p0.2.2:Nat):Int)] 74 (0,0))] (λw E' B'=>∃(ag:Ao) (al:Nat),w= .agg #[iV r.1.1,iV r.1.2.1,iV r.1.2.2]/\B'= [(bk,.cells #[sV ag r.2.1 al,iV r.2.2.1,.int .u64 ((r.2.2.2:Nat):Int)] 74 (0,0))]/\Al rI E' ag al r.2.1):=by
 refine Bn func40 λQ cP cs H az a0=>?_;unfold f40 at ac;refine C 2 V (BV az BO λcQ a2=>?_);obtain⟨cR,a3,a4⟩:=bs ac;refine C 5 V (Cp a3 V V V ?_);obtain⟨O,a5,a6⟩:=bs a4;refine Cr 0 (Li ay a5) V V KQ a2 V ?_;rintro _ cT _ a7 ⟨cV,cW,rfl,rfl,a8⟩ a9;obtain⟨am,bb,be⟩:=bs a6;refine C 2 V (Cr 0 (Qk a8 bb) V V OH a9 V ?_);rintro _ cX _ bi ⟨cY,cZ,rfl,rfl,bn⟩ bo;refine F1 (pp:=rI) [iV 1,iV 2,iV 2,iV 3,iV am.1] [1,2,2,3,am.1] V V V underlying28 AG CI (by decide) V V V ⟨V,V,V,V,V,trivial⟩ bo λc0 c1 bv bw=>B9 2 bv bw V λc3 ap bx bz=>?_;obtain⟨U,b0,b1⟩:=bs be;refine Cr 0 (Uj (bn.Ah ap) bx b0) V V (Ba func81 V) bz V ?_;rintro _ c4 _ b2 ⟨c5,c6,rfl,rfl,b3⟩ b4;refine Am (v:= .agg #[iV O.1,iV 0,iV U.1]) V (λρ h=>Dh [(0,1),(1,1),(2,1)] h BO underlying27 ⟨V,AU type3,V,AU type3,V,AU type3,trivial⟩ V V) (BV b4 BO λaq b5=>?_);refine BJ 3 b5 Bg λZ=>?_;refine C 2 V (Fb 8 [aq] ⟨⟨3,_,V⟩,trivial⟩ Z λK=>?_);refine JG.fd 0 K underlying27 AG V V V V (IV 1 K 0 3 Z A7 ?_);refine A5 K V [2,3] V ?_;obtain⟨b6,ca,cc⟩:=bs b1;refine AO 4 K V V (λρ h s' ce=>Ei (h _ _ V) (h _ _ V) ca) (Dd 7 K V V ?_);obtain⟨c7,ci,co⟩:=bs cc;refine Rv (i:=5) (vs:= [Aj bk 0,iV 1,iV b6]) 0 (by exact λx cp=>HM.mem (bks:= [aq]) (by exact⟨⟨3,_,rfl⟩,trivial⟩) x (by simpa [Az] using cp)) (Qk b3 ci) (by decide+kernel) V V V OH V Z V ?_;rintro _ c8 _ ct ⟨cw,cy,rfl,rfl,cG⟩ cH;obtain⟨c9,cI,cJ⟩:=bs co;refine AO 6 K V V (λρ h s' ce=>F0 (h _ _ V) (h _ _ V) cI) (Dp [8,9,10] ?_);obtain⟨Y,cK,cM⟩:=bs cJ;refine Am (v:=iV Y) V (λρ h=>SU (h _ _ V) (h _ _ V) cK) (JL.fd underlying27 AG V V V ?_);refine BJ 3 cH AG λav=>?_;refine C 3 V (Am V (λρ h=>Gg (vs:= [iV O.1,iV Y,iV U.1]) Ef Bg (h _ _ V) (Fw (off:=0) 3 av V V)) ?_);refine BJ 1 av Bg λcN=>?_;refine JL.done (JS.drop 3 cN V λaw=>?_);obtain rfl:=oi cM;refine JL.ret (v:= .agg #[iV O.1,iV Y,iV U.1]) V V (Bz.list func40 V (vs:= [.agg #[iV O.1,iV Y,iV U.1]]) ⟨⟨_,V,Ld.many (vs:= [iV O.1,iV Y,iV U.1]) Ef Bg (Fw (off:=0) 1 aw V V)⟩,trivial⟩) (Eu 1 aw V λcO=>?_);exact a0 ((((a7.Ad bi).Ad ap).Ad b2).Ad ct) V ⟨cw,cy,V,V,cG⟩ cO
end Pal
namespace Pal
open Go Go.Conc
variable {P:Program}{J:Judge P}{Q:Gs_}{b:Frame}{n:Nat}{ds:Ld_}{ops:Ao_}{cs:Lf_}{fuel:Nat}{D:Nat->Bool}{listed:Array Bool}{L:Env}{s:St}{E E' H:LH}{S:List Seg}
variable {d:Option Tmp}{t u ty e:TypeId}{p:String}{af:Ae_}{g:On_}{v:Value}{i:Nat}{kd:IntKind}
section
variable {k:Li_}{m:Nat}
variable {x y:Operand}
theorem Take.Ub{f:FuncId}{args:Array Operand}{ats:Array TypeId}{vs:Lv_}{seg:Seg}{R:Value->LH->Seg->Prop}(j:Nat)(O:Ap E H S)(ap:AQ J f vs E seg R)
  (aq:ops[i]? =some ⟨d,.call ⟨.value (.func f),args,ats⟩,ty,p,af,g⟩) (hw:AL L ops ⟨d,.call ⟨.value (.func f),args,ats⟩,ty,p,af,g⟩=some true) (av:Bb n d=true) (hb:DF P f=true) (aw:evs L args.toList=some vs) (U:S[j]? =some seg)
  (ay:∀v E' seg',Le E E'->R v E' seg'->Ap E' H (S.set j seg')->AM J Q b n ds ops k cs m Dk fuel (A2 listed i) (As L d v) (Ak E' H (S.set j seg'))):
  Take J Q b n ds ops k cs m Dk fuel listed L (Ak E H S) i:=by
 have Y:S.flatten.Perm (seg++(S.set j []).flatten):=(Et (seg':=seg) U).1.trans List.perm_append_comm;have Z:Nd E H (seg++(S.set j []).flatten):=Nd.perm O Y;have az:Ak E H S=mk E (A1 (S.set j []).flatten H) seg:=by
  rw [show Ak E H S=mk E H S.flatten from rfl,Fl O Y];unfold mk;rw [FX]
 have ac:=EP.Lx (ap (A1 (S.set j []).flatten H) (Nd.front Z)) (by rintro v s' ⟨E',B',_,_,_,rfl⟩;rfl);rw [← az] at ac;refine⟨_,aq,by simp [Dw],av,hw,λρ ag=>?_⟩;have a0:args.map ρ=vs.toArray:=by
  rw [← GA ag aw];apply Array.ext';simp
 have a1:ρ (.func f)= .func (.func f) #[] #[]:=ag _ _ V;simp only [execOp,resolve,bind,Sem.bind,Deferred.ofValue,a1,pure,invoke];have e: #[]++args.map ρ++ #[]=vs.toArray:=by rw [a0];simp
 rw [e];refine I8 hb ?_;rw [KV];refine⟨_,ac,?_⟩;rintro v be ⟨⟨E',B',hle,a2,a3,rfl⟩,w,a4⟩;have e2:mk E' (A1 (S.set j []).flatten H) B'=mk E' H (B'++(S.set j []).flatten):=by unfold mk;rw [FX]
 have a5:Nd E H (S.set j []).flatten:=by
  have:=Z;rw [Nd.iff] at this ⊢;rw [List.map_append,List.nodup_append] at this;exact⟨this.1.2.1,λq a6=>this.2 q (List.mem_append_right _ a6)⟩
 have a7:Nd E' H (S.set j []).flatten:=a5.grow λx K=>by
  have a8:=a4.d x K;have a9:A1 B' (A1 (S.set j []).flatten H) x=none:=a8;exact(H6 a9).1
 have al:Nd E' H (B'++(S.set j []).flatten):=Nd.glue a3 a7;have am:(B'++(S.set j []).flatten).Perm (S.set j B').flatten:=List.perm_append_comm.trans (Et U).2.symm;have bb:Ap E' H (S.set j B'):=Nd.perm al am;rw [e2,Fl al am];exact⟨V,λx o K=>hle _ _ K,ay v E' B' hle a2 bb⟩
end
open Go.Proofs Go.Proofs.Tryz
variable {J:Judge Tryz.prog}
def Qd(fu_:Nat)(Y:Bool×(Cd))(K:(List Int)×Int×Nat×(List Int)×Int):Option (Bm ((List Int)×Int×Nat×(List Int)×Int) ((List Int)×Cd)):= if 0<K.2.2.2.2 then(Option.bind (if Y.1=true then((room K.2.2.2.1 1).bind λZ=> some (Z,K.1,K.2.1,K.2.2.1)) else((f81 fu_ (K.1,K.2.1,K.2.2.1) ([1,1,2,2,3,5]:List Int)).bind λO=> (room K.2.2.2.1 O.1).bind λac=> some (ac,O.2.1,O.2.2.1,O.2.2.2))) λU=> (Ax (K.2.2.2.2 - 1)).bind λag=> some (.more (U.2.1,U.2.2.1,U.2.2.2,U.1,ag))) else(some (.done (K.2.2.2.1,K.1,K.2.1,K.2.2.1)))
def PQ(fu_:Nat)(Y:Int×(Cd))(Z:Bool×(Cd))(K:Be×(List Int)×Int×Nat×Int):Option (Bm (Be×(List Int)×Int×Nat×Int) ((List Int)×Int×Nat×Be)):= if K.2.2.2.2<Y.1 then((f36 fu_ (K.2.1,K.2.2.1,K.2.2.2.1) 3).bind λO=> Option.bind (iter (Qd fu_ Z) fu_ (O.2.1,O.2.2.1,O.2.2.2,[],O.1)) λU=> (room K.1 U.1).bind λac=> (Ax (K.2.2.2.2+1)).bind λag=> some (.more (ac,U.2.1,U.2.2.1,U.2.2.2,ag))) else(some (.done (K.2.1,K.2.2.1,K.2.2.2.1,K.1)))
def P6(fu_:Nat)(U:Int×(Cd))(K:Aw×(List Int)×Int×Nat×Int):Option (Bm (Aw×(List Int)×Int×Nat×Int) ((List Int)×Int×Nat×Aw)):= if 0<K.2.2.2.2 then((f40 fu_ (K.2.1,K.2.2.1,K.2.2.2.1) U.1).bind λO=> (CN K.1 ([O.1]:Aw)).bind λY=> (Ax (K.2.2.2.2 - 1)).bind λZ=> some (.more (Y,O.2.1,O.2.2.1,O.2.2.2,Z))) else(some (.done (K.2.1,K.2.2.1,K.2.2.2.1,K.1)))
def f31(fu_:Nat)(p0:Cd)(p1:Int)(p2:Int):Option (A4×(Cd)):= (f37 fu_ p0 2 p1).bind λZ=> (f32 fu_ Z.2 3).bind λK=> Option.bind (iter (PQ fu_ Z K) fu_ ([],K.2.1,K.2.2.1,K.2.2.2,0)) λO=> (f36 fu_ (O.1,O.2.1,O.2.2.1) p2).bind λU=> Option.bind (iter (P6 fu_ Z) fu_ ([],U.2.1,U.2.2.1,U.2.2.2,U.1)) λY=> some ((O.2.2.2,Y.2.2.2),(Y.1,Y.2.1,Y.2.2.1))
variable {J:Judge Tryz.prog}
variable {J:Judge Tryz.prog}
variable {J:Judge Tryz.prog}
def f35(fu_:Nat)(p0:A4)(p1:A4):Option Bool:= (f43 fu_ p0).bind λK=> (f43 fu_ p1).bind λO=> (f22 fu_ p0).bind λU=> (f22 fu_ p1).bind λY=> (f24 fu_ p0).bind λZ=> (f24 fu_ p1).bind λac=> Option.bind (if K.2=0 then(some (decide (O.2=0))) else(some false)) λag=> Option.bind (if ag=true then(some (decide (U.2=0))) else(some false)) λal=> Option.bind (if al=true then(some (decide (Y.2=0))) else(some false)) λam=> Option.bind (if am=true then(some (decide (Z.2=0))) else(some false)) λap=> Option.bind (if ap=true then(some (decide (ac.2=0))) else(some false)) λaq=> Option.bind (if aq=true then(some (decide (Z.1=ac.1))) else(some false)) λav=> Option.bind (if av=true then((f29 fu_ K.1 O.1).bind λaw=> some aw) else(some false)) λay=> Option.bind (if ay=true then((f26 fu_ U.1 Y.1).bind λaz=> some az) else(some false)) λa0=> some a0
theorem bB{a1:Ao}{c2:Nat}{b2:Ao}{b3:Nat}{b4:Ao}{b5:Nat}{b6:Ao}{ca:Nat}{p0:A4}{p1:A4}(bo:Al (rL rI) E a1 c2 p0.1)(bv:Al AA E b2 b3 p0.2)(bw:Al (rL rI) E b4 b5 p1.1)(bx:Al AA E b6 ca p1.2){fu_:Nat}{r:Bool}(cc:f35 fu_ p0 p1=some r):AQ J 35 [.agg #[sV a1 p0.1 c2,sV b2 p0.2 b3],.agg #[sV b4 p1.1 b5,sV b6 p1.2 ca]] E [] (λw E' B'=>w= .bool r/\B'= []):=by
 refine Bn func35 λQ ew cs H cQ cR=>?_;unfold f35 at cc;refine C 2 V (Dv cQ λex ey Y bz cT=>?_);refine Dv cT λez eA K b0 cV=>?_;refine C 4 V (Cx (bz.Ah K) Ee Ck V V ?_);obtain⟨a0,cW,cX⟩:=bs cc;refine BT (Qz (bo.Ah (Y.Ad K)) (bv.Ah (Y.Ad K)) cW) V V OF cV ?_;rintro _ eB _ O ⟨a2,a3,rfl,rfl,cY⟩ cZ;refine C 8 V (Cx (b0.Ah O) Ee Ck V V ?_);obtain⟨a4,c0,c1⟩:=bs cX;refine BT (Qz (bw.Ah ((Y.Ad K).Ad O)) (bx.Ah ((Y.Ad K).Ad O)) c0) V V OF cZ ?_;rintro _ eC _ U ⟨a5,a6,rfl,rfl,c3⟩ c4;refine C 8 V (Cx (bz.Ah ((K.Ad O).Ad U)) Ee Ck V V ?_);obtain⟨am,c5,c6⟩:=bs c1;refine BT (Qs (bo.Ah (((Y.Ad K).Ad O).Ad U)) (bv.Ah (((Y.Ad K).Ad O).Ad U)) c5) V V OI c4 ?_;rintro _ eD _ Z ⟨av,aw,rfl,rfl,c7⟩ c8;refine C 8 V (Cx (b0.Ah ((O.Ad U).Ad Z)) Ee Ck V V ?_);obtain⟨ag,c9,da⟩:=bs c6;refine BT (Qs (bw.Ah ((((Y.Ad K).Ad O).Ad U).Ad Z)) (bx.Ah ((((Y.Ad K).Ad O).Ad U).Ad Z)) c9) V V OI c8 ?_;rintro _ eE _ ac ⟨ay,az,rfl,rfl,db⟩ dc;refine C 8 V (Cx (bz.Ah ((((K.Ad O).Ad U).Ad Z).Ad ac)) Ee Ck V V ?_);obtain⟨ap,dd,de⟩:=bs da;refine CF (Qp (bo.Ah (((((Y.Ad K).Ad O).Ad U).Ad Z).Ad ac)) (bv.Ah (((((Y.Ad K).Ad O).Ad U).Ad Z).Ad ac)) dd) V V OO dc λeF aq df=>C 8 V (Cx (b0.Ah ((((O.Ad U).Ad Z).Ad ac).Ad aq)) Ee Ck V V ?_);obtain⟨al,dg,dh⟩:=bs de;refine CF (Qp (bw.Ah ((((((Y.Ad K).Ad O).Ad U).Ad Z).Ad ac).Ad aq)) (bx.Ah ((((((Y.Ad K).Ad O).Ad U).Ad Z).Ad ac).Ad aq)) dg) V V OO df λeG a7 ce=>?_;obtain⟨di,dj,dk⟩:=bs dh;refine C 11 V (DY 6 32 [] [(5,sV a2 a0.1 a3),(7,sV a5 a4.1 a6),(9,sV av am.1 aw),(10,iV am.2),(11,sV ay ag.1 az),(12,iV ag.2),(13,iV ap.1),(14,iV ap.2),(15,iV al.1),(16,iV al.2),(52,.bool di)] (λeH a8 ci=>?_) (λco=>?_))
 ·obtain⟨dn,dp,dq⟩:=bs dk;refine C 1 V (DY 10 28 [] [(5,sV a2 a0.1 a3),(7,sV a5 a4.1 a6),(9,sV av am.1 aw),(11,sV ay ag.1 az),(12,iV ag.2),(13,iV ap.1),(14,iV ap.2),(15,iV al.1),(16,iV al.2),(56,.bool dn)] (λeI a9 cp=>?_) (λct=>?_))
  ·obtain⟨dr,dt,du⟩:=bs dq;refine C 1 V (DY 14 24 [] [(5,sV a2 a0.1 a3),(7,sV a5 a4.1 a6),(9,sV av am.1 aw),(11,sV ay ag.1 az),(13,iV ap.1),(14,iV ap.2),(15,iV al.1),(16,iV al.2),(60,.bool dr)] (λeJ bb cw=>?_) (λcy=>?_))
   ·obtain⟨dv,dw,dx⟩:=bs du;refine C 1 V (DY 18 20 [] [(5,sV a2 a0.1 a3),(7,sV a5 a4.1 a6),(9,sV av am.1 aw),(11,sV ay ag.1 az),(13,iV ap.1),(15,iV al.1),(16,iV al.2),(64,.bool dv)] (λeK be cG=>?_) (λcH=>?_))
    ·obtain⟨dy,dz,dA⟩:=bs dx;refine C 1 V (DY 22 16 [] [(5,sV a2 a0.1 a3),(7,sV a5 a4.1 a6),(9,sV av am.1 aw),(11,sV ay ag.1 az),(13,iV ap.1),(15,iV al.1),(68,.bool dy)] (λeL bi cI=>?_) (λcJ=>?_))
     ·obtain⟨dB,dC,dD⟩:=bs dA;refine C 1 V (DY 27 11 [] [(5,sV a2 a0.1 a3),(7,sV a5 a4.1 a6),(9,sV av am.1 aw),(11,sV ay ag.1 az),(73,.bool dB)] (λeM bn cK=>?_) (λcM=>?_))
      ·obtain⟨dE,dF,dG⟩:=bs dD;refine C 1 V (DY 32 6 [] [(9,sV av am.1 aw),(11,sV ay ag.1 az),(78,.bool dE)] (λeN b1 cN=>?_) (λcO=>?_))
       ·obtain⟨dH,dI,dJ⟩:=bs dG;refine C 1 V (DY 37 1 [] [(83,.bool dH)] (λeO dK dL=>?_) (λcP=>?_))
        ·refine C 2 V ?_;obtain rfl:=oi dJ;exact AZ func35 V V (cR (((((((((((((((Y.Ad K).Ad O).Ad U).Ad Z).Ad ac).Ad aq).Ad a7).Ad a8).Ad a9).Ad bb).Ad be).Ad bi).Ad bn).Ad b1).Ad dK) V ⟨V,V⟩ dL)
        ·refine DZ 79 dI (λdM dN=>?_) (λdM dO=>?_)
         ·obtain⟨eP,dQ,dR⟩:=bs dN;refine C 2 V (CF (Qx (c7.Ah (((((((((ac.Ad aq).Ad a7).Ad a8).Ad a9).Ad bb).Ad be).Ad bi).Ad bn).Ad b1)) (db.Ah ((((((((aq.Ad a7).Ad a8).Ad a9).Ad bb).Ad be).Ad bi).Ad bn).Ad b1)) dQ) V V OJ cN λeQ dS dT=>?_);refine C 1 V ?_;obtain rfl:=oi dR;exact cP dS dT V
         ·refine C 4 V ?_;obtain rfl:=oi dO;exact cP Ay cN V
       ·refine DZ 74 dF (λdU dV=>?_) (λdU dW=>?_)
        ·obtain⟨eR,dX,dY⟩:=bs dV;refine C 2 V (CF (Mj (cY.Ah ((((((((((U.Ad Z).Ad ac).Ad aq).Ad a7).Ad a8).Ad a9).Ad bb).Ad be).Ad bi).Ad bn)) (c3.Ah (((((((((Z.Ad ac).Ad aq).Ad a7).Ad a8).Ad a9).Ad bb).Ad be).Ad bi).Ad bn)) dX) V V LD cK λeS dZ ea=>?_);refine C 1 V ?_;obtain rfl:=oi dY;exact cO dZ ea V
        ·refine C 4 V ?_;obtain rfl:=oi dW;exact cO Ay cK V
      ·refine DZ 69 dC (λeb ec=>?_) (λeb ed=>?_)
       ·refine C 4 V ?_;obtain rfl:=oi ec;exact cM Ay cI V
       ·refine C 4 V ?_;obtain rfl:=oi ed;exact cM Ay cI V
     ·refine DZ 65 dz (λee ef=>?_) (λee eg=>?_)
      ·refine C 3 V ?_;obtain rfl:=oi ef;exact cJ Ay cG V
      ·refine C 3 V ?_;obtain rfl:=oi eg;exact cJ Ay cG V
    ·refine DZ 61 dw (λeh ei=>?_) (λeh ej=>?_)
     ·refine C 3 V ?_;obtain rfl:=oi ei;exact cH Ay cw V
     ·refine C 3 V ?_;obtain rfl:=oi ej;exact cH Ay cw V
   ·refine DZ 57 dt (λek el=>?_) (λek em=>?_)
    ·refine C 3 V ?_;obtain rfl:=oi el;exact cy Ay cp V
    ·refine C 3 V ?_;obtain rfl:=oi em;exact cy Ay cp V
  ·refine DZ 53 dp (λen eo=>?_) (λen ep=>?_)
   ·refine C 3 V ?_;obtain rfl:=oi eo;exact ct Ay ci V
   ·refine C 3 V ?_;obtain rfl:=oi ep;exact ct Ay ci V
 ·refine HN 49 dj (λer et=>?_) (λer eu=>?_)
  ·refine C 3 V ?_;obtain rfl:=oi et;exact co Ay ce V
  ·refine C 3 V ?_;obtain rfl:=oi eu;exact co Ay ce V
variable {J:Judge Tryz.prog}
def QI(fu_:Nat)(p0:Aw):Option (Aw):= (CN ([]:Aw) p0).bind λK=> some K
theorem Zk{a1:Ao}{c2:Nat}{p0:Aw}(Y:Al AA E a1 c2 p0){fu_:Nat}{r:Aw}(K:QI fu_ p0=some r):AQ J 69 [sV a1 p0 c2] E [] (λw E' B'=>∃(O:Ao) (U:Nat) (g0:Seg),w= sV O r U/\B'=g0/\OL 27 AA E' O U g0 r):=by
 refine Bn func69 λQ a0 cs H Z ac=>?_;unfold QI at K;refine C 6 V (ND (pp:=AA) V V V underlying23 Bg Z λa2 a3 ag al=>?_);obtain⟨a4,am,ap⟩:=bs K;refine C 1 V (IL (pp:=AA) 1 am V V V V V V V underlying23 underlying23 Bg (Dl type27) BO V (by decide) (by decide) ag Y al V λaq av aw ay az=>?_);refine C 2 V ?_;obtain rfl:=oi ap;exact AZ func69 V V (ac Ay V ⟨aq,av,aw,V,(by first | rfl | simp | (simp [Value.cells])),ay⟩ az)
def Ol(fu_:Nat)(p0:A4):Option (A4):= (f68 fu_ p0.1).bind λK=> (QI fu_ p0.2).bind λO=> some (K,O)
theorem Z5{a1:Ao}{c2:Nat}{am:Ao}{ap:Nat}{p0:A4}(a6:Al (rL rI) E a1 c2 p0.1)(a7:Al AA E am ap p0.2){fu_:Nat}{r:A4}(aq:Ol fu_ p0=some r):AQ J 21 [.agg #[sV a1 p0.1 c2,sV am p0.2 ap]] E [] (λw E' B'=>∃(av:Ao) (aw:Nat) (ay:Ao) (az:Nat) (a0:Seg),w= .agg #[sV av r.1 aw,sV ay r.2 az]/\B'=a0/\Al (rL rI) E' av aw r.1/\OL 27 AA E' ay az a0 r.2):=by
 refine Bn func21 λQ b3 cs H a8 a9=>?_;unfold Ol at aq;refine C 2 V (Dv a8 λb4 b5 al a2 bb=>?_);refine BV bb H4 λb6 be=>?_;refine C 2 V (Fc 5 λZ=>?_);refine JG.fd 0 Z underlying25 FH V V V V (Ex 1 Z 0 a2 FT V V V V ?_);refine JG.fd 3 Z underlying25 DR V V V V (Ex 4 Z 1 a2 EZ V V V V ?_);obtain⟨ac,bi,bn⟩:=bs aq;refine JG.call (i:=2) (vs:= [sV a1 p0.1 c2]) (aS (a6.Ah al) bi) (by decide+kernel) V V V (Ba func68 V) V be ?_;rintro _ ca _ a3 ⟨K,O,rfl,rfl,bo⟩ bv;refine Dp [5,6,7] ?_;obtain⟨ag,bw,bx⟩:=bs bn;refine BT (Zk (a7.Ah (al.Ad a3)) bw) V V (Ba func69 V) bv ?_;rintro _ cc bz a4 ⟨U,Y,_,rfl,rfl,b0⟩ b1;refine Am (v:= .agg #[sV K ac O,sV U ag Y]) V (λρ h=>Dh [(0,1),(1,1)] h H4 underlying25 ⟨V,AU type22,V,AU type23,trivial⟩ V V) (BJ 2 b1 Ck λa5=>?_);refine JL.done ?_;obtain rfl:=oi bx;refine JL.ret (v:= .agg #[sV K ac O,sV U ag Y]) V V (Bz.list func21 V (vs:= [.agg #[sV K ac O,sV U ag Y]]) ⟨⟨_,V,Ld.many (vs:= [sV K ac O,sV U ag Y]) Ee Ck (Fw (off:=0) 2 a5 V V)⟩,trivial⟩) (Eu 2 a5 V λb2=>?_);exact a9 ((al.Ad a3).Ad a4) V ⟨K,O,U,Y,bz,V,(by first | rfl | simp | (simp [Value.cells])),(bo.Ah a4),b0⟩ b2
end Pal
set_option autoImplicit false
open Go
namespace Pal
theorem Al.UD{P:Program}{E:LH}{α:Type}{pp:Rp α}{a:Option Addr}{c:Nat}{xs:List α}{xv:α}{K:Int}(U:Al pp E a c xs)(O:ix xs K=some xv):
  ∃bk o ws,pp.r E ws xv/\At E bk o ws/\∀{s:St} {ρ:Operand->Value} {x y:Operand} {d:Option Tmp} {t ty e:TypeId} {p:String} {af:Ae_} {g:On_} {kd:IntKind},
   P.underlying t=some (.slice e)->Bl P e=some pp.n->ρ x= .slice a xs.length c->ρ y= .int kd K->Yl P ⟨d,.indexAddr t x y,ty,p,af,g⟩ ρ s (.pointer (some ⟨bk,o,none⟩)):=by
 obtain⟨K,rfl,O⟩:=F2 O;have Y:K<xs.length:=(List.getElem?_eq_some_iff.1 O).1;obtain⟨av,⟨rfl,_⟩ | ⟨bk,off,rfl,Z⟩⟩:=U
 ·simp at Y
 obtain⟨ws,ac,ag⟩:=Z K xv O;refine⟨bk,off+K*pp.n,ws,ac,ag,λ{s ρ x y d t ty e p af g kd} al am ap aq=>?_⟩;have:=LV (P:=P) (s:=s) (d:=d) (ty:=ty) (p:=p) (af:=af) (g:=g) al am ap aq ⟨by omega,by omega⟩;rw [Dm rfl] at this;simpa using this
open Go Go.Conc Go.Proofs Go.Proofs.Tryz
variable {E:LH}
variable {J:Judge Tryz.prog}
def NW(fu_:Nat)(p0:List Int)(p1:Int)(K:Int):Option (Bm Int ((Int)⊕(Unit))):= if K<(p0.length:Int) then((ix p0 K).bind λO=> if O=p1 then(some (.done (Sum.inl K))) else((Ax (K+1)).bind λU=> some (.more U))) else(some (.done (Sum.inr ())))
def f34(fu_:Nat)(p0:List Int)(p1:Int):Option Int:= Option.bind (iter (NW fu_ p0 p1) fu_ 0) λK=> Sum.elim (λr=>some r) (λO=> some (-1)) K
theorem bF{a1:Ao}{c2:Nat}{p0:List Int}{p1:Int}(aw:Al rI E a1 c2 p0){fu_:Nat}{r:Int}(Z:f34 fu_ p0 p1=some r):AQ J 34 [sV a1 p0 c2,iV p1] E [] (λw E' B'=>w=iV r/\B'= []):=by
 refine Bn func34 λQ b2 cs H ay ac=>?_;unfold f34 at Z;obtain⟨ag,az,al⟩:=bs Z;refine C 9 V (Bt (λL s=>∃(am:Unit) (ap:LH),ag=Sum.inr am/\Jm E H ap [] [] L s) ?_ ?_)
 ·rintro _ _ ⟨am,ap,rfl,rfl,rfl,a0,a2⟩;have a3:=elim_inr al;refine C 4 V ?_;obtain rfl:=oi a3;exact AZ func34 V V (ac a0 V ⟨V,V⟩ a2)
 ·intro a4;refine JL.block (DX az (λU=> []) (λU=> [(0,sV a1 p0 c2),(1,iV p1),(5,iV U)]) Ay ay ?_);rintro U a5 K Y aq ⟨b3,O⟩ a6;have av:=O;unfold NW at av;refine C 5 V (JL.ln underlying28 V V V ?_);refine C 2 V (AW av (λa7 a8=>?_) (λa7 a9=>?_))
  ·obtain⟨b4,bb,be⟩:=bs a8;refine C 7 V (JS.ix (aw.Ah K) bb underlying28 AG ?_);rintro b5 b6 _ rfl bi;refine C8 0 bi A7 V V V (C 3 V ?_);refine AW be (λbn bo=>?_) (λbn bv=>?_)
   ·refine C 5 V ?_;obtain rfl:=oi bo;obtain rfl:=aq _ O;have bw:=elim_inl al;obtain rfl:=oi bw;exact AZ func34 V V (ac K V ⟨V,V⟩ Y)
   ·obtain⟨bx,bz,b0⟩:=bs bv;refine C 4 V (Br bz V V V ?_);refine C 2 V ?_;obtain rfl:=oi b0;exact a6 bx K Y V O
  ·refine JL.exit V ?_;obtain rfl:=oi a9;have b1:ag=(Sum.inr ()):=(aq _ O).symm;exact AF (a4 _ _ ⟨(),a5,b1,V,V,K,Y⟩) V
def S6(fu_:Nat)(Y:Bool×(Cd))(K:(List Int)×Int×Nat×(List Int)×Int):Option (Bm ((List Int)×Int×Nat×(List Int)×Int) ((List Int)×Cd)):= if 0<K.2.2.2.2 then(Option.bind (if Y.1=true then((room K.2.2.2.1 1).bind λZ=> some (Z,K.1,K.2.1,K.2.2.1)) else((f81 fu_ (K.1,K.2.1,K.2.2.1) ([1,1,2,2,3,5]:List Int)).bind λO=> (room K.2.2.2.1 O.1).bind λac=> some (ac,O.2.1,O.2.2.1,O.2.2.2))) λU=> (Ax (K.2.2.2.2 - 1)).bind λag=> some (.more (U.2.1,U.2.2.1,U.2.2.2,U.1,ag))) else(some (.done (K.2.2.2.1,K.1,K.2.1,K.2.2.1)))
def Tb(fu_:Nat)(Y:Int×(Cd))(Z:Bool×(Cd))(K:Be×(List Int)×Int×Nat×Int):Option (Bm (Be×(List Int)×Int×Nat×Int) ((List Int)×Int×Nat×Be)):= if K.2.2.2.2<Y.1 then((f36 fu_ (K.2.1,K.2.2.1,K.2.2.2.1) 3).bind λO=> Option.bind (iter (S6 fu_ Z) fu_ (O.2.1,O.2.2.1,O.2.2.2,[],O.1)) λU=> (room K.1 U.1).bind λac=> (Ax (K.2.2.2.2+1)).bind λag=> some (.more (ac,U.2.1,U.2.2.1,U.2.2.2,ag))) else(some (.done (K.2.1,K.2.2.1,K.2.2.2.1,K.1)))
def Td(fu_:Nat)(U:Int×(Cd))(K:Aw×(List Int)×Int×Nat×Int):Option (Bm (Aw×(List Int)×Int×Nat×Int) ((List Int)×Int×Nat×Aw)):= if 0<K.2.2.2.2 then((f40 fu_ (K.2.1,K.2.2.1,K.2.2.2.1) U.1).bind λO=> (CN K.1 ([O.1]:Aw)).bind λY=> (Ax (K.2.2.2.2 - 1)).bind λZ=> some (.more (Y,O.2.1,O.2.2.1,O.2.2.2,Z))) else(some (.done (K.2.1,K.2.2.1,K.2.2.2.1,K.1)))
def Oj(fu_:Nat)(p0:Cd)(p1:Int)(p2:Int):Option (A4×(Cd)):= (f37 fu_ p0 2 p1).bind λZ=> (f32 fu_ Z.2 3).bind λK=> Option.bind (iter (Tb fu_ Z K) fu_ ([],K.2.1,K.2.2.1,K.2.2.2,0)) λO=> (f36 fu_ (O.1,O.2.1,O.2.2.1) p2).bind λU=> Option.bind (iter (Td fu_ Z) fu_ ([],U.2.1,U.2.2.1,U.2.2.2,U.1)) λY=> some ((O.2.2.2,Y.2.2.2),(Y.1,Y.2.1,Y.2.2.1))
theorem ZP{bk:Nat}{a1:Ao}{c2:Nat}{p0:Cd}{p1:Int}{p2:Int}(dM:Al rI E a1 c2 p0.1){fu_:Nat}{r:A4×(Cd)}(dc:Oj fu_ p0 p1 p2=some r):AQ J 31 [Aj bk 0,iV p1,iV p2] E [(bk,.cells #[sV a1 p0.1 c2,iV p0.2.1,.int .u64 ((p0.2.2:Nat):Int)] 74 (0,0))] (λw E' B'=>∃(dd:Ao) (de:Nat) (df:Ao) (dg:Nat) (dh:Seg) (di:Ao) (dj:Nat),w= .agg #[sV dd r.1.1 de,sV df r.1.2 dg]/\B'= [(bk,.cells #[sV di r.2.1 dj,iV r.2.2.1,.int .u64 ((r.2.2.2:Nat):Int)] 74 (0,0))]++dh/\Al (rL rI) E' dd de r.1.1/\OL 27 AA E' df dg dh r.1.2/\Al rI E' di dj r.2.1):=by
 refine Bn func31 λQ g6 cs H dN dO=>?_;unfold Oj at dc;refine C 2 V (BV dN H4 λU dQ=>?_);refine C 3 V (BV dQ H4 λY dR=>?_);obtain⟨az,dS,dT⟩:=bs dc;refine C 5 V (Cr 0 (Qk dM dS) V V OH dR V ?_);rintro _ g7 _ dU ⟨g8,g9,rfl,rfl,dV⟩ dW;obtain⟨bw,dX,dY⟩:=bs dT;refine C 5 V (Cr 0 (Uq dV dX) V V (Ba func32 V) dW V ?_);rintro _ cO _ dZ ⟨ea,eb,rfl,rfl,ec⟩ ed;obtain⟨Z,ee,ef⟩:=bs dY;refine C 7 V (Bt (λL s=>∃(bx:LH) (cP:Ao) (cQ:Nat) (ag:Ao) (al:Nat) (a9:Seg),Jn cO H bx [bX bk #[sV cP Z.1 cQ,iV Z.2.1,.int .u64 ((Z.2.2.1:Nat):Int)] 74,bX U #[nS,nS] 25,bX Y #[sV ag Z.2.2.2 al,nS] 25,a9] [(0,Aj bk 0),(2,iV p2),(6,Aj U 0),(7,Aj Y 0),(8,iV az.1)] L s (Al rI bx cP cQ Z.1/\OL 28 (rL rI) bx ag al a9 Z.2.2.2)) ?_ ?_)
 ·rintro _ _ ⟨bx,cP,cQ,ag,al,a9,rfl,rfl,eg,eh,ei,ej⟩;obtain⟨ha,ek,el⟩:=bs ef;refine C 5 V (Cr 0 (Li ei ek) V V KQ eh V ?_);rintro _ cR _ dk ⟨em,en,rfl,rfl,eo⟩ ep;obtain⟨am,er,et⟩:=bs el;refine C 2 V (Bt (λL s=>∃(bz:LH) (b0:Ao) (b1:Nat) (a0:Ao) (a2:Nat) (b2:Seg),Jn cR H bz [bX bk #[sV b0 am.1 b1,iV am.2.1,.int .u64 ((am.2.2.1:Nat):Int)] 74,bX U #[nS,nS] 25,bX Y #[sV ag Z.2.2.2 al,sV a0 am.2.2.2 a2] 25,a9,b2] [(6,Aj U 0),(7,Aj Y 0)] L s (Al rI bz b0 b1 am.1/\OL 27 AA bz a0 a2 b2 am.2.2.2)) ?_ ?_)
  ·rintro _ _ ⟨bz,b0,b1,a0,a2,b2,rfl,rfl,dn,dp,eu,ew⟩;refine C 2 V (Am V (λρ h=>Gg (vs:= [sV ag Z.2.2.2 al,sV a0 am.2.2.2 a2]) Ee Ck (h _ _ V) (Fw (off:=0) 2 dp V V)) ?_);refine BJ 1 dp Ck λex=>?_;refine JL.done (B9 3 (ej.Ah (dk.Ad dn)) ex V λhb cT ey ez=>?_);refine JS.drop 2 ez V λdq=>?_;obtain rfl:=oi et;refine JL.ret (v:= .agg #[sV ag Z.2.2.2 al,sV a0 am.2.2.2 a2]) V V (Bz.list func31 V (vs:= [.agg #[sV ag Z.2.2.2 al,sV a0 am.2.2.2 a2]]) ⟨⟨_,V,Ld.many (vs:= [sV ag Z.2.2.2 al,sV a0 am.2.2.2 a2]) Ee Ck (Fw (off:=0) 1 dq V V)⟩,trivial⟩) (Eu 1 dq V λeA=>?_);exact dO (((((dU.Ad dZ).Ad eg).Ad dk).Ad dn).Ad cT) V ⟨ag,al,a0,a2,b2,b0,b1,V,(by first | rfl | simp | (simp [Value.cells])),ey,(ew.Ah cT),(eu.Ah cT)⟩ eA
  ·intro eB;refine JL.block (CB er (λL s ac=>∃(bb:LH) (a3:Ao) (a4:Nat) (b3:Seg) (b4:Ao) (b5:Nat),Jn cR H bb [bX bk #[sV b4 ac.2.1 b5,iV ac.2.2.1,.int .u64 ((ac.2.2.2.1:Nat):Int)] 74,bX U #[nS,nS] 25,bX Y #[sV ag Z.2.2.2 al,sV a3 ac.1 a4] 25,a9,b3] [(0,Aj bk 0),(6,Aj U 0),(7,Aj Y 0),(8,iV az.1),(13,iV ac.2.2.2.2)] L s (OL 27 AA bb a3 a4 b3 ac.1/\Al rI bb b4 b5 ac.2.1)) ⟨cR,none,0,[],em,en,V,V,Ay,ep,OL.nil,eo⟩ ?_);rintro _ _ ac ⟨bb,a3,a4,b3,b4,b5,rfl,rfl,b6,ca,cc,cV⟩ eC ⟨hc,be⟩ cW;have dr:=be;unfold Td at dr;refine C 6 V (AW dr (λeD eE=>?_) (λeD eF=>?_))
   ·refine C 3 V (Fc 6 λdt=>?_);refine JG.fd 0 dt underlying25 DR V V V V (A5 dt V [2,3] V ?_);obtain⟨K,du,cX⟩:=bs eE;refine Gh (i:=1) (j:=4) V (by decide+kernel) ?_ ?_
    ·refine Take.y0 (v:= sV a3 ac.1 a4) V V V (λρ h=>Yl.load EZ (h _ _ V) (BI (j:=2) ca V V)) (JG.one (i:=4) V (by decide+kernel) ?_);refine Take.Ub (vs:= [Aj bk 0,iV az.1]) 0 ca (Ux cV du) V V V (Ba func40 V) V V ?_;rintro _ hd _ dv ⟨eG,eH,rfl,rfl,eI⟩ eJ;refine JG.one (i:=5) V (by decide+kernel) (Take.Ff (pp:=AA) [.agg #[iV K.1.1,iV K.1.2.1,iV K.1.2.2]] ([K.1]:Aw) eJ V V V underlying23 Bg BO (by decide) V V V ⟨⟨_,_,V,V,⟨_,_,V,V,V⟩⟩,trivial⟩ λhe hf eK eL=>?_);refine Dp [6,7,8] (B9 5 eK eL V λeM cY eN eO=>?_);obtain⟨eP,eQ,eR⟩:=bs cX;refine IL (pp:=AA) 4 eQ V V V V V V V underlying23 underlying23 Bg (Dl type27) BO V (by decide) (by decide) (cc.Ah (dv.Ad cY)) eN eO V λeS eT eU eV eW=>JL.fd underlying25 DR V V V (BJ 2 eW DR λeX=>?_);obtain⟨eY,eZ,e0⟩:=bs eR;refine C 4 V (Cp eZ V V V ?_);refine C 2 V ?_;obtain rfl:=oi e0;exact AF (cW _ _ (eP,K.2.1,K.2.2.1,K.2.2.2,eY) ⟨eM,eS,eT,eU,eG,eH,V,V,((b6.Ad dv).Ad cY),eX,eV,(eI.Ah cY)⟩ be) V
    ·refine Take.Ub (vs:= [Aj bk 0,iV az.1]) 0 ca (Ux cV du) V V V (Ba func40 V) V V ?_;rintro _ hg _ ce ⟨dw,dx,rfl,rfl,dy⟩ cZ;refine Gh (i:=1) (j:=5) V (by decide+kernel) ?_ ?_
     ·refine Take.y0 (v:= sV a3 ac.1 a4) V V V (λρ h=>Yl.load EZ (h _ _ V) (BI (j:=2) cZ V V)) (JG.one (i:=5) V (by decide+kernel) ?_);refine Take.Ff (pp:=AA) [.agg #[iV K.1.1,iV K.1.2.1,iV K.1.2.2]] ([K.1]:Aw) cZ V V V underlying23 Bg BO (by decide) V V V ⟨⟨_,_,V,V,⟨_,_,V,V,V⟩⟩,trivial⟩ λhj hk e1 e3=>Dp [6,7,8] (B9 5 e1 e3 V λe4 c0 e5 e6=>?_);obtain⟨e7,e8,e9⟩:=bs cX;refine IL (pp:=AA) 4 e8 V V V V V V V underlying23 underlying23 Bg (Dl type27) BO V (by decide) (by decide) (cc.Ah (ce.Ad c0)) e5 e6 V λfa fb fc fe ff=>JL.fd underlying25 DR V V V (BJ 2 ff DR λfg=>?_);obtain⟨fh,fj,fk⟩:=bs e9;refine C 4 V (Cp fj V V V ?_);refine C 2 V ?_;obtain rfl:=oi fk;exact AF (cW _ _ (e7,K.2.1,K.2.2.1,K.2.2.2,fh) ⟨e4,fa,fb,fc,dw,dx,V,V,((b6.Ad ce).Ad c0),fg,fe,(dy.Ah c0)⟩ be) V
     ·refine Take.Ff (pp:=AA) [.agg #[iV K.1.1,iV K.1.2.1,iV K.1.2.2]] ([K.1]:Aw) cZ V V V underlying23 Bg BO (by decide) V V V ⟨⟨_,_,V,V,⟨_,_,V,V,V⟩⟩,trivial⟩ λhl hm fl dz=>JG.one (i:=1) V (by decide+kernel) (Take.y0 (v:= sV a3 ac.1 a4) V V V (λρ h=>Yl.load EZ (h _ _ V) (BI (j:=2) dz V V)) ?_);refine Dp [6,7,8] (B9 5 fl dz V λfm c1 fo fp=>?_);obtain⟨fq,fs,fu⟩:=bs cX;refine IL (pp:=AA) 4 fs V V V V V V V underlying23 underlying23 Bg (Dl type27) BO V (by decide) (by decide) (cc.Ah (ce.Ad c1)) fo fp V λfv fw fx fy fz=>JL.fd underlying25 DR V V V (BJ 2 fz DR λfA=>?_);obtain⟨fB,fC,fD⟩:=bs fu;refine C 4 V (Cp fC V V V ?_);refine C 2 V ?_;obtain rfl:=oi fD;exact AF (cW _ _ (fq,K.2.1,K.2.2.1,K.2.2.2,fB) ⟨fm,fv,fw,fx,dw,dx,V,V,((b6.Ad ce).Ad c1),fA,fy,(dy.Ah c1)⟩ be) V
   ·refine JL.exit V ?_;obtain rfl:=oi eF;obtain rfl:=eC _ be;exact AF (eB _ _ ⟨bb,b4,b5,a3,a4,b3,V,V,b6,ca,cV,cc⟩) V
 ·intro fE;refine JL.block (CB ee (λL s O=>∃(bi:LH) (av:Ao) (aw:Nat) (a5:Seg) (ci:Ao) (co:Nat),Jn cO H bi [bX bk #[sV ci O.2.1 co,iV O.2.2.1,.int .u64 ((O.2.2.2.1:Nat):Int)] 74,bX U #[nS,nS] 25,bX Y #[sV av O.1 aw,nS] 25,a5] [(0,Aj bk 0),(2,iV p2),(6,Aj U 0),(7,Aj Y 0),(8,iV az.1),(9,.bool bw.1),(10,iV O.2.2.2.2)] L s (OL 28 (rL rI) bi av aw a5 O.1/\Al rI bi ci co O.2.1)) ⟨cO,none,0,[],ea,eb,V,V,Ay,ed,OL.nil,ec⟩ ?_);rintro _ _ O ⟨bi,av,aw,a5,ci,co,rfl,rfl,dA,dB,dC,dD⟩ fF ⟨hn,c3⟩ fG;have dE:=c3;unfold Tb at dE;refine C 7 V (AW dE (λfH fI=>?_) (λfH fJ=>?_))
  ·obtain⟨ho,fK,fL⟩:=bs fI;refine C 11 V (Cr 0 (Li dD fK) V V KQ dB V ?_);rintro _ c4 _ dF ⟨fM,fN,rfl,rfl,fO⟩ fP;obtain⟨ap,fQ,fR⟩:=bs fL;refine C 2 V (Bt (λL s=>∃(cp:LH) (ct:Ao) (cw:Nat) (c5:Seg) (cy:Ao) (cG:Nat),Jn c4 H cp [bX bk #[sV cy ap.2.1 cG,iV ap.2.2.1,.int .u64 ((ap.2.2.2:Nat):Int)] 74,bX U #[nS,nS] 25,bX Y #[sV av O.1 aw,nS] 25,a5,c5] [(0,Aj bk 0),(2,iV p2),(6,Aj U 0),(7,Aj Y 0),(8,iV az.1),(9,.bool bw.1),(10,iV O.2.2.2.2),(11,sV ct ap.1 cw)] L s (OL 3 rI cp ct cw c5 ap.1/\Al rI cp cy cG ap.2.1)) ?_ ?_)
   ·rintro _ _ ⟨cp,ct,cw,c5,cy,cG,rfl,rfl,dG,dH,fS,fT⟩;refine JL.region (JL.fd underlying25 FH V V V ?_);refine Am (v:= sV av O.1 aw) V (λρ h=>Yl.load FT (h _ _ V) (BI (j:=2) (off:=0) dH V V)) (C 1 V ?_);refine B9 4 fS dH V λfU c6 fW fX=>?_;obtain⟨fY,fZ,ga⟩:=bs fR;refine JS.app (pp:=(rL rI)) (v:= sV ct ap.1 cw) (a:=av) (c:=aw) 3 fZ V V V V (λ_=>V) V (λ_=>V) V V V underlying22 underlying22 underlying22 FG (Dl type28) KS V (by decide) (by decide) (by decide) (by decide) (dC.Ah ((dF.Ad dG).Ad c6)) ⟨_,_,V,fW⟩ fX V λhp gb gc gd ge gf=>JL.fd underlying25 FH V V V (BJ 2 gf FH λgg=>?_);obtain⟨gh,gi,gj⟩:=bs ga;refine C 4 V (Br gi V V V ?_);refine C 2 V ?_;obtain rfl:=oi gj;exact AF (fG _ _ (fY,ap.2.1,ap.2.2.1,ap.2.2.2,gh) ⟨fU,gb,gc,gd,cy,cG,V,V,(((dA.Ad dF).Ad dG).Ad c6),gg,ge,(fT.Ah c6)⟩ c3) V
   ·intro gk;refine JL.block (CB fQ (λL s ay=>∃(a6:LH) (bn:Ao) (bo:Nat) (a7:Ao) (a8:Nat) (cH:Seg),Jn c4 H a6 [bX bk #[sV bn ay.1 bo,iV ay.2.1,.int .u64 ((ay.2.2.1:Nat):Int)] 74,bX U #[nS,nS] 25,bX Y #[sV av O.1 aw,nS] 25,a5,cH] [(0,Aj bk 0),(2,iV p2),(6,Aj U 0),(7,Aj Y 0),(8,iV az.1),(9,.bool bw.1),(10,iV O.2.2.2.2),(11,sV a7 ay.2.2.2.1 a8),(12,iV ay.2.2.2.2)] L s (Al rI a6 bn bo ay.1/\OL 3 rI a6 a7 a8 cH ay.2.2.2.1)) ⟨c4,fM,fN,none,0,[],V,V,Ay,fP,fO,OL.nil⟩ ?_);rintro _ _ ay ⟨a6,bn,bo,a7,a8,cH,rfl,rfl,dI,c7,c8,c9⟩ gl ⟨hq,da⟩ gm;have dJ:=da;unfold S6 at dJ;refine C 6 V (AW dJ (λgn gp=>?_) (λgn gq=>?_))
    ·obtain⟨aq,gr,gt⟩:=bs gp;refine C 7 V (Bt (λL s=>∃(bv:LH) (cI:Ao) (cJ:Nat) (cK:Seg) (cM:Ao) (cN:Nat),Jn a6 H bv [bX bk #[sV cM aq.2.1 cN,iV aq.2.2.1,.int .u64 ((aq.2.2.2:Nat):Int)] 74,bX U #[nS,nS] 25,bX Y #[sV av O.1 aw,nS] 25,a5,cK] [(0,Aj bk 0),(2,iV p2),(6,Aj U 0),(7,Aj Y 0),(8,iV az.1),(9,.bool bw.1),(10,iV O.2.2.2.2),(11,sV cI aq.1 cJ),(12,iV ay.2.2.2.2)] L s (OL 3 rI bv cI cJ cK aq.1/\Al rI bv cM cN aq.2.1)) ?_ ?_)
     ·rintro _ _ ⟨bv,cI,cJ,cK,cM,cN,rfl,rfl,gu,gv,gw,gx⟩;obtain⟨gy,gz,gA⟩:=bs gt;refine C 3 V (Cp gz V V V ?_);refine C 2 V ?_;obtain rfl:=oi gA;exact AF (gm _ _ (aq.2.1,aq.2.2.1,aq.2.2.2,aq.1,gy) ⟨bv,cM,cN,cI,cJ,cK,V,V,(dI.Ad gu),gv,gx,gw⟩ da) V
     ·intro dK;refine CE gr (λgB gC=>?_) (λgB gD=>?_)
      ·obtain⟨hr,gE,gF⟩:=bs gC;refine C 2 V (JS.app (pp:=rI) (v:=iV 1) (a:=a7) (c:=a8) 4 gE V V V V (λ_=>V) V (λ_=>V) V V V underlying28 underlying28 underlying28 AG (Dl type3) CI V (by decide) (by decide) (by decide) (by decide) c9 V c7 V λhs gG gH gI gJ gK=>?_);refine C 2 V ?_;obtain rfl:=oi gF;exact AF (dK _ _ ⟨a6,gG,gH,gI,bn,bo,V,V,Ay,gK,gJ,c8⟩) V
      ·refine C 3 V (F1 (pp:=rI) [iV 1,iV 1,iV 2,iV 2,iV 3,iV 5] [1,1,2,2,3,5] V V V underlying28 AG CI (by decide) V V V ⟨V,V,V,V,V,V,trivial⟩ c7 λht hu gL gM=>?_);refine B9 5 gL gM V λhv db gO gP=>?_;obtain⟨gQ,gR,gS⟩:=bs gD;refine Cr 0 (Uj (c8.Ah db) gO gR) V V (Ba func81 V) gP V ?_;rintro _ gT _ dL ⟨gU,gV,rfl,rfl,gW⟩ gX;obtain⟨hw,gY,gZ⟩:=bs gS;refine JS.app (pp:=rI) (v:=iV gQ.1) (a:=a7) (c:=a8) 4 gY V V V V (λ_=>V) V (λ_=>V) V V V underlying28 underlying28 underlying28 AG (Dl type3) CI V (by decide) (by decide) (by decide) (by decide) (c9.Ah (db.Ad dL)) V gX V λhx g0 g1 g3 g4 g5=>C 2 V ?_;obtain rfl:=oi gZ;exact AF (dK _ _ ⟨gT,g0,g1,g3,gU,gV,V,V,(db.Ad dL),g5,g4,gW⟩) V
    ·refine JL.exit V ?_;obtain rfl:=oi gq;obtain rfl:=gl _ da;exact AF (gk _ _ ⟨a6,a7,a8,cH,bn,bo,V,V,dI,c7,c9,c8⟩) V
  ·refine JL.exit V ?_;obtain rfl:=oi fJ;obtain rfl:=fF _ c3;exact AF (fE _ _ ⟨bi,ci,co,av,aw,a5,V,V,dA,dB,dD,dC⟩) V
def Mm(fu_:Nat)(O:A4×(Cd))(U:(List Int)×Int)(Y:Int×(List Int)×Int)(K:Int×Int):Option (Bm (Int×Int) Int):= if K.2<(O.1.2.length:Int) then((ix O.1.2 K.2).bind λZ=> (ix U.1 Y.2.2).bind λac=> Option.bind (if Z.1=ac then((ix O.1.2 K.2).bind λag=> (Ax (Y.2.2+1)).bind λal=> (Ls al ((U.1.length:Int))).bind λam=> (ix U.1 am).bind λap=> some (decide (ag.2.1=ap))) else(some false)) λaq=> Option.bind (if aq=true then(some K.2) else(some K.1)) λav=> (Ax (K.2+1)).bind λaw=> some (.more (av,aw))) else(some (.done K.1))
def Mk(fu_:Nat)(Y:A4×(Cd))(O:(List Int)×Int)(K:Int×(List Int)×Int):Option (Bm (Int×(List Int)×Int) ((Bool)⊕(Int×(List Int)))):= if K.2.2<(O.1.length:Int) then(Option.bind (iter (Mm fu_ Y O K) fu_ ((-1),0)) λU=> Option.bind (if U<0 then(some true) else((Gl O.1 0 K.2.2).bind λZ=> (ix O.1 K.2.2).bind λac=> (f34 fu_ Z ac).bind λag=> some (decide (0<=ag)))) λal=> if al=true then(some (.done (Sum.inl false))) else((ix Y.1.2 U).bind λam=> (CN K.2.1 ([U]:List Int)).bind λap=> (Ax (K.2.2+1)).bind λaq=> some (.more (min K.1 am.2.2,ap,aq)))) else(some (.done (Sum.inr (K.1,K.2.1))))
def Mn(fu_:Nat)(O:Int×(List Int))(K:Aw×Int):Option (Bm (Aw×Int) (Aw)):= if K.2<(O.2.length:Int) then((ix O.2 K.2).bind λZ=> (ix K.1 Z).bind λap=> (ix O.2 K.2).bind λU=> (ix O.2 K.2).bind λac=> (ix K.1 ac).bind λag=> (Ax (ag.2.2 - O.1)).bind λal=> (ix K.1 U).bind λY=> (Ax (K.2+1)).bind λam=> some (.more ((K.1.set (Int.toNat U) (Y.1,Y.2.1,al)),am))) else(some (.done K.1))
def Mi(fu_:Nat)(O:Aw)(K:Aw×Int):Option (Bm (Aw×Int) (Aw)):= if K.2<(O.length:Int) then((ix O K.2).bind λU=> Option.bind (if 0<U.2.2 then((ix O K.2).bind λY=> (room K.1 Y).bind λZ=> some Z) else(some K.1)) λac=> (Ax (K.2+1)).bind λag=> some (.more (ac,ag))) else(some (.done K.1))
def Mq(fu_:Nat)(K:Aw×Int):Option (Bm (Aw×Int) (Aw)):= if K.2<(K.1.length:Int) then((ix K.1 K.2).bind λO=> (ix K.1 K.2).bind λac=> (ix K.1 K.2).bind λU=> (ix (K.1.set (Int.toNat K.2) (min O.1 O.2.1,U.2.1,U.2.2)) K.2).bind λY=> (Ax (K.2+1)).bind λZ=> some (.more (((K.1.set (Int.toNat K.2) (min O.1 O.2.1,U.2.1,U.2.2)).set (Int.toNat K.2) (Y.1,max O.1 O.2.1,Y.2.2)),Z))) else(some (.done K.1))
def f4(fu_:Nat)(p0:List Int):Option Bool:= (f20 fu_ p0).bind λY=> (Oj fu_ Y 5 8).bind λK=> (f32 fu_ K.2 3).bind λZ=> if Z.1=true then(Option.bind (iter (Mq fu_) fu_ (K.1.2,0)) λac=> (f33 fu_ (K.1.1,ac)).bind λag=> Option.bind (if ag.2=11 then((f18 fu_).bind λal=> some al) else(some false)) λam=> some am) else((f33 fu_ K.1).bind λO=> if O.2=11 then(Option.bind (if(O.1.length:Int)=0 then((f18 fu_).bind λap=> some ap) else(some false)) λaq=> some aq) else(Option.bind (if O.2≠0 then(some true) else(some (decide ((O.1.length:Int)<2)))) λav=> Option.bind (if av=true then(some true) else(some (decide ((K.1.1.length:Int)<(O.1.length:Int))))) λaw=> if aw=true then(some false) else((Ol fu_ K.1).bind λU=> Option.bind (iter (Mk fu_ K O) fu_ (9,([]:List Int),0)) λay=> Sum.elim (λr=>some r) (λaz=> Option.bind (iter (Mn fu_ az) fu_ (U.2,0)) λa0=> Option.bind (iter (Mi fu_ a0) fu_ ([],0)) λa1=> (f35 fu_ K.1 (U.1,a1)).bind λa2=> Option.bind (if a2=true then((f18 fu_).bind λa3=> some a3) else(some false)) λa4=> some a4) ay)))
set_option maxHeartbeats 4000000 in
theorem ZS{E H:LH}{a1:Ao}{c2:Nat}{p0:List Int}(e5:Al rI E a1 c2 p0){fu_:Nat}{r:Bool}(ei:f4 fu_ p0=some r):(GR Tryz.prog).ok (LZ Tryz.prog (λv _=>v= .bool r)) (G (Frame.enter Tryz.prog 4 ([sV a1 p0 c2]:Lv_).toArray .normal) []) (mk E H []):=by
 refine Wr func4 V V (Nat.le_of_ble_eq_true V) ?_;have e6:Ap E H [[]]:=trivial;unfold f4 at ei;obtain⟨kD,e7,e8⟩:=bs ei;refine C 7 V (BT (bD e5 e7) V V (Ba func20 V) e6 ?_);rintro _ kF _ kG ⟨kI,kJ,kK,rfl,rfl,e9⟩ fa;obtain⟨U,fb,fc⟩:=bs e8;refine C 5 V (Cr 1 (ZP e9 fb) V V (Ba func31 V) fa V ?_);rintro _ kL _ kM ⟨am,ap,av,aw,fe,kN,kO,rfl,rfl,c4,ej,ff⟩ fg;refine FZ 1 V fg λfh=>BV fh H4 λY fj=>?_;refine BJ 3 fj Ck λfk=>?_;obtain⟨kP,fl,fm⟩:=bs fc;refine C 5 V (Cr 1 (Uq ff fl) V V (Ba func32 V) fk V ?_);rintro _ dy _ cy ⟨kQ,kR,rfl,rfl,kS⟩ dz;refine JL.done (CE fm (λfo fp=>?_) (λfo fq=>?_))
 ·obtain⟨c5,fs,fu⟩:=bs fp;refine C 5 V (Bt (λL s=>∃(dA:LH) (c6:Ao) (c7:Nat) (dB:Seg),Jn dy H dA [bX Y #[sV am U.1.1 ap,sV c6 c5 c7] 25,dB] [(4,Aj Y 0)] L s (OL 27 AA dA c6 c7 dB c5)) ?_ ?_)
  ·rintro _ _ ⟨dA,c6,c7,dB,rfl,rfl,fv,ek,fw⟩;refine C 2 V (Am V (λρ h=>Gg (vs:= [sV am U.1.1 ap,sV c6 c5 c7]) Ee Ck (h _ _ V) (Fw (off:=0) 0 ek V V)) ?_);refine B9 1 fw ek V λkT fx fy fz=>?_;obtain⟨kU,fA,fB⟩:=bs fu;refine BT (Qy (p0:=(U.1.1,c5)) (c4.Ah ((cy.Ad fv).Ad fx)) fy fA) V V ON fz ?_;rintro _ kV _ kW ⟨kX,kY,rfl,rfl,kZ⟩ el;obtain⟨em,fC,fD⟩:=bs fB;refine C 11 V (DY 5 1 [] [(67,.bool em)] (λk0 k1 k2=>?_) (λen=>?_))
   ·refine C 2 V ?_;obtain rfl:=oi fD;exact G9 V (JO.end (v:= .bool em) V (by decide+kernel) func4 V V V)
   ·refine HN 65 fC (λfE fF=>?_) (λfE fG=>?_)
    ·obtain⟨k3,fH,fI⟩:=bs fF;refine CF (Qw fH) V V OG el λk4 fJ fK=>C 1 V (JS.drop 0 fK V λfL=>?_);obtain rfl:=oi fI;exact en fJ fL V
    ·refine C 2 V (JS.drop 0 el V λfM=>?_);obtain rfl:=oi fG;exact en Ay fM V
  ·intro fN;refine JL.block (JS.drop 1 dz V λfO=>?_);refine JS.swap 2 3 V V V fO λfP=>CB fs (λL s ag=>∃(c8:LH) (cG:Ao) (a7:Nat) (c9:Seg),Jn dy H c8 [bX Y #[sV am U.1.1 ap,sV cG ag.1 a7] 25,c9] [(4,Aj Y 0),(5,iV ag.2)] L s (OL 27 AA c8 cG a7 c9 ag.1)) ⟨dy,av,aw,fe,V,V,Ay,fP,(ej.Ah cy)⟩ ?_;rintro _ _ ag ⟨c8,cG,a7,c9,rfl,rfl,eo,cQ,dC⟩ fQ ⟨k5,dD⟩ fR;have ep:=dD;unfold Mq at ep;refine C 4 V (JL.fd underlying25 DR V V V ?_);refine Am (v:= sV cG ag.1 a7) V (λρ h=>Yl.load EZ (h _ _ V) (BI (j:=0) (off:=1) cQ V V)) (JL.ln underlying23 V V V ?_);refine C 2 V (AW ep (λfS fT=>?_) (λfS fU=>?_))
   ·refine C 5 V (JL.fd underlying25 DR V V V ?_);refine Am (v:= sV cG ag.1 a7) V (λρ h=>Yl.load EZ (h _ _ V) (BI (j:=0) (off:=1) cQ V V)) ?_;obtain⟨Z,fW,fX⟩:=bs fT;refine C 1 V (Kt 1 dC fW V V V V V V underlying23 Bg ?_);rintro k6 k7 f126 _ fY ⟨_,_,rfl,rfl,⟨_,_,rfl,rfl,rfl⟩⟩ fZ k8 k9 la lb;refine Am V (λρ h=>Gg (vs:= [iV Z.1,iV Z.2.1,iV Z.2.2]) Ef Bg (h _ _ V) (λq w dE=>by rw [Dm rfl];exact BI (j:=1) cQ fY (fZ q w dE))) (BV cQ BO λb0 ga=>?_);refine BJ 2 ga Bg λgb=>?_;refine Eh 2 gb V λgc er da dF=>?_;obtain⟨ld,gd,ge⟩:=bs fX;refine JL.done ?_;obtain⟨a0,f145,gf,cR⟩:=WL.of (dC.Ah er) gd;obtain⟨rfl,rfl⟩:=gf;refine HE [18,21] [a0] [Y] mixed V (Ec (v:= Aj Y 1) 0 true V V (λρ h s' K=>Fa (a:=⟨Y,0,none⟩) 0 1 underlying25 DR V V V (h _ _ V)) ?_);refine L3 (v:= .slice (AP a0) ag.1.length a7) 1 V (by decide+kernel) V V V (λρ h s' K=>Yl.load EZ (h _ _ V) (B5 (o:=1) 0 dF V (by simp [Az]) K V)) (Bj 2 V V ?_);refine Ec (v:= Aj Y 1) 3 true V V (λρ h s' K=>Fa (a:=⟨Y,0,none⟩) 0 1 underlying25 DR V V V (h _ _ V)) (L3 (v:= .slice (AP a0) ag.1.length a7) 4 V (by decide+kernel) V V V (λρ h s' K=>Yl.load EZ (h _ _ V) (B5 (o:=1) 0 dF V (by simp [Az]) K V)) ?_);refine Bj 5 V V (Ec (v:= Aj b0 0) 6 true V V (λρ h s' K=>Fa (a:=⟨b0,0,none⟩) 0 0 underlying27 AG V V V (h _ _ V)) ?_);refine K7 (v:=iV Z.1) 7 V (by decide+kernel) V V V (λρ h s' K=>Yl.load A7 (h _ _ V) (At.Jl (j:=0) da K V)) (Ec (v:= Aj b0 1) 8 true V V (λρ h s' K=>Fa (a:=⟨b0,0,none⟩) 0 1 underlying27 AG V V V (h _ _ V)) ?_);refine K7 (v:=iV Z.2.1) 9 V (by decide+kernel) V V V (λρ h s' K=>Yl.load A7 (h _ _ V) (At.Jl (j:=1) da K V)) (Ec (v:=iV (min Z.1 Z.2.1)) 10 true V V (λρ h s' K=>Yl.min2 (h _ _ V) (h _ _ V)) ?_);refine Ec (v:= Aj b0 0) 11 true V V (λρ h s' K=>Fa (a:=⟨b0,0,none⟩) 0 0 underlying27 AG V V V (h _ _ V)) (K7 (v:=iV Z.1) 12 V (by decide+kernel) V V V (λρ h s' K=>Yl.load A7 (h _ _ V) (At.Jl (j:=0) da K V)) ?_);refine Ec (v:= Aj b0 1) 13 true V V (λρ h s' K=>Fa (a:=⟨b0,0,none⟩) 0 1 underlying27 AG V V V (h _ _ V)) (K7 (v:=iV Z.2.1) 14 V (by decide+kernel) V V V (λρ h s' K=>Yl.load A7 (h _ _ V) (At.Jl (j:=1) da K V)) ?_);refine Ec (v:=iV (max Z.1 Z.2.1)) 15 true V V (λρ h s' K=>Yl.max2 (h _ _ V) (h _ _ V)) ?_;obtain⟨a8,db,gg⟩:=bs ge;obtain⟨_,⟨_,_,rfl,rfl,⟨_,_,rfl,rfl,rfl⟩⟩,gh⟩:=WL.at cR db;refine JB.ix 16 cR.2 db underlying23 Bg ?_;refine Ec (v:= .pointer (some ⟨a0,Int.toNat (ag.2)*3,none⟩)) 17 true V V (λρ h s' K=>Fa (a:=⟨a0,Int.toNat (ag.2)*3,none⟩) 0 0 underlying27 AG V V V (h _ _ V)) ?_;have dc:=WL.part (x':=(min Z.1 Z.2.1,a8.2.1,a8.2.2)) (ws':= [iV (min Z.1 Z.2.1),iV a8.2.1,iV a8.2.2]) (us:= [iV (min Z.1 Z.2.1)]) 0 cR cR.2 db ⟨_,_,V,V,⟨_,_,V,V,V⟩⟩ gh V V;refine EL 18 1 dF AG ⟨⟨0,_,V,V⟩,trivial⟩ dc.2 λgi=>?_;refine JB.ix 19 cR.2 db underlying23 Bg ?_;refine Ec (v:= .pointer (some ⟨a0,Int.toNat (ag.2)*3+1,none⟩)) 20 true V V (λρ h s' K=>Fa (a:=⟨a0,Int.toNat (ag.2)*3,none⟩) 0 1 underlying27 AG V V V (h _ _ V)) ?_;obtain⟨a9,et,gj⟩:=bs gg;obtain⟨_,⟨_,_,rfl,rfl,⟨_,_,rfl,rfl,rfl⟩⟩,gk⟩:=WL.at dc.1 et;have dG:=WL.part (x':=(a9.1,max Z.1 Z.2.1,a9.2.2)) (ws':= [iV a9.1,iV (max Z.1 Z.2.1),iV a9.2.2]) (us:= [iV (max Z.1 Z.2.1)]) 1 dc.1 (dc.1).2 et ⟨_,_,V,V,⟨_,_,V,V,V⟩⟩ gk V V;refine EL 21 1 gi AG ⟨⟨0,_,V,V⟩,trivial⟩ dG.2 λgl=>?_;refine JB.fin (by decide+kernel) ?_;have gm:=(dG.1).1;have gn:(((ag.1.set (Int.toNat ag.2) (min Z.1 Z.2.1,a8.2.1,a8.2.2)).set (Int.toNat ag.2) (a9.1,max Z.1 Z.2.1,a9.2.2))).length=ag.1.length:=(dG.1).2;refine BS (S':= [[(Y,.cells #[.slice am U.1.1.length ap,.slice (AP a0) (((ag.1.set (Int.toNat ag.2) (min Z.1 Z.2.1,a8.2.1,a8.2.2)).set (Int.toNat ag.2) (a9.1,max Z.1 Z.2.1,a9.2.2))).length a7] 25 (0,0))],[(a0,.cells (A6 (A6 f145 (Int.toNat (ag.2)*3) [iV (min Z.1 Z.2.1)]) (Int.toNat (ag.2)*3+1) [iV (max Z.1 Z.2.1)]) 27 (0,0))],[]]) (by rw [gn] <;> rfl) gl λgp=>El [(4,Aj Y 0),(5,iV ag.2)] V ?_;obtain⟨gq,gr,gt⟩:=bs gj;refine C 3 V (Br gr V V V ?_);refine C 2 V ?_;obtain rfl:=oi gt;exact AF (fR _ _ (((ag.1.set (Int.toNat ag.2) (min Z.1 Z.2.1,a8.2.1,a8.2.2)).set (Int.toNat ag.2) (a9.1,max Z.1 Z.2.1,a9.2.2)),gq) ⟨gc,(AP a0),a7,[(a0,.cells (A6 (A6 f145 (Int.toNat (ag.2)*3) [iV (min Z.1 Z.2.1)]) (Int.toNat (ag.2)*3+1) [iV (max Z.1 Z.2.1)]) 27 (0,0))],V,V,(eo.Ad er),gp,gm⟩ dD) V
   ·refine JL.exit V ?_;obtain rfl:=oi fU;obtain rfl:=fQ _ dD;exact AF (fN _ _ ⟨c8,cG,a7,c9,V,V,eo,cQ,dC⟩) V
 ·refine C 3 V (Am V (λρ h=>Gg (vs:= [sV am U.1.1 ap,sV av U.1.2 aw]) Ee Ck (h _ _ V) (Fw (off:=0) 3 dz V V)) ?_);refine B9 2 (ej.Ah cy) dz V λlf dH cH gu=>?_;obtain⟨b1,gv,gw⟩:=bs fq;refine BT (Qy (c4.Ah (cy.Ad dH)) cH gv) V V ON gu ?_;rintro _ lg _ cp ⟨b2,b3,rfl,rfl,dd⟩ de;refine C 12 V (AW gw (λgx gy=>?_) (λgx gz=>?_))
  ·refine C 3 V (JL.ln underlying28 V V V ?_);obtain⟨eu,gA,gB⟩:=bs gy;refine C 2 V (DY 6 1 [] [(80,.bool eu)] (λlh li lj=>?_) (λew=>?_))
   ·refine C 2 V ?_;obtain rfl:=oi gB;exact G9 V (JO.end (v:= .bool eu) V (by decide+kernel) func4 V V V)
   ·refine HN 78 gA (λgC gD=>?_) (λgC gE=>?_)
    ·obtain⟨ll,gF,gG⟩:=bs gD;refine CF (Qw gF) V V OG de λlm gH gI=>C 1 V (JS.drop 1 gI V λgJ=>?_);refine JS.drop 3 gJ V λgK=>?_;obtain rfl:=oi gG;exact ew gH gK V
    ·refine C 2 V (JS.drop 1 de V λgL=>?_);refine JS.drop 3 gL V λgM=>?_;obtain rfl:=oi gE;exact ew Ay gM V
  ·obtain⟨gO,gP,gQ⟩:=bs gz;refine C 7 V (DY 7 8 [bX Y #[sV am U.1.1 ap,sV av U.1.2 aw] 25] [(4,Aj Y 0),(9,sV b2 b1.1 b3),(87,.bool gO)] (λdI a2 dJ=>?_) (λex=>?_))
   ·obtain⟨gR,gS,gT⟩:=bs gQ;refine C 1 V (Ie [] (λL s=>∃(ey:LH),Jm dI H ey [bX Y #[sV am U.1.1 ap,sV av U.1.2 aw] 25] [(4,Aj Y 0),(9,sV b2 b1.1 b3),(95,.bool gR)] L s) ?_ ?_)
    ·rintro _ _ ⟨ey,rfl,rfl,a3,dK⟩;refine JL.done (CE gT (λgU gV=>?_) (λgU gW=>?_))
     ·refine C 4 V (JS.drop 0 dK V λlq=>?_);obtain rfl:=oi gV;exact G9 V (JO.end (v:= .bool false) V (by decide+kernel) func4 V V V)
     ·refine C 3 V (Am V (λρ h=>Gg (vs:= [sV am U.1.1 ap,sV av U.1.2 aw]) Ee Ck (h _ _ V) (Fw (off:=0) 0 dK V V)) ?_);obtain⟨aq,gX,gY⟩:=bs gW;refine BT (Z5 (c4.Ah ((((cy.Ad dH).Ad cp).Ad a2).Ad a3)) (cH.Ah ((cp.Ad a2).Ad a3)) gX) V V (Ba func21 V) dK ?_;rintro _ dL b4 be ⟨ay,az,b5,b6,_,rfl,rfl,gZ,g0⟩ g1;refine BV g1 H4 λac g3=>?_;refine BJ 2 g3 Ck λg4=>?_;refine C 11 V (Pa g4 λg5=>?_);obtain⟨ez,g6,eA⟩:=bs gY;refine C 3 V (Bt (λL s=>∃(bi:Int×(List Int)) (dM:LH) (cT:Ao) (cV:Nat) (dN:Seg),ez=Sum.inr bi/\Jn dL H dM [bX Y #[sV am U.1.1 ap,sV av U.1.2 aw] 25,b4,bX ac #[sV ay aq.1 az,sV b5 aq.2 b6] 25,dN] [(4,Aj Y 0),(11,Aj ac 0),(12,iV bi.1),(13,sV cT bi.2 cV)] L s (OL 3 rI dM cT cV dN bi.2)) ?_ ?_)
      ·rintro _ _ ⟨bi,dM,cT,cV,dN,rfl,rfl,rfl,df,g7,g8⟩;have g9:=elim_inr eA;refine C 2 V (B9 3 g8 g7 V λdO dg eB ha=>?_);obtain⟨ca,hb,hc⟩:=bs g9;refine C 3 V (Bt (λL s=>∃(cI:LH) (bn:Ao) (bo:Nat) (cJ:Seg),Jn dO H cI [bX Y #[sV am U.1.1 ap,sV av U.1.2 aw] 25,bX ac #[sV ay aq.1 az,sV bn ca bo] 25,cJ] [(4,Aj Y 0),(11,Aj ac 0)] L s (OL 27 AA cI bn bo cJ ca)) ?_ ?_)
       ·rintro _ _ ⟨cI,bn,bo,cJ,rfl,rfl,dQ,hd,eC⟩;obtain⟨dh,he,hf⟩:=bs hc;refine C 9 V (Bt (λL s=>∃(dR:LH) (di:Ao) (dj:Nat) (dS:Seg),Jn cI H dR [bX Y #[sV am U.1.1 ap,sV av U.1.2 aw] 25,bX ac #[sV ay aq.1 az,sV bn ca bo] 25,cJ,dS] [(4,Aj Y 0),(11,Aj ac 0),(18,sV di dh dj)] L s (OL 27 AA dR di dj dS dh)) ?_ ?_)
        ·rintro _ _ ⟨dR,di,dj,dS,rfl,rfl,dT,hg,hj⟩;refine C 3 V (JL.fd underlying25 DR V V V ?_);refine BJ 1 hg DR λdU=>?_;refine C 3 V (Am V (λρ h=>Gg (vs:= [sV am U.1.1 ap,sV av U.1.2 aw]) Ee Ck (h _ _ V) (Fw (off:=0) 0 dU V V)) ?_);refine Am V (λρ h=>Gg (vs:= [sV ay aq.1 az,sV di dh dj]) Ee Ck (h _ _ V) (Fw (off:=0) 1 dU V V)) (B9 3 hj dU V λlr dV hk hl=>?_);obtain⟨ls,hm,hn⟩:=bs hf;refine CF (bB (c4.Ah ((((((((((cy.Ad dH).Ad cp).Ad a2).Ad a3).Ad be).Ad df).Ad dg).Ad dQ).Ad dT).Ad dV)) (cH.Ah ((((((((cp.Ad a2).Ad a3).Ad be).Ad df).Ad dg).Ad dQ).Ad dT).Ad dV)) (p1:=(aq.1,dh)) (gZ.Ah ((((df.Ad dg).Ad dQ).Ad dT).Ad dV)) hk hm) V V (Ba func35 V) hl λlu lw eD=>?_;obtain⟨eE,ho,hp⟩:=bs hn;refine C 1 V (DY 6 1 [] [(219,.bool eE)] (λlx lz lA=>?_) (λeF=>?_))
         ·refine C 2 V ?_;obtain rfl:=oi hp;exact G9 V (JO.end (v:= .bool eE) V (by decide+kernel) func4 V V V)
         ·refine DZ 217 ho (λhq hr=>?_) (λhq hs=>?_)
          ·obtain⟨lB,ht,hu⟩:=bs hr;refine CF (Qw ht) V V OG eD λlC hv hw=>C 1 V (JS.drop 0 hw V λhx=>?_);refine JS.drop 1 hx V λhy=>JS.drop 2 hy V λhz=>?_;obtain rfl:=oi hu;exact eF hv hz V
          ·refine C 2 V (JS.drop 0 eD V λhA=>?_);refine JS.drop 1 hA V λhB=>JS.drop 2 hB V λhC=>?_;obtain rfl:=oi hs;exact eF Ay hC V
        ·intro hD;refine JL.block (CB he (λL s cW=>∃(ct:LH) (cK:Ao) (cM:Nat) (cX:Seg),Jn cI H ct [bX Y #[sV am U.1.1 ap,sV av U.1.2 aw] 25,bX ac #[sV ay aq.1 az,sV bn ca bo] 25,cJ,cX] [(4,Aj Y 0),(11,Aj ac 0),(18,sV cK cW.1 cM),(19,iV cW.2)] L s (OL 27 AA ct cK cM cX cW.1)) ⟨cI,none,0,[],V,V,Ay,hd,OL.nil⟩ ?_);rintro _ _ cW ⟨ct,cK,cM,cX,rfl,rfl,dk,cc,dW⟩ hE ⟨lD,dX⟩ hF;have eG:=dX;unfold Mi at eG;refine C 4 V (JL.fd underlying25 DR V V V ?_);refine Am (v:= sV bn ca bo) V (λρ h=>Yl.load EZ (h _ _ V) (BI (j:=1) (off:=1) cc V V)) (JL.ln underlying23 V V V ?_);refine C 2 V (AW eG (λhG hH=>?_) (λhG hI=>?_))
         ·refine C 5 V (JL.fd underlying25 DR V V V ?_);refine Am (v:= sV bn ca bo) V (λρ h=>Yl.load EZ (h _ _ V) (BI (j:=1) (off:=1) cc V V)) ?_;obtain⟨hJ,hK,hL⟩:=bs hH;refine C 1 V (Kt 2 (eC.Ah dk) hK V V V V V V underlying23 Bg ?_);rintro lE lF lG _ hM ⟨_,_,rfl,rfl,⟨_,_,rfl,rfl,rfl⟩⟩ hN lH lI lJ lK;refine JL.fd underlying27 AG V V V (Am (v:=iV hJ.2.2) V (λρ h=>Yl.load A7 (h _ _ V) (BI (j:=2) cc hM (hN 2 _ V))) ?_);obtain⟨dY,hO,hP⟩:=bs hL;refine C 2 V (Bt (λL s=>∃(dn:LH) (dp:Ao) (dq:Nat) (dr:Seg),Jn ct H dn [bX Y #[sV am U.1.1 ap,sV av U.1.2 aw] 25,bX ac #[sV ay aq.1 az,sV bn ca bo] 25,cJ,dr] [(4,Aj Y 0),(11,Aj ac 0),(18,sV dp dY dq),(19,iV cW.2)] L s (OL 27 AA dn dp dq dr dY)) ?_ ?_)
          ·rintro _ _ ⟨dn,dp,dq,dr,rfl,rfl,hQ,hR,hS⟩;obtain⟨hT,hU,hV⟩:=bs hP;refine C 3 V (Br hU V V V ?_);refine C 2 V ?_;obtain rfl:=oi hV;exact AF (hF _ _ (dY,hT) ⟨dn,dp,dq,dr,V,V,(dk.Ad hQ),hR,hS⟩ dX) V
          ·intro eH;refine AW hO (λhW hX=>?_) (λhW hY=>?_)
           ·refine C 2 V (JL.fd underlying25 DR V V V ?_);refine Am (v:= sV bn ca bo) V (λρ h=>Yl.load EZ (h _ _ V) (BI (j:=1) (off:=1) cc V V)) ?_;obtain⟨cN,hZ,h0⟩:=bs hX;refine C 1 V (Kt 2 (eC.Ah dk) hZ V V V V V V underlying23 Bg ?_);rintro lL lM lN _ h1 ⟨_,_,rfl,rfl,⟨_,_,rfl,rfl,rfl⟩⟩ h2 lO lP lQ lR;refine Am V (λρ h=>Gg (vs:= [iV cN.1,iV cN.2.1,iV cN.2.2]) Ef Bg (h _ _ V) (λq w dE=>by rw [Dm rfl];exact BI (j:=2) cc h1 (h2 q w dE))) ?_;obtain⟨lS,h3,h4⟩:=bs h0;refine JS.app (pp:=AA) (v:= .agg #[iV cN.1,iV cN.2.1,iV cN.2.2]) (a:=cK) (c:=cM) 3 h3 V V V V (λ_=>V) V (λ_=>V) V V V underlying23 underlying23 underlying23 Bg (Dl type27) BO V (by decide) (by decide) (by decide) (by decide) dW ⟨_,_,V,V,⟨_,_,V,V,V⟩⟩ cc V λlT h5 h6 h7 h8 h9=>C 2 V ?_;obtain rfl:=oi h4;exact AF (eH _ _ ⟨ct,h5,h6,h7,V,V,Ay,h9,h8⟩) V
           ·refine JL.skip ?_;obtain rfl:=oi hY;exact AF (eH _ _ ⟨ct,cK,cM,cX,V,V,Ay,cc,dW⟩) V
         ·refine JL.exit V ?_;obtain rfl:=oi hI;obtain rfl:=hE _ dX;exact AF (hD _ _ ⟨ct,cK,cM,cX,V,V,dk,cc,dW⟩) V
       ·intro ia;refine JL.block (JS.swap 1 2 V V V ha λic=>?_);refine CB hb (λL s a4=>∃(cY:LH) (dt:Ao) (ce:Nat) (du:Seg),Jn dO H cY [bX Y #[sV am U.1.1 ap,sV av U.1.2 aw] 25,bX ac #[sV ay aq.1 az,sV dt a4.1 ce] 25,du] [(4,Aj Y 0),(11,Aj ac 0),(12,iV bi.1),(13,sV cT bi.2 cV),(17,iV a4.2)] L s (OL 27 AA cY dt ce du a4.1)) ⟨dO,b5,b6,b4,V,V,Ay,ic,(g0.Ah (df.Ad dg))⟩ ?_;rintro _ _ a4 ⟨cY,dt,ce,du,rfl,rfl,dv,cZ,eI⟩ ie ⟨lU,dZ⟩ ig;have eJ:=dZ;unfold Mn at eJ;refine C 5 V (JL.ln underlying28 V V V ?_);refine C 2 V (AW eJ (λih ii=>?_) (λih ij=>?_))
        ·obtain⟨lV,lW,ik⟩:=bs ii;obtain⟨lX,il,io⟩:=bs ik;refine C 3 V ?_;obtain⟨a5,eK,iq,cO⟩:=WL.of eI il;obtain⟨rfl,rfl⟩:=iq;refine HE [19] [a5] [ac] mixed V (Ec (v:= Aj ac 1) 0 true V V (λρ h s' K=>Fa (a:=⟨ac,0,none⟩) 0 1 underlying25 DR V V V (h _ _ V)) ?_);refine L3 (v:= .slice (AP a5) a4.1.length ce) 1 V (by decide+kernel) V V V (λρ h s' K=>Yl.load EZ (h _ _ V) (B5 (o:=1) 1 cZ V (by simp [Az]) K V)) (Bj 2 V V ?_);refine Bj 3 V V ?_;obtain⟨ci,ir,iu⟩:=bs io;obtain⟨iv,iw,_,rfl,iy,iz⟩:=Al.UD (P:=Tryz.prog) (eB.Ah dv) ir;refine JB.val (v:= Aj iv iw) 4 true V (by decide+kernel) V V V (λρ h s' K=>iz underlying28 AG (h _ _ V) (h _ _ V)) (K7 (v:=iV ci) 5 V (by decide+kernel) V V V (λρ h s' K=>Yl.load A7 (h _ _ V) (At.Jl (j:=0) iy K V)) ?_);refine Ec (v:= Aj ac 1) 6 true V V (λρ h s' K=>Fa (a:=⟨ac,0,none⟩) 0 1 underlying25 DR V V V (h _ _ V)) (L3 (v:= .slice (AP a5) a4.1.length ce) 7 V (by decide+kernel) V V V (λρ h s' K=>Yl.load EZ (h _ _ V) (B5 (o:=1) 1 cZ V (by simp [Az]) K V)) ?_);refine Bj 8 V V (Bj 9 V V ?_);obtain⟨ea,iA,iB⟩:=bs iu;obtain⟨iC,iD,_,rfl,iE,iF⟩:=Al.UD (P:=Tryz.prog) (eB.Ah dv) iA;refine JB.val (v:= Aj iC iD) 10 true V (by decide+kernel) V V V (λρ h s' K=>iF underlying28 AG (h _ _ V) (h _ _ V)) (K7 (v:=iV ea) 11 V (by decide+kernel) V V V (λρ h s' K=>Yl.load A7 (h _ _ V) (At.Jl (j:=0) iE K V)) ?_);obtain⟨iG,eL,iH⟩:=bs iB;obtain⟨_,⟨_,_,rfl,rfl,⟨_,_,rfl,rfl,rfl⟩⟩,iI⟩:=WL.at cO eL;refine JB.ix 12 cO.2 eL underlying23 Bg ?_;refine Ec (v:= .pointer (some ⟨a5,Int.toNat (ea)*3+2,none⟩)) 13 true V V (λρ h s' K=>Fa (a:=⟨a5,Int.toNat (ea)*3,none⟩) 0 2 underlying27 AG V V V (h _ _ V)) (JB.val (v:=iV iG.2.2) 14 false V (by decide+kernel) V V V (λρ h s' K=>have K:=K V;Yl.load A7 (h _ _ V) (B5 2 cZ V (by simp [Az]) K (iI 2 _ V))) ?_);refine Bj 15 V V ?_;obtain⟨co,iJ,iK⟩:=bs iH;refine Ec 16 true V V (λρ h s' K=>Ei (h _ _ V) (h _ _ V) iJ) ?_;obtain⟨bb,eb,iL⟩:=bs iK;obtain⟨_,⟨_,_,rfl,rfl,⟨_,_,rfl,rfl,rfl⟩⟩,iM⟩:=WL.at cO eb;refine JB.ix 17 cO.2 eb underlying23 Bg ?_;refine Ec (v:= .pointer (some ⟨a5,Int.toNat (ci)*3+2,none⟩)) 18 true V V (λρ h s' K=>Fa (a:=⟨a5,Int.toNat (ci)*3,none⟩) 0 2 underlying27 AG V V V (h _ _ V)) ?_;have ec:=WL.part (x':=(bb.1,bb.2.1,co)) (ws':= [iV bb.1,iV bb.2.1,iV co]) (us:= [iV co]) 2 cO cO.2 eb ⟨_,_,V,V,⟨_,_,V,V,V⟩⟩ iM V V;refine EL 19 2 cZ AG ⟨⟨1,_,V,V⟩,trivial⟩ ec.2 λiN=>?_;refine JB.fin (by decide+kernel) ?_;have iO:=(ec.1).1;have iP:((a4.1.set (Int.toNat ci) (bb.1,bb.2.1,co))).length=a4.1.length:=(ec.1).2;refine BS (S':= [[(Y,.cells #[.slice am U.1.1.length ap,.slice av U.1.2.length aw] 25 (0,0))],[(ac,.cells #[.slice ay aq.1.length az,.slice (AP a5) ((a4.1.set (Int.toNat ci) (bb.1,bb.2.1,co))).length ce] 25 (0,0))],[(a5,.cells (A6 eK (Int.toNat (ci)*3+2) [iV co]) 27 (0,0))]]) (by rw [iP] <;> rfl) iN λiQ=>El [(4,Aj Y 0),(11,Aj ac 0),(12,iV bi.1),(13,sV cT bi.2 cV),(17,iV a4.2)] V ?_;obtain⟨iR,iS,iT⟩:=bs iL;refine C 3 V (Br iS V V V ?_);refine C 2 V ?_;obtain rfl:=oi iT;exact AF (ig _ _ ((a4.1.set (Int.toNat ci) (bb.1,bb.2.1,co)),iR) ⟨cY,(AP a5),ce,[(a5,.cells (A6 eK (Int.toNat (ci)*3+2) [iV co]) 27 (0,0))],V,V,dv,iQ,iO⟩ dZ) V
        ·refine JL.exit V ?_;obtain rfl:=oi ij;obtain rfl:=ie _ dZ;exact AF (ia _ _ ⟨cY,dt,ce,du,V,V,dv,cZ,eI⟩) V
      ·intro iU;refine JL.block (CB g6 (λL s al=>∃(dw:LH) (bv:Ao) (bw:Nat) (bx:Seg),Jn dL H dw [bX Y #[sV am U.1.1 ap,sV av U.1.2 aw] 25,b4,bX ac #[sV ay aq.1 az,sV b5 aq.2 b6] 25,bx] [(4,Aj Y 0),(9,sV b2 b1.1 b3),(11,Aj ac 0),(12,iV al.1),(13,sV bv al.2.1 bw),(14,iV al.2.2)] L s (OL 3 rI dw bv bw bx al.2.1)) ⟨dL,none,0,[],V,V,Ay,g5,OL.nil⟩ ?_);rintro _ _ al ⟨dw,bv,bw,bx,rfl,rfl,bz,eM,eN⟩ eO ⟨lY,dx⟩ iW;have eP:=dx;unfold Mk at eP;refine C 5 V (JL.ln underlying28 V V V ?_);refine C 2 V (AW eP (λiX iY=>?_) (λiX iZ=>?_))
       ·obtain⟨c0,i0,i1⟩:=bs iY;refine C 12 V (EK [bX Y #[sV am U.1.1 ap,sV av U.1.2 aw] 25,b4,bX ac #[sV ay aq.1 az,sV b5 aq.2 b6] 25,bx] [(4,Aj Y 0),(9,sV b2 b1.1 b3),(11,Aj ac 0),(12,iV al.1),(13,sV bv al.2.1 bw),(14,iV al.2.2),(15,iV c0)] (λeQ c1 eR=>?_) (λi3=>?_))
        ·refine C 2 V (Fc 13 λO=>?_);refine A5 O V [0,1,2] V ?_;obtain⟨i4,eS,i5⟩:=bs i1;refine FY 0 #[true,true,true,true,true,true,true,true,true,true,true,true,true] (λL s=>∃(ed:LH),Jm eQ H ed [bX Y #[sV am U.1.1 ap,sV av U.1.2 aw] 25,b4,bX ac #[sV ay aq.1 az,sV b5 aq.2 b6] 25,bx] [(4,Aj Y 0),(9,sV b2 b1.1 b3),(11,Aj ac 0),(12,iV al.1),(13,sV bv al.2.1 bw),(14,iV al.2.2),(15,iV c0),(152,.bool i4)] L s) ?_ ?_
         ·rintro _ _ ⟨ed,rfl,rfl,ee,c3⟩;refine AM.fin (by decide+kernel) (CE i5 (λi6 i7=>?_) (λi6 i8=>?_))
          ·refine C 4 V (JS.drop 0 c3 V λi9=>?_);refine JS.drop 1 i9 V λja=>JS.drop 2 ja V λjb=>JS.drop 3 jb V λlZ=>?_;obtain rfl:=oi i7;obtain rfl:=eO _ dx;have jc:=elim_inl eA;obtain rfl:=oi jc;exact G9 V (JO.end (v:= .bool false) V (by decide+kernel) func4 V V V)
          ·refine JL.skip (Fb 13 [Y] ⟨⟨0,_,V⟩,trivial⟩ c3 λO=>?_);refine A5 O V [0,1,4] V (JG.fd 5 O underlying25 DR V V V V ?_);refine IV 6 O 1 0 c3 EZ ?_;refine Dd 7 O V V ?_;obtain⟨eT,jd,je⟩:=bs i8;refine ED 8 (cH.Ah ((((((cp.Ad a2).Ad a3).Ad be).Ad bz).Ad c1).Ad ee)) jd O underlying23 Bg ?_;rintro l3 l4 _ ⟨_,_,rfl,rfl,⟨_,_,rfl,rfl,rfl⟩⟩ jf;refine JG.fd 9 O underlying27 AG V V V V (JG.lp 10 O 2 jf c3 ⟨⟨0,_,V⟩,trivial⟩ A7 ?_);refine AO (v:=iV (min al.1 eT.2.2)) 11 O V V (λρ h s' K=>Yl.min2 (h _ _ V) (h _ _ V)) ?_;obtain⟨jg,jh,ji⟩:=bs je;refine JG.one (i:=2) V (by decide+kernel) (Take.lit (pp:=rI) (jp:=0) [iV c0] ([c0]:List Int) c3 V V V V underlying28 AG CI (by decide) V V V ⟨V,trivial⟩ λl5 l6 jj jk=>?_);refine JG.one (i:=3) V (by decide+kernel) (Take.app (pp:=rI) (jp:=0) 3 4 jk V jh V V V V V V V underlying28 underlying28 AG (Dl type3) CI V (by decide) (by decide) (eN.Ah (c1.Ad ee)) jj V V V V λjl jm l7 jo jq jr=>?_);refine Dd 12 O V V (Dp [13] ?_);refine FZ 3 V jr λjs=>JS.drop 3 js V λjt=>?_;obtain⟨ju,jv,jw⟩:=bs ji;refine C 5 V (Br jv V V V ?_);refine C 2 V (JS.drop 4 jt V λjx=>?_);obtain rfl:=oi jw;exact AF (iW _ _ (min al.1 eT.2.2,jg,ju) ⟨ed,jl,jm,jo,V,V,((bz.Ad c1).Ad ee),jx,jq⟩ dx) V
         ·intro eU;refine Gy (q:=c0<0) (i:=142) V (λef=>?_) (λef=>?_)
          ·have jy:=ip eS ef;refine A5 O V [3,4,5,6,7,8,9,10,11,12] V ?_;obtain rfl:=oi jy;refine Dt ?_ (eU _ _ ⟨eQ,V,V,Ay,eR⟩);exact⟨V,V,V,V,V,V,V,V,trivial⟩
          ·have jz:=im eS ef;refine A5 O V [3,4] V ?_;obtain⟨eV,jA,jB⟩:=bs jz;obtain⟨eW,eX,jC,jD⟩:=Al.cut (dd.Ah ((((a2.Ad a3).Ad be).Ad bz).Ad c1)) jA;refine JG.val (v:= sV eW eV eX) 5 V O (by decide+kernel) V V V (λρ h s' K=>jD underlying28 AG (h _ _ V) (h _ _ V) V) ?_;refine A5 O V [6,7] V ?_;obtain⟨jE,jF,jG⟩:=bs jB;refine ED 8 (dd.Ah ((((a2.Ad a3).Ad be).Ad bz).Ad c1)) jF O underlying28 AG ?_;rintro l8 l9 _ rfl jH;refine Ex 9 O 0 jH A7 V V V V ?_;obtain⟨ma,jI,jJ⟩:=bs jG;refine JG.call (i:=10) (vs:= [sV eW eV eX,iV jE]) (bF jC jI) (by decide+kernel) V V V (Ba func34 V) V eR ?_;rintro _ jK _ jL ⟨rfl,rfl⟩ jM;refine A5 O V [11,12] V ?_;obtain rfl:=oi jJ;refine Dt ?_ (eU _ _ ⟨jK,V,V,jL,jM⟩);exact⟨V,V,V,V,V,V,V,V,trivial⟩
        ·refine JL.block (DX i0 (λcw=> [bX Y #[sV am U.1.1 ap,sV av U.1.2 aw] 25,b4,bX ac #[sV ay aq.1 az,sV b5 aq.2 b6] 25,bx]) (λcw=> [(4,Aj Y 0),(9,sV b2 b1.1 b3),(11,Aj ac 0),(12,iV al.1),(13,sV bv al.2.1 bw),(14,iV al.2.2),(15,iV cw.1),(16,iV cw.2)]) Ay eM ?_);rintro cw jN cP a6 jO ⟨mb,eg⟩ jP;have eY:=eg;unfold Mm at eY;refine C 4 V (JL.fd underlying25 DR V V V ?_);refine Am (v:= sV av U.1.2 aw) V (λρ h=>Yl.load EZ (h _ _ V) (BI (j:=0) (off:=1) a6 V V)) (JL.ln underlying23 V V V ?_);refine C 2 V (AW eY (λjQ jR=>?_) (λjQ jS=>?_))
         ·refine C 4 V (Fb 28 [Y] ⟨⟨0,_,V⟩,trivial⟩ a6 λO=>?_);refine JG.fd 0 O underlying25 DR V V V V (IV 1 O 1 0 a6 EZ ?_);refine Dd 2 O V V ?_;obtain⟨jT,jU,jV⟩:=bs jR;refine ED 3 (cH.Ah (((((cp.Ad a2).Ad a3).Ad be).Ad bz).Ad cP)) jU O underlying23 Bg ?_;rintro mc md _ ⟨_,_,rfl,rfl,⟨_,_,rfl,rfl,rfl⟩⟩ jW;refine JG.fd 4 O underlying27 AG V V V V (JG.lp 5 O 0 jW a6 ⟨⟨0,_,V⟩,trivial⟩ A7 ?_);refine A5 O V [6,7] V ?_;obtain⟨jX,jY,jZ⟩:=bs jV;refine ED 8 (dd.Ah ((((a2.Ad a3).Ad be).Ad bz).Ad cP)) jY O underlying28 AG ?_;rintro me mf _ rfl j0;refine JG.lp 9 O 0 j0 a6 ⟨⟨0,_,V⟩,trivial⟩ A7 ?_;refine A5 O V [10,11] V ?_;obtain⟨j1,eZ,j2⟩:=bs jZ;refine FY 0 #[true,true,true,true,true,true,true,true,true,true,true,true,true,true,true,true,true,true,true,true,true,true,true,true,true,true,true,true] (λL s=>L= [(4,Aj Y 0),(9,sV b2 b1.1 b3),(11,Aj ac 0),(12,iV al.1),(13,sV bv al.2.1 bw),(14,iV al.2.2),(15,iV cw.1),(16,iV cw.2),(138,.bool j1)]/\s=Ak jN H [bX Y #[sV am U.1.1 ap,sV av U.1.2 aw] 25,b4,bX ac #[sV ay aq.1 az,sV b5 aq.2 b6] 25,bx]) ?_ ?_
          ·rintro _ _ ⟨rfl,rfl⟩;refine AM.fin (by decide+kernel) ?_;obtain⟨e0,j3,j4⟩:=bs j2;refine EK [bX Y #[sV am U.1.1 ap,sV av U.1.2 aw] 25,b4,bX ac #[sV ay aq.1 az,sV b5 aq.2 b6] 25,bx] [(4,Aj Y 0),(9,sV b2 b1.1 b3),(11,Aj ac 0),(12,iV al.1),(13,sV bv al.2.1 bw),(14,iV al.2.2),(15,iV e0),(16,iV cw.2)] (λmg j5 j6=>?_) (λe1=>?_)
           ·obtain⟨j7,j8,j9⟩:=bs j4;refine C 3 V (Br j8 V V V ?_);refine C 2 V ?_;obtain rfl:=oi j9;exact jP (e0,j7) (cP.Ad j5) j6 V eg
           ·refine CE j3 (λkb kc=>?_) (λkb ke=>?_)
            ·refine C 4 V ?_;obtain rfl:=oi kc;exact e1 Ay a6 V
            ·refine JL.skip ?_;obtain rfl:=oi ke;exact e1 Ay a6 V
          ·intro e3;refine Gy (q:=jT.1=jX) (i:=122) V (λeh=>?_) (λeh=>?_)
           ·have kf:=ip eZ eh;refine JG.fd 12 O underlying25 DR V V V V ?_;refine IV 13 O 1 0 a6 EZ ?_;refine Dd 14 O V V ?_;obtain⟨mh,kg,kh⟩:=bs kf;refine ED 15 (cH.Ah (((((cp.Ad a2).Ad a3).Ad be).Ad bz).Ad cP)) kg O underlying23 Bg ?_;rintro mi mj _ ⟨_,_,rfl,rfl,⟨_,_,rfl,rfl,rfl⟩⟩ ki;refine JG.fd 16 O underlying27 AG V V V V ?_;refine JG.lp 17 O 1 ki a6 ⟨⟨0,_,V⟩,trivial⟩ A7 ?_;refine A5 O V [18,19] V ?_;obtain⟨ml,kj,kl⟩:=bs kh;refine AO 20 O V V (λρ h s' K=>F0 (h _ _ V) (h _ _ V) kj) ?_;refine Dd 21 O V V ?_;refine AO 22 O V V (λρ h s' K=>Yl.len V underlying28 (h _ _ V)) ?_;obtain⟨km,kn,ko⟩:=bs kl;refine AO (v:=iV km) 23 O V V (λρ h s' K=>SU (h _ _ V) (h _ _ V) kn) ?_;obtain⟨mm,kp,kq⟩:=bs ko;refine ED 24 (dd.Ah ((((a2.Ad a3).Ad be).Ad bz).Ad cP)) kp O underlying28 AG ?_;rintro mo mp _ rfl kr;refine JG.lp 25 O 0 kr a6 ⟨⟨0,_,V⟩,trivial⟩ A7 ?_;refine A5 O V [26,27] V ?_;obtain rfl:=oi kq;refine Dt ?_ (e3 _ _ ⟨V,V⟩);exact⟨V,V,V,V,V,V,V,V,V,trivial⟩
           ·have ks:=im eZ eh;refine A5 O V [12,13,14,15,16,17,18,19,20,21,22,23,24,25,26,27] V ?_;obtain rfl:=oi ks;refine Dt ?_ (e3 _ _ ⟨V,V⟩);exact⟨V,V,V,V,V,V,V,V,V,trivial⟩
         ·refine JL.exit V ?_;obtain rfl:=oi jS;obtain rfl:=jO _ eg;exact i3 cP a6 V
       ·refine JL.exit V ?_;obtain rfl:=oi iZ;have kt:ez=(Sum.inr (al.1,al.2.1)):=(eO _ dx).symm;exact AF (iU _ _ ⟨(al.1,al.2.1),dw,bv,bw,bx,kt,V,V,bz,eM,eN⟩) V
    ·intro e4;refine DZ 88 gS (λku kv=>?_) (λku kx=>?_)
     ·refine C 7 V ?_;obtain rfl:=oi kv;exact AF (e4 _ _ ⟨dI,V,V,Ay,dJ⟩) V
     ·refine C 1 V (JL.ln underlying28 V V V ?_);refine JL.fd underlying25 FH V V V (Am (v:= sV am U.1.1 ap) V (λρ h=>Yl.load FT (h _ _ V) (BI (j:=0) (off:=0) dJ V V)) ?_);refine JL.ln underlying22 V V V (C 2 V ?_);obtain rfl:=oi kx;exact AF (e4 _ _ ⟨dI,V,V,Ay,dJ⟩) V
   ·refine HN 83 gP (λky kz=>?_) (λky kA=>?_)
    ·refine C 4 V (JS.drop 1 de V λkB=>?_);obtain rfl:=oi kz;exact ex Ay kB V
    ·refine C 1 V (JL.ln underlying28 V V V ?_);refine C 2 V (JS.drop 1 de V λkC=>?_);obtain rfl:=oi kA;exact ex Ay kC V
variable {J:Judge Tryz.prog}
variable {J:Judge Tryz.prog}
end Pal
namespace Pal
open Go Go.Conc
variable {P:Program}{Q:Gs_}{b:Frame}{n:Nat}{ds:Ld_}{ops:Ao_}{cs:Lf_}{fuel:Nat}{D:Nat->Bool}{listed:Array Bool}{L:Env}{s:St}{E E' H:LH}{S:List Seg}
variable {d:Option Tmp}{t u ty e:TypeId}{p:String}{af:Ae_}{g:On_}{v:Value}{i:Nat}{kd:IntKind}
section
variable {J:Judge P}{k:Li_}{m:Nat}
variable {x y:Operand}
end
open Go.Proofs Go.Proofs.Tryz
variable {J:Judge Tryz.prog}
end Pal
namespace Pal
open Go Go.Conc
variable {P:Program}{d:Option Tmp}{t u ty e:TypeId}{p:String}{af:Ae_}{g:On_}{s:St}{ρ:Operand->Value}
section
variable {x:Operand}
end
open Go.Proofs Go.Proofs.Tryz
variable {E:LH}
variable {J:Judge Tryz.prog}
variable {J:Judge Tryz.prog}
end Pal
namespace Pal
def BB{α:Type}(o:Option α)(Q:α->Prop):Prop:=∃a,o=some a/\Q a
variable {α β:Type}{Q R:α->Prop}
theorem Av{a:α}(h:Q a):BB (some a) Q:=⟨a,V,h⟩
theorem BB.Ah{o:Option α}(h:BB o R)(k:∀a,R a->Q a):BB o Q:=let ⟨a,K,O⟩:=h;⟨a,K,k a O⟩
theorem Bo{o:Option β}{f:β->Option α}{S:β->Prop}(h:BB o S)(k:∀b,S b->BB (f b) Q):BB (o.bind f) Q:=by
 obtain⟨b,rfl,hb⟩:=h;obtain⟨a,K,O⟩:=k b hb;exact⟨a,K,O⟩
theorem Bc{o:Option β}{f:β->Option α}{b:β}(h:o=some b)(k:BB (f b) Q):BB (o.bind f) Q:=by subst h;exact k
theorem BB.cA{f:Int->Option α}{x:Int}(K: -9223372036854775808<=x)(O:x<=9223372036854775807)(k:BB (f x) Q):BB ((Ax x).bind f) Q:=Bc (if_pos ⟨K,O⟩) k
theorem EX{xs:List β}{i:Int}{m:Nat}{b:β}(h:i=(m:Int))(hb:xs[m]? =some b):ix xs i=some b:=by subst h;simpa [ix] using hb
theorem C6{f:β->Option α}{xs:List β}{i:Int}{m:Nat}(h:i=(m:Int))(hm:m<xs.length)(k:BB (f xs[m]) Q):BB ((ix xs i).bind f) Q:=Bc (EX h (List.getElem?_eq_getElem hm)) k
theorem Km{f:List β->Option α}{xs:List β}{x:β}(h:xs.length+1<=2 ^ 40)(k:BB (f (xs++ [x])) Q):BB ((room xs x).bind f) Q:=Bc (if_pos h) k
theorem Cl{c:Prop} [Decidable c] {x y:Option α}(K:c->BB x Q)(O:¬c->BB y Q):BB (if c then x else y) Q:=by
 by_cases h:c
 ·rw [if_pos h];exact K h
 ·rw [if_neg h];exact O h
theorem Cb{c:Prop} [Decidable c] {x y:Option α}(h:c)(k:BB x Q):BB (if c then x else y) Q:=by rw [if_pos h];exact k
theorem BR{c:Prop} [Decidable c] {x y:Option α}(h:¬c)(k:BB y Q):BB (if c then x else y) Q:=by rw [if_neg h];exact k
def Bm.sat{S A:Type}(I:S->Prop)(Q:A->Prop):Bm S A->Prop
 | .more s=>I s
 | .done a=>Q a
theorem Pr{S:Type}{body:S->Option (Bm S α)}(I:Nat->S->Prop)(round:∀m s,I m s->BB (body s) (Bm.sat (λs'=>∃m',m'<m/\I m' s') Q)):
  ∀{m fuel:Nat} {s:S},I m s->m<fuel->BB (iter body fuel s) Q:=by
 intro m
 induction m using Nat.strongRecOn with
 | _ m O=>
  intro fuel s U ag;obtain⟨fuel,rfl⟩:∃k,fuel=k+1:=⟨fuel - 1,by omega⟩;obtain⟨st,Y,K⟩:=round m s U;unfold Pal.iter;rw [Y];cases st with
  | more s'=>
   obtain⟨m',Z,ac⟩:=K;exact O m' Z ac (by omega)
  | done a=>exact⟨a,rfl,K⟩
theorem Dg{S A:Type}{body:S->Option (Bm S A)}{Q:A->Prop}{K:S}{F:Nat}(n:Nat)(I:Nat->S->Prop)(Y:I 0 K)(ac:n<F)
  (round:∀i s,i<n->I i s->BB (body s) (Bm.sat (I (i+1)) Q)) (last:∀s,I n s->BB (body s) (λst=>∃a,st= .done a/\Q a)):BB (Pal.iter body F K) Q:=by
 refine Pr (λm s=>∃i,i<=n/\m=n - i/\I i s) ?_ (m:=n - 0) ⟨0,Nat.zero_le _,V,Y⟩ (by omega);rintro m s ⟨i,hi,rfl,O⟩;rcases Nat.lt_or_ge i n with Z | ag
 ·refine(round i s Z O).Ah ?_;intro st U;cases st with
  | more s'=>exact⟨n - (i+1),by omega,i+1,by omega,rfl,U⟩
  | done a=>exact U
 ·obtain rfl:i=n:=by omega
  refine(last s O).Ah ?_;rintro st ⟨a,rfl,h⟩;exact h
theorem DU{α:Type}{o:Option α}{a:α}(h:BB o (λx=>x=a)):o=some a:=by obtain⟨x,K,rfl⟩:=h;exact K
theorem BA{α:Type}{Q:α->Prop}{f:Int->Option α}{x:Int}(y:Int)(h:x=y)(K: -9223372036854775808<=y)(O:y<=9223372036854775807)(k:BB (f y) Q):BB ((Ax x).bind f) Q:=by subst h;exact BB.cA K O k
theorem BB.Ly{α β:Type}{Q:α->Prop}{f:List β->Option α}{xs ys:List β}(h:xs.length+ys.length<1000)(k:BB (f (xs++ys)) Q):BB ((CN xs ys).bind f) Q:=Bc (by unfold CN;rw [if_pos (by omega)]) k
abbrev HV:=List Int×Int×Nat
def BG(k:Nat)(b:HV):Prop:=0<=b.2.1/\b.2.1<=(k:Int)
theorem BG.Ah{k k':Nat}{b:HV}(h:BG k b)(K:k<=k'):BG k' b:=⟨h.1,by have:=h.2;omega⟩
theorem ZG{F k:Nat}{b:HV}(hb:BG k b)(K:k<1000000):BB (f83 F b) (λr=>r.1<2 ^ 64/\BG (k+1) r.2):=by
 obtain⟨O,U⟩:=hb;unfold f83;refine BA (b.2.1+1) V (by omega) (by omega) ?_;have key:∀x:Nat,(x % 2 ^ 64)>>>11<2 ^ 64:=λx=>Nat.lt_of_le_of_lt (Nat.shiftRight_le _ _) (Nat.mod_lt _ (Nat.two_pow_pos 64));refine Bo (S:=λ_=>True) ?_ ?_
 ·refine Cl (λh=>?_) (λh=>?_)
  ·refine BA b.2.1 (by omega) (by omega) (by omega) (C6 (m:=b.2.1.toNat) (by omega) (by omega) ?_);exact Av trivial
  ·exact Av trivial
 ·intro x _;exact Av ⟨key _,by simp only;omega,by simp only;omega⟩
theorem V1{a:Nat}(h:a<2 ^ 62):MD a=(a:Int):=by
 unfold MD;exact JF (by omega)
theorem Lf{F k:Nat}{b:HV}{m:Int}(hb:BG k b)(O:k<1000000)(hm:m<1000000):BB (f36 F b m) (λr=>0<=r.1/\(r.1<=m∨r.1=0)/\BG (k+1) r.2):=by
 unfold f36;refine Bo (ZG hb O) ?_;rintro⟨x,b'⟩ ⟨Z,K⟩;refine Cl (λh=>?_) (λh=>?_)
 ·exact Av ⟨by simp,.inr V,K⟩
 ·have U:C3 m=m.toNat:=by unfold C3;omega
  have e2:(C3 m+1) % 2 ^ 64=m.toNat+1:=by rw [U];omega
  have Y:x % (m.toNat+1)<m.toNat+1:=Nat.mod_lt _ (by omega);refine Bc (b:=x % (m.toNat+1)) (by rw [e2];unfold N6;rw [if_neg (by omega)]) ?_;refine Av ?_;simp only;generalize x % (m.toNat+1)=z at Y ⊢;rw [V1 (by omega)];exact⟨by omega,.inl (by omega),K⟩
theorem PZ{F k:Nat}{b:HV}{lo hi:Int}(hb:BG k b)(O:k<1000000)(Y:0<=lo)(Z:lo<=hi)(ac:hi<1000):BB (f37 F b lo hi) (λr=>lo<=r.1/\r.1<=hi/\BG (k+1) r.2):=by
 unfold f37;refine BA (hi - lo) V (by omega) (by omega) (Bo (Lf hb O (by omega)) ?_);rintro⟨x,b'⟩ ⟨U,g2,K⟩;simp only at U g2 K ⊢;exact BA (lo+x) V (by omega) (by omega) (Av ⟨by simp only;omega,by simp only;omega,K⟩)
theorem Uc{F k:Nat}{b:HV}{m:Int}(hb:BG k b)(K:k<1000000)(U:1<=m)(Y:m<1000):BB (f32 F b m) (λr=>BG (k+1) r.2):=by
 unfold f32;refine BA (m - 1) V (by omega) (by omega) (Bo (Lf hb K (by omega)) ?_);rintro⟨x,b'⟩ ⟨Z,g2,O⟩;exact Av O
theorem T6{F k:Nat}{b:HV}{l:List Int}(hb:BG k b)(U:k<1000000)(Z:0<l.length)(ac:l.length<1000):BB (f81 F b l) (λr=>r.1∈l/\BG (k+1) r.2):=by
 unfold f81;refine BA ((l.length - 1:Nat):Int) (by omega) (by omega) (by omega) (Bo (Lf hb U (by omega)) ?_);rintro⟨x,b'⟩ ⟨Y,g2,K⟩;simp only at Y g2 K ⊢;have O:x.toNat<l.length:=by omega
 exact C6 (m:=x.toNat) (by omega) O (Av ⟨List.getElem_mem O,K⟩)
abbrev DT:=Int×Int×Int
abbrev OW:=Be×List DT
structure NV (n:Nat) (o:OW):Prop where
 l1:o.1.length<=n
 n1:∀x∈o.1,x.length<=n
 l2:o.2.length<=n
theorem Z9{F:Nat}{l:Be}(ag:100<F)(al:l.length<=40)(U:∀x∈l,x.length<=40):f68 F l=some l:=by
 refine DU ?_;unfold f68;refine Bc (b:=List.replicate l.length []) ?_ ?_
 ·unfold JZ;rw [if_pos (by omega)];rfl
 refine Bo (S:=λr=>r=l) ?_ (λr Y=>Av Y);refine Dg l.length (λi s=>s.2=(i:Int)/\s.1=l.take i++List.replicate (l.length - i) []) ⟨V,by simp⟩ (by omega) ?_ ?_
 ·rintro i ⟨o,c⟩ hi ⟨K,O⟩;simp only at K O;subst K;subst O;unfold NS;refine Cb (by simp only;omega) (C6 (m:=i) V hi ?_);refine Bc (b:=l[i]) ?_ ?_
  ·unfold f104;have:CN ([]:List Int) l[i]=some l[i]:=by unfold CN;rw [if_pos (by have:=U _ (List.getElem_mem hi);simp;omega)];rfl
   rw [this];rfl
  have Z:(l.take i).length=i:=by rw [List.length_take];omega
  refine C6 (m:=i) V (by simp;omega) (BA ((i+1:Nat):Int) (by simp) (by omega) (by omega) ?_);refine Av ⟨V,?_⟩;simp only;rw [show Int.toNat (i:Int)=i by omega,List.set_append,if_neg (by omega),Z,Nat.sub_self];obtain⟨k,ac⟩:∃k,l.length - i=k+1:=⟨l.length - i - 1,by omega⟩;rw [ac,List.replicate_succ,List.set_cons_zero,List.take_add_one,List.getElem?_eq_getElem hi,show l.length - (i+1)=k by omega];simp only [Option.toList_some,List.append_assoc,List.cons_append,List.nil_append]
 ·rintro⟨o,c⟩ ⟨K,O⟩;simp only at K O;subst K;subst O;unfold NS;exact BR (by simp) (Av ⟨_,V,by simp⟩)
theorem Zb{F:Nat}{o:OW}(O:100<F)(K:NV 40 o):f21 F o=some o:=by
 unfold f21;have U:=K.l2;rw [Z9 O K.l1 K.n1,Option.bind_some];unfold f69;have:CN ([]:List DT) o.2=some o.2:=by unfold CN;rw [if_pos (by simp;omega)];rfl
 rw [this];rfl
theorem Y1{F:Nat}{l:List Int}(K:100<F)(O:l.length<=40):f29 F l l=some true:=by
 refine DU ?_;unfold f29;refine Bo (S:=λq=>q=Sum.inr ()) ?_ (by rintro q rfl;exact Av (by simp));refine Dg l.length (λi s=>s=(i:Int)) V (by omega) ?_ ?_
 ·rintro i s hi rfl;unfold NR;refine Bo (S:=λc=>c=true) (Cb (by omega) (Av (decide_eq_true (by omega)))) ?_;rintro c rfl;refine Cb V (C6 (m:=i) V hi ?_);refine C6 (m:=i) V hi (BR (by simp) ?_);exact BA ((i+1:Nat):Int) (by simp) (by omega) (by omega) (Av V)
 ·rintro s rfl;unfold NR;refine Bo (S:=λc=>c=false) (BR (by omega) (Av V)) ?_;rintro c rfl;exact BR (by simp) (Av ⟨_,V,V⟩)
theorem ZV{F:Nat}{l:List DT}(K:100<F)(O:l.length<=40):f26 F l l=some true:=by
 refine DU ?_;unfold f26;refine Bo (S:=λq=>q=Sum.inr ()) ?_ (by rintro q rfl;exact Av (by simp));refine Dg l.length (λi s=>s=(i:Int)) V (by omega) ?_ ?_
 ·rintro i s hi rfl;unfold NY;refine Bo (S:=λc=>c=true) (Cb (by omega) (Av (decide_eq_true (by omega)))) ?_;rintro c rfl;refine Cb V (C6 (m:=i) V hi ?_);refine C6 (m:=i) V hi (BR (by simp) ?_);exact BA ((i+1:Nat):Int) (by simp) (by omega) (by omega) (Av V)
 ·rintro s rfl;unfold NY;refine Bo (S:=λc=>c=false) (BR (by omega) (Av V)) ?_;rintro c rfl;exact BR (by simp) (Av ⟨_,V,V⟩)
theorem NT(F:Nat)(a lo hi:Int):f92 F a lo hi=some (decide (lo<=a/\a<=hi)):=by
 unfold f92;by_cases h:lo<=a
 ·rw [if_pos h];simp [h]
 ·rw [if_neg h];simp [h]
theorem XJ{F:Nat}{o:OW}{i:Int}{l:List Int}(h:ix o.1 i=some l):N1 F l=L8 F o i:=by
 funext j;unfold N1 L8;rw [h];rfl
theorem Xz(F:Nat)(o:OW):NI F o=Mg F o:=by
 funext i;unfold NI Mg;split
 ·rcases h:ix o.1 i with _ | l
  ·rfl
  ·simp only [Option.bind_some];rw [XJ h]
 ·rfl
theorem Z6(F:Nat)(o:OW):f47 F o=f48 F o:=by
 unfold f47 f48;rw [Xz];rfl
def VD(n:Nat)(d:DT):Prop:=0<=d.1/\d.1<(n:Int)/\0<=d.2.1/\d.2.1<(n:Int)/\d.1≠d.2.1/\1<=d.2.2/\d.2.2<=9
def CS(x:List Int):Prop:=x.length<=3/\∀c∈x,1<=c/\c<=9
structure VO (o:OW):Prop where
 n2:2<=o.1.length
 n5:o.1.length<=5
 cs:∀x∈o.1,CS x
 d8:o.2.length<=8
 ds:∀d∈o.2,VD o.1.length d
theorem VO.nv{o:OW}(h:VO o):NV 40 o:=⟨by have:=h.n5;omega,λx K=>by have:=(h.cs x K).1;omega,by have:=h.d8;omega⟩
theorem PM{α:Type}{P:α->Prop}{l:List α}{i:Nat}(hi:i<l.length)(h:∀x∈l.take i,P x)(k:P l[i]):∀x∈l.take (i+1),P x:=by
 intro x K;rw [List.take_add_one,List.getElem?_eq_getElem hi] at K;simp only [Option.toList_some,List.mem_append,List.mem_singleton] at K;rcases K with K | rfl
 ·exact h x K
 ·exact k
theorem aD{F:Nat}{d:DT}{n:Nat}(Y:n<1000):BB (f88 F (n:Int) d 9) (λr=>r=0↔VD n d):=by
 unfold f88;refine BA ((n:Int) - 1) V (by omega) (by omega) (Bc (NT _ _ _ _) ?_);refine Bo (S:=λc=>c=true↔¬((0<=d.1/\d.1<(n:Int))/\0<=d.2.1/\d.2.1<(n:Int))) ?_ ?_
 ·refine Cl (λh=>Av ?_) (λh=>?_)
  ·simp at h;simp;omega
  ·refine BA ((n:Int) - 1) V (by omega) (by omega) (Bc (NT _ _ _ _) ?_);refine Av ?_;simp at h;simp;omega
 ·intro c O;refine Cl (λh=>Av ?_) (λh=>?_)
  ·have:=O.1 h;unfold VD;constructor
   ·intro h;cases h
   ·intro h;omega
  have Z:¬¬_:=λk=>h (O.2 k);refine Cl (λU=>Av ?_) (λU=>?_)
  ·unfold VD;constructor
   ·intro h;cases h
   ·intro h;omega
  refine Bc (NT _ _ _ _) (Cl (λK=>Av ?_) (λK=>Av ?_))
  ·simp at K;unfold VD;constructor
   ·intro h;cases h
   ·intro h;omega
  ·simp at K;unfold VD;constructor
   ·intro h;omega
   ·intro h;rfl
theorem ZM{F:Nat}{o:OW}(Z:100<F)(h:NV 40 o):BB (f48 F o) (λr=>r=0↔VO o):=by
 unfold f48;have ac:=h.l1;have ag:=h.l2;refine Cl (λg=>Av (iff_of_false (by decide) λv=>by have:=v.n2;omega)) (λal=>?_);refine Cl (λg=>Av (iff_of_false (by decide) λv=>by have:=v.n5;omega)) (λg2=>?_);refine Bo (S:=λq=>(∃e,q=Sum.inl e/\e≠0/\¬∀x∈o.1,CS x)∨(q=Sum.inr ()/\∀x∈o.1,CS x)) ?_ ?_
 ·refine Dg o.1.length (λi s=>s=(i:Int)/\∀x∈o.1.take i,CS x) ⟨V,by simp⟩ (by omega) ?_ ?_
  ·rintro i s hi ⟨rfl,K⟩;unfold Mg;refine Cb (by omega) (C6 (m:=i) V hi ?_);have am:=h.n1 _ (List.getElem_mem hi);refine Cl (λg=>Av (.inl ⟨_,V,by decide,λk=>by have:=(k _ (List.getElem_mem hi)).1;omega⟩)) (λap=>?_);refine Bo (S:=λq=>(q=Sum.inl 1/\¬CS o.1[i])∨(q=Sum.inr ()/\CS o.1[i])) ?_ ?_
   ·refine Dg o.1[i].length (λj s=>s=(j:Int)/\∀c∈o.1[i].take j,1<=c/\c<=9) ⟨V,by simp⟩ (by omega) ?_ ?_
    ·rintro j s U ⟨rfl,O⟩;unfold L8;refine C6 (m:=i) V hi (Cb (by omega) ?_);refine C6 (m:=i) V hi (C6 (m:=j) V U ?_);refine Bc (NT _ _ _ _) (Cl (λg=>Av (.inl ⟨V,λk=>?_⟩)) (λg=>?_))
     ·have:=k.2 _ (List.getElem_mem U);simp at g;omega
     refine BA ((j+1:Nat):Int) (by simp) (by omega) (by omega) (Av ⟨V,PM U O ?_⟩);simpa using g
    ·rintro s ⟨rfl,O⟩;unfold L8;refine C6 (m:=i) V hi ?_;rw [List.take_length] at O;exact BR (by omega) (Av ⟨_,V,.inr ⟨V,by omega,O⟩⟩)
   ·rintro q (⟨rfl,g⟩ | ⟨rfl,g⟩)
    ·rw [Sum.elim_inl];exact Av (.inl ⟨_,V,by decide,λk=>g (k _ (List.getElem_mem hi))⟩)
    ·rw [Sum.elim_inr];exact BA ((i+1:Nat):Int) (by simp) (by omega) (by omega) (Av ⟨V,PM hi K g⟩)
  ·rintro s ⟨rfl,K⟩;unfold Mg;rw [List.take_length] at K;exact BR (by omega) (Av ⟨_,V,.inr ⟨V,K⟩⟩)
 ·rintro q (⟨e,rfl,he,g⟩ | ⟨rfl,O⟩)
  ·rw [Sum.elim_inl];exact Av (iff_of_false he λv=>g v.cs)
  ·rw [Sum.elim_inr];refine Cl (λg=>Av (iff_of_false (by decide) λv=>by have:=v.d8;omega)) (λg2=>?_);refine Bo (S:=λq=>(∃e,q=Sum.inl e/\e≠0/\¬∀d∈o.2,VD o.1.length d)∨(q=Sum.inr ()/\∀d∈o.2,VD o.1.length d)) ?_ ?_
   ·refine Dg o.2.length (λi s=>s=(i:Int)/\∀d∈o.2.take i,VD o.1.length d) ⟨V,by simp⟩ (by omega) ?_ ?_
    ·rintro i s hi ⟨rfl,K⟩;unfold P0;refine Cb (by omega) (C6 (m:=i) V hi ?_);refine Bo (aD (by omega)) ?_;intro x Y;refine Cl (λg=>Av (.inl ⟨_,V,g,λk=>g (Y.2 (k _ (List.getElem_mem hi)))⟩)) (λg=>?_);exact BA ((i+1:Nat):Int) (by simp) (by omega) (by omega) (Av ⟨V,PM hi K (Y.1 (Decidable.not_not.1 g))⟩)
    ·rintro s ⟨rfl,K⟩;unfold P0;rw [List.take_length] at K;exact BR (by omega) (Av ⟨_,V,.inr ⟨V,K⟩⟩)
   ·rintro q (⟨e,rfl,he,g⟩ | ⟨rfl,g⟩)
    ·rw [Sum.elim_inl];exact Av (iff_of_false he λv=>g v.ds)
    ·rw [Sum.elim_inr];exact Av (iff_of_true V ⟨by omega,by omega,O,by omega,g⟩)
theorem Ze{F:Nat}{o:OW}(K:100<F)(h:NV 40 o):BB (f47 F o) (λr=>r=0↔VO o):=Z6 F o▸ZM K h
theorem aY{F:Nat}{o:OW}(K:100<F)(h:VO o):f47 F o=some 0:=by
 obtain⟨r,O,U⟩:=Ze K h.nv;rw [O,U.2 h]
theorem Ob{F:Nat}{o:OW}(K:100<F)(h:VO o):f70 F o []=some (o,0):=by
 obtain⟨F,rfl⟩:∃k,F=k+1:=⟨F - 1,by omega⟩;unfold f70;rw [aY K h]
 rfl
theorem XK(a n:Int):a % n=(a - n) % n:=by
 have h:a=(a - n)+n*1:=by omega
 conv=>lhs;rw [h]
 exact Int.add_mul_emod_self_left _ _ _
theorem aF{F k n:Nat}{b:HV}(hb:BG k b)(av:k<900000)(aw:2<=n)(ay:n<900):BB (f40 F b (n:Int)) (λr=>VD n r.1/\BG (k+4) r.2):=by
 unfold f40;refine BA ((n:Int) - 1) V (by omega) (by omega) (Bo (Lf hb (by omega) (by omega)) ?_);rintro⟨x,az⟩ ⟨O,g2,U⟩;simp only at O g2 U ⊢;refine Bo (PZ U (by omega) (by omega) (by omega) (by omega)) ?_;rintro⟨x2,a0⟩ ⟨a1,am,Y⟩;simp only at a1 am Y ⊢;refine Bo (T6 Y (by omega) (by simp) (by simp)) ?_;rintro⟨Z,a2⟩ ⟨ac,ag⟩;simp only at ac ag ⊢;refine BA ((n:Int) - 1) V (by omega) (by omega) (Bo (PZ ag (by omega) (by omega) (by omega) (by omega)) ?_);rintro⟨K,a3⟩ ⟨ap,aq,al⟩;simp only at ap aq al ⊢;refine BA (x+K) V (by omega) (by omega) (Bc (b:=(x+K).tmod n) (by unfold Ls;rw [if_neg (by omega)]) ?_);refine Av ⟨?_,al⟩;have e:(x+K).tmod n=(x+K) % n:=Int.tmod_eq_emod_of_nonneg (by omega);have p3:1<=Z/\Z<=9:=by
  simp only [List.mem_cons,List.not_mem_nil,or_false] at ac;omega
 have a4:(x+K) % (n:Int)<n:=Int.emod_lt_of_pos _ (by omega);have a5:0<=(x+K) % (n:Int):=Int.emod_nonneg _ (by omega);have a6:x≠(x+K) % (n:Int):=by
  rcases Int.lt_or_le (x+K) n with h | h
  ·rw [Int.emod_eq_of_lt (by omega) h];omega
  ·rw [XK,Int.emod_eq_of_lt (by omega) (by omega)];omega
 refine⟨O,?_,?_,?_,?_,p3.1,p3.2⟩ <;> simp only [e] <;> omega
theorem Zw{F k:Nat}{b:HV}{pm dm:Nat}(a6:100<F)(hb:BG k b)(a7:k<1000)(a8:2<=pm)(a9:pm<=5)(hd:dm<=8):BB (f31 F b pm dm) (λr=>VO r.1/\r.1.1.length<=pm/\r.1.2.length<=dm/\BG (k+100) r.2):=by
 unfold f31;refine Bo (PZ hb (by omega) (by omega) (by omega) (by omega)) ?_;rintro⟨n,bb⟩ ⟨n1,n2,ay⟩;simp only at n1 n2 ay ⊢;obtain⟨n,rfl⟩:∃m:Nat,n=(m:Int):=⟨n.toNat,by omega⟩;refine Bo (Uc ay (by omega) (by omega) (by omega)) ?_;rintro⟨be,bi⟩ g2;simp only at g2 ⊢;refine Bo (S:=λr=>r.2.2.2.length=n/\(∀x∈r.2.2.2,CS x)/\BG (k+30) (r.1,r.2.1,r.2.2.1)) ?_ ?_
 ·refine Dg n (λi s=>s.2.2.2.2=(i:Int)/\s.1.length=i/\(∀x∈s.1,CS x)/\BG (k+2+5*i) (s.2.1,s.2.2.1,s.2.2.2.1)) ⟨V,V,by simp,g2⟩ (by omega) ?_ ?_
  ·rintro i ⟨az,l,t,ag,c⟩ hi ⟨al,am,ap,K⟩;simp only at al am ap K;subst al;unfold PQ;refine Cb (by simp only;omega) (Bo (Lf K (by omega) (by omega)) ?_);rintro⟨c,bn⟩ ⟨c1,c2,aq⟩;simp only at c1 c2 aq ⊢;obtain⟨c,rfl⟩:∃m:Nat,c=(m:Int):=⟨c.toNat,by omega⟩;refine Bo (S:=λr=>CS r.1/\BG (k+2+5*i+1+c) r.2) ?_ ?_
   ·refine Dg c (λj s=>s.2.2.2.2=((c - j:Nat):Int)/\s.2.2.2.1.length=j/\(∀v∈s.2.2.2.1,1<=v/\v<=9)/\BG (k+2+5*i+1+j) (s.1,s.2.1,s.2.2.1)) ⟨V,V,by simp,aq⟩ (by omega) ?_ ?_
    ·rintro j ⟨l,t,ag,w,z⟩ a4 ⟨U,hw,O,K⟩;simp only at U hw O K;subst U;unfold Qd;refine Cb (by simp only;omega) (Bo (S:=λr=>r.1.length=j+1/\(∀v∈r.1,1<=v/\v<=9)/\BG (k+2+5*i+1+(j+1)) r.2) ?_ ?_)
     ·refine Cl (λ_=>?_) (λ_=>?_)
      ·refine Km (by simp only;omega) (Av ⟨by simp [hw],?_,K.Ah (by omega)⟩);intro v h;rcases List.mem_append.1 h with h | h
       ·exact O v h
       ·have:=List.mem_singleton.1 h;omega
      ·refine Bo (T6 K (by omega) (by simp) (by simp)) ?_;rintro⟨v,a5⟩ ⟨a0,av⟩;simp only at a0 av ⊢;refine Km (by omega) (Av ⟨by simp [hw],?_,av⟩);intro u h;rcases List.mem_append.1 h with h | h
       ·exact O u h
       ·have:=List.mem_singleton.1 h;subst this;simp only [List.mem_cons,List.not_mem_nil,or_false] at a0;omega
     ·rintro⟨w',l',bo,bv⟩ ⟨Z,aw,ac⟩;simp only at Z ac aw ⊢;exact BA ((c - (j+1):Nat):Int) (by omega) (by omega) (by omega) (Av ⟨V,Z,aw,ac⟩)
    ·rintro⟨l,t,ag,w,z⟩ ⟨U,hw,O,K⟩;simp only at U hw O K;subst U;unfold Qd;exact BR (by simp) (Av ⟨_,V,⟨by simp only;omega,O⟩,K⟩)
   ·rintro⟨w,a5⟩ ⟨Z,ac⟩;simp only at Z ac ⊢;refine Km (by omega) (BA ((i+1:Nat):Int) (by simp) (by omega) (by omega) ?_);refine Av ⟨V,by simp [am],λx Y=>?_,ac.Ah (by omega)⟩;simp only [List.mem_append,List.mem_singleton] at Y;rcases Y with Y | rfl
    ·exact ap x Y
    ·exact Z
  ·rintro⟨az,l,t,ag,c⟩ ⟨al,am,ap,K⟩;simp only at al am ap K;subst al;unfold PQ;exact BR (by simp) (Av ⟨_,V,am,ap,K.Ah (by omega)⟩)
 ·rintro⟨l,t,ag,az⟩ ⟨p1,p2,aq⟩;simp only at p1 p2 aq ⊢;refine Bo (Lf aq (by omega) (by omega)) ?_;rintro⟨c,bw⟩ ⟨c1,c2,av⟩;simp only at c1 c2 av ⊢;obtain⟨c,rfl⟩:∃m:Nat,c=(m:Int):=⟨c.toNat,by omega⟩;refine Bo (S:=λr=>r.2.2.2.length<=dm/\(∀d∈r.2.2.2,VD n d)/\BG (k+100) (r.1,r.2.1,r.2.2.1)) ?_ ?_
  ·refine Dg c (λj s=>s.2.2.2.2=((c - j:Nat):Int)/\s.1.length=j/\(∀d∈s.1,VD n d)/\BG (k+31+4*j) (s.2.1,s.2.2.1,s.2.2.2.1)) ⟨V,V,by simp,av.Ah (by omega)⟩ (by omega) ?_ ?_
   ·rintro j ⟨a1,l,t,ag,z⟩ a4 ⟨U,hw,O,K⟩;simp only at U hw O K;subst U;unfold P6;refine Cb (by simp only;omega) (Bo (aF K (by omega) (by omega) (by omega)) ?_);rintro⟨d,bx⟩ ⟨a2,a3⟩;simp only at a2 a3 ⊢;refine BB.Ly (by simp;omega) (BA ((c - (j+1):Nat):Int) (by omega) (by omega) (by omega) ?_);refine Av ⟨V,by simp [hw],?_,a3.Ah (by omega)⟩;intro x Y;rcases List.mem_append.1 Y with Y | Y
    ·exact O x Y
    ·cases List.mem_singleton.1 Y;exact a2
   ·rintro⟨a1,l,t,ag,z⟩ ⟨U,hw,O,K⟩;simp only at U hw O K;subst U;unfold P6;exact BR (by simp) (Av ⟨_,V,by simp only;omega,O,K.Ah (by omega)⟩)
  ·rintro⟨l,t,ag,a1⟩ ⟨Z,aw,ac⟩;simp only at Z ac aw ⊢;exact Av ⟨⟨by simp only;omega,by simp only;omega,p2,by simp only;omega,by simp only;rw [p1];exact aw⟩,by simp only;omega,Z,ac⟩
abbrev PR:=Int×Int
def gN(l:List Int)(i:Nat):Int:=l.getD i 0
def IW(l:List Int)(i v:Int):List Int:=l.set i.toNat (gN l i.toNat+v)
def BN(B:Int)(l:List Int):Prop:=l.length=5/\∀x∈l,-B<=x/\x<=B
theorem NP{l:List Int}{i:Nat}(h:i<l.length):gN l i=l[i]:=by unfold gN;rw [List.getD_eq_getElem?_getD,List.getElem?_eq_getElem h];rfl
theorem BN.bd{B:Int}{l:List Int}(h:BN B l){i:Nat}(hi:i<5): -B<=gN l i/\gN l i<=B:=by
 rw [NP (by have:=h.1;omega)];exact h.2 _ (List.getElem_mem _)
theorem BN.ix{B:Int}{l:List Int}(h:BN B l){i:Int}(K:0<=i)(hi:i<5):ix l i=some (gN l i.toNat):=by
 have:=h.1;rw [NP (show i.toNat<l.length by omega)];exact EX (m:=i.toNat) (by omega) (List.getElem?_eq_getElem _)
theorem BN.Ah{B C:Int}{l:List Int}(h:BN B l)(O:B<=C):BN C l:=⟨h.1,λx K=>by have:=h.2 x K;omega⟩
theorem BN.add{B V:Int}{l:List Int}(h:BN B l){i v:Int}(O:0<=i)(hi:i<5)(U: -V<=v)(Y:v<=V):BN (B+V) (IW l i v):=by
 have hb:=h.bd (i:=i.toNat) (by omega);refine⟨by unfold IW;rw [List.length_set];exact h.1,λx K=>?_⟩;rcases List.mem_or_eq_of_mem_set K with K | rfl
 ·have:=h.2 x K;omega
 ·omega
theorem TS{l:List Int}{i v:Int}(h:l.length=5)(K:0<=i)(hi:i<5)(j:Nat):gN (IW l i v) j=gN l j+if(j:Int)=i then v else 0:=by
 unfold IW gN;rw [List.getD_eq_getElem?_getD,List.getElem?_set,List.getD_eq_getElem?_getD,List.getD_eq_getElem?_getD];by_cases e:i.toNat=j
 ·rw [if_pos e,if_pos (by omega),if_pos (by omega),e];rfl
 ·rw [if_neg e,if_neg (by omega),Int.add_zero]
theorem Xs{l l':List Int}(h:l.length=5)(U:l'.length=5)(k:∀j,j<5->gN l j=gN l' j):l=l':=by
 refine List.ext_getElem (by omega) λj K O=>?_;rw [← NP K,← NP O];exact k j (by omega)
def Oh(l:List Int)(d:DT):List Int:=IW (IW l d.1 d.2.2) d.2.1 (-d.2.2)
def KH(l:List Int)(d:DT):List Int:=IW (IW l d.2.1 d.2.2) d.1 (-d.2.2)
def CO(o:OW):List Int:=o.2.foldl KH (List.replicate 5 0)
theorem S7{F:Nat}{B:Int}{l:List Int}{d:DT}(h:BN B l)(a1:0<=d.1)(O:d.1<5)(U:0<=d.2.1)(Y:d.2.1<5)(p1: -B<=d.2.2)(p2:d.2.2<=B)(Z:B<=1000000000000):f204 F l d=some (Oh l d)/\BN (3*B) (Oh l d):=by
 have K:=h.add a1 O p1 p2;have g2:=K.add U Y (show -B<= -d.2.2 by omega) (by omega);have k1:=h.bd (i:=d.1.toNat) (by omega);have ac:=K.bd (i:=d.2.1.toNat) (by omega);refine⟨?_,g2.Ah (by omega)⟩;refine DU ?_;unfold f204;refine Bc (h.ix a1 O) ?_;refine BA _ V (by omega) (by omega) ?_;refine Bc (h.ix a1 O) ?_;refine Bc (K.ix U Y) ?_;refine BA _ V (by omega) (by omega) ?_;refine Bc (K.ix U Y) ?_;exact Av V
theorem Lc{F:Nat}{o:OW}(ac:100<F)(h:VO o):f84 F o=some (CO o)/\BN 200 (CO o):=by
 have ag:=h.n5;have al:=h.d8;have:BB (f84 F o) (λr=>r=CO o/\BN 200 r):=by
  unfold f84;refine Bo (S:=λr=>r=CO o/\BN 200 r) ?_ (λr U=>Av U);refine Dg o.2.length (λi s=>s.2=(i:Int)/\s.1=(o.2.take i).foldl KH (List.replicate 5 0)/\BN (20*i) s.1) ⟨rfl,rfl,rfl,by simp⟩ (by omega) ?_ ?_
  ·rintro i ⟨w,c⟩ hi ⟨K,hw,hb⟩;simp only at K hw hb;subst K;obtain⟨v1,v2,am,v4,ap,v6,aq⟩:=h.ds _ (List.getElem_mem hi);have O:=hb.add (i:=o.2[i].2.1) (v:=o.2[i].2.2) (V:=10) (by omega) (by omega) (by omega) (by omega);have g2:=O.add (i:=o.2[i].1) (v:= -o.2[i].2.2) (V:=10) (by omega) (by omega) (by omega) (by omega);have k1:=hb.bd (i:=o.2[i].2.1.toNat) (by omega);have av:=O.bd (i:=o.2[i].1.toNat) (by omega);unfold NQ;refine Cb (by simp only;omega) (C6 (m:=i) rfl hi ?_);refine Bc (hb.ix (by omega) (by omega)) (BA _ rfl (by omega) (by omega) ?_);refine Bc (hb.ix (by omega) (by omega)) (Bc (O.ix (by omega) (by omega)) ?_);refine BA _ rfl (by omega) (by omega) (Bc (O.ix (by omega) (by omega)) ?_);refine BA ((i+1:Nat):Int) (by simp) (by omega) (by omega) (Av ⟨rfl,?_,g2.Ah (by omega)⟩);simp only;rw [List.take_add_one,List.getElem?_eq_getElem hi,List.foldl_append,← hw]
   rfl
  ·rintro⟨w,c⟩ ⟨K,hw,hb⟩;simp only at K hw hb;subst K;unfold NQ;rw [List.take_length] at hw;exact BR (by simp) (Av ⟨_,rfl,hw,hb.Ah (by omega)⟩)
 obtain⟨r,Y,rfl,Z⟩:=this;exact⟨Y,Z⟩
theorem W0{l:List Int}{i:Nat}(hi:i<l.length):(l.take (i+1)).sum=(l.take i).sum+l[i]:=by
 rw [List.take_add_one,List.getElem?_eq_getElem hi,List.sum_append];simp only [Option.toList_some,List.sum_cons,List.sum_nil];omega
theorem aM{F:Nat}{l:List Int}(ag:100<F)(al:l.length<=20)(hb:∀x∈l,-1000<=x/\x<=1000):f85 F l=some l.sum/\ -20000<=l.sum/\l.sum<=20000:=by
 have:BB (f85 F l) (λr=>r=l.sum/\ -20000<=r/\r<=20000):=by
  unfold f85;refine Bo (S:=λr=>r=l.sum/\ -20000<=r/\r<=20000) ?_ (λr Y=>Av Y);refine Dg l.length (λi s=>s.2=(i:Int)/\s.1=(l.take i).sum/\ -(1000*(i:Int))<=s.1/\s.1<=1000*(i:Int)) ⟨V,V,by simp,by simp⟩ (by omega) ?_ ?_
  ·rintro i ⟨w,c⟩ hi ⟨K,hw,O,U⟩;simp only at K hw O U;subst K;have am:=hb _ (List.getElem_mem hi);unfold NH;refine Cb (by simp only;omega) (C6 (m:=i) V hi ?_);refine BA _ V (by omega) (by omega) (BA ((i+1:Nat):Int) (by simp) (by omega) (by omega) ?_);refine Av ⟨V,?_,?_,?_⟩
   ·simp only;rw [W0 hi,hw]
   ·simp only;omega
   ·simp only;omega
  ·rintro⟨w,c⟩ ⟨K,hw,O,U⟩;simp only at K hw O U;subst K;unfold NH;rw [List.take_length] at hw;exact BR (by simp) (Av ⟨_,V,hw,by simp only;omega,by simp only;omega⟩)
 obtain⟨r,Z,rfl,ac⟩:=this;exact⟨Z,ac⟩
def VP(n:Nat)(x:PR):Prop:=0<=x.1/\x.1<x.2/\x.2<(n:Int)
def Ix(b:Nat)(k:Nat):List PR:=(List.range k).map λa:Nat=>((a:Int),(b:Int))
def EV(n:Nat):List PR:=(List.range n).flatMap λb=>Ix b b
theorem Wg(b k:Nat):Ix b (k+1)=Ix b k++ [((k:Int),(b:Int))]:=by unfold Ix;rw [List.range_succ,List.map_append];rfl
theorem Vf(n:Nat):EV (n+1)=EV n++Ix n n:=by unfold EV;rw [List.range_succ,List.flatMap_append];simp
theorem R2{n:Nat}{x:PR}(h:x∈EV n):VP n x:=by
 unfold EV Ix at h;obtain⟨b,hb,h⟩:=List.mem_flatMap.1 h;obtain⟨a,K,rfl⟩:=List.mem_map.1 h;have:=List.mem_range.1 hb;have:=List.mem_range.1 K;exact⟨by simp only;omega,by simp only;omega,by simp only;omega⟩
theorem SC(b k:Nat):(Ix b k).length=k:=by unfold Ix;simp
theorem Ri{n:Nat}(h:n<=5):(EV n).length<=10:=by
 have e:∀n,n<=5->(EV n).length<=n*2:=by
  intro n K
  match n,K with
  | 0,_ | 1,_ | 2,_ | 3,_ | 4,_ | 5,_=>decide
 have:=e n h;omega
theorem X8{F:Nat}{o:OW}(Z:100<F)(ac:o.1.length<=5):f133 F o=some (EV o.1.length):=by
 refine DU ?_;unfold f133;refine Bo (S:=λr=>r=EV o.1.length) ?_ (λr Y=>Av Y);refine Dg o.1.length (λi s=>s.2=(i:Int)/\s.1=EV i/\s.1.length<=10*i) ⟨V,V,by simp⟩ (by omega) ?_ ?_
 ·rintro i ⟨w,c⟩ hi ⟨K,hw,U⟩;simp only at K hw U;subst K;unfold Nt;refine Cb (by simp only;omega) (Bo (S:=λr=>r=EV i++Ix i i) ?_ ?_)
  ·refine Dg i (λa s=>s.2=(a:Int)/\s.1=EV i++Ix i a) ⟨V,by simp [Ix,hw]⟩ (by omega) ?_ ?_
   ·rintro a ⟨v,c⟩ ag ⟨K,O⟩;simp only at K O;subst K;unfold NA;refine Cb (by simp only;omega) (Km ?_ ?_)
    ·rw [O,← hw,List.length_append,SC];omega
    refine BA ((a+1:Nat):Int) (by simp) (by omega) (by omega) (Av ⟨V,?_⟩);simp only;rw [Wg,O,List.append_assoc]
   ·rintro⟨v,c⟩ ⟨K,O⟩;simp only at K O;subst K;unfold NA;exact BR (by simp) (Av ⟨_,V,O⟩)
  ·rintro r rfl;refine BA ((i+1:Nat):Int) (by simp) (by omega) (by omega) (Av ⟨V,(Vf i).symm,?_⟩);simp only;rw [List.length_append,SC,← hw];omega
 ·rintro⟨w,c⟩ ⟨K,hw,U⟩;simp only at K hw U;subst K;unfold Nt;exact BR (by simp) (Av ⟨_,V,hw⟩)
def BY(p:Int)(x:PR):Bool:=decide (x.1=p) || decide (x.2=p)
theorem Q8{α:Type}{p:α->Bool}:∀{l:List α} {a:Nat},l.countP p=1->∀O:a<l.length,p l[a]=true->l.findIdx p=a
 | x::xs,0,_,_,K=>by
  have K:p x=true:=K
  rw [List.findIdx_cons,K];rfl
 | x::xs,a+1,h,O,K=>by
  have K:p (xs[a]'(by simpa using O))=true:=K
  have Y:0<xs.countP p:=List.countP_pos_iff.2 ⟨_,List.getElem_mem _,K⟩
  by_cases U:p x=true
  ·rw [List.countP_cons_of_pos U] at h;omega
  ·rw [List.countP_cons_of_neg U] at h;rw [List.findIdx_cons,Bool.eq_false_iff.2 U];simp only [cond_false];rw [Q8 h (by simpa using O) K]
def Kv(n:Nat)(l:List PR):Option Nat:=(List.range n).find? λp=>l.countP (BY p)==1
def dP(p:Int)(x:PR)(m:Int):DT:=if 0<m then(x.1+x.2 - p,p,m) else(p,x.1+x.2 - p,-m)
def GC(n:Nat):Nat->List PR->List Int->List DT->Option (List DT)
 | 0,_,w,out=>if w=List.replicate 5 0 then some out else none
 | k+1,l,w,out=>(Kv n l).bind λp=>
   if gN w p=0 then none else
    GC n k (l.eraseIdx (l.findIdx (BY p))) (Oh w (dP p (l.getD (l.findIdx (BY p)) (0,0)) (gN w p))) (out++ [dP p (l.getD (l.findIdx (BY p)) (0,0)) (gN w p)])
def Mt:Option (List DT)->Bool×List Int×List DT
 | none=>(true,default)
 | some out=>(false,List.replicate 5 0,out)
theorem V5{F:Nat}{l:List PR}{p:Int}(am:100<F)(ap:l.length<=20):BB (Pal.iter (L5 F l p) F (0,0,0)) (λr=>r.2=((l.countP (BY p):Nat):Int)/\(r.2=1->r.1=(l.findIdx (BY p):Nat)/\l.findIdx (BY p)<l.length)):=by
 refine Dg l.length (λi s=>s.2.2=(i:Int)/\s.2.1=(((l.take i).countP (BY p):Nat):Int)/\(s.2.1≠0->∃a,s.1=((a:Nat):Int)/\∃h:a<l.length,BY p l[a]=true)) ⟨V,by simp,by simp⟩ (by omega) ?_ ?_
 ·rintro i ⟨a,m,c⟩ hi ⟨K,hm,O⟩;simp only at K hm O;subst K;have hle:(l.take i).countP (BY p)<=i:=by
   refine Nat.le_trans List.countP_le_length ?_;rw [List.length_take];omega
  unfold L5;refine Cb (by simp only;omega) (C6 (m:=i) V hi ?_);refine Bo (S:=λc=>c=BY p l[i]) ?_ ?_
  ·unfold BY;refine Cl (λh=>Av (by simp [h])) (λh=>Av (by simp [h]))
  rintro c rfl;have key:(l.take (i+1)).countP (BY p)=(l.take i).countP (BY p)+if BY p l[i]=true then 1 else 0:=by
   rw [List.take_add_one,List.getElem?_eq_getElem hi,List.countP_append];simp only [Option.toList_some,List.countP_cons,List.countP_nil,Nat.zero_add]
  refine Bo (S:=λr=>r.2=(((l.take (i+1)).countP (BY p):Nat):Int)/\(r.2≠0->∃a,r.1=((a:Nat):Int)/\∃h:a<l.length,BY p l[a]=true)) ?_ ?_
  ·refine Cl (λh=>?_) (λh=>?_)
   ·refine BA (((l.take (i+1)).countP (BY p):Nat):Int) ?_ (by omega) ?_ (Av ⟨V,λ_=>⟨i,V,hi,h⟩⟩)
    ·rw [key,if_pos h,hm];rfl
    ·rw [key,if_pos h];omega
   ·exact Av ⟨by rw [key,if_neg h];exact hm,O⟩
  ·rintro⟨aq,m'⟩ ⟨U,Y⟩;simp only at U Y ⊢;exact BA ((i+1:Nat):Int) (by simp) (by omega) (by omega) (Av ⟨V,U,Y⟩)
 ·rintro⟨a,m,c⟩ ⟨K,hm,O⟩;simp only at K hm O;subst K;rw [List.take_length] at hm;unfold L5;refine BR (by simp) (Av ⟨_,V,hm,λac=>?_⟩);simp only at ac;obtain⟨k,ag,Z,al⟩:=O (by omega);have:=Q8 (p:=BY p) (l:=l) (a:=k) (by omega) Z al;simp only;rw [this];exact⟨ag,Z⟩
theorem Vs{n:Nat}{l:List PR}{i:Nat}(hi:i<n)(K:l.countP (BY i)=1)(h:∀p,p<i->l.countP (BY p)≠1):Kv n l=some i:=by
 unfold Kv;rw [List.find?_range_eq_some];exact⟨by simp [K],List.mem_range.2 hi,λj O=>by simpa using h j O⟩
theorem Vw{n:Nat}{l:List PR}(h:∀p,p<n->l.countP (BY p)≠1):Kv n l=none:=by
 unfold Kv;rw [List.find?_eq_none];intro p K;simpa using h p (List.mem_range.1 K)
theorem Ul{n:Nat}{p:Nat}{x:PR}{m B:Int}(U:n<=5)(O:VP n x)(K:BY p x=true)(Y: -B<=m)(Z:m<=B):0<=(dP p x m).1/\(dP p x m).1<5/\0<=(dP p x m).2.1/\(dP p x m).2.1<5/\0<=(dP p x m).2.2/\(dP p x m).2.2<=B:=by
 obtain⟨v1,v2,ac⟩:=O;unfold BY at K;simp at K;unfold dP;split <;> simp only <;> omega
theorem Sb{α:Type}{l:List α}{i:Nat}{d:α}(h:i<l.length):l.getD i d=l[i]:=by rw [List.getD_eq_getElem?_getD,List.getElem?_eq_getElem h];rfl
theorem Tp{F n:Nat}{q:OW}(Z:100<F)(az:q.1.length=n)(am:n<=5):∀(k N:Nat) (l:List PR) (w:List Int) (out:List DT) (B:Int),l.length=k->k<N->k<=10->(∀x∈l,VP n x)->BN B w->0<=B->B*3 ^ k<=1000000000000->out.length+k<=100->Lb N F l w q out=some (Mt (GC n k l w out))
 | 0,N,l,w,out,B,a0,a1,_,ac,hw,ap,aq,a2=>by
  obtain⟨N,rfl⟩:∃k,N=k+1:=⟨N - 1,by omega⟩
  refine DU ?_
  simp only [Lb]
  unfold Mb GC
  refine Cb (by omega) ?_
  refine Cl (λh=>Av ?_) (λh=>Av ?_)
  ·rw [if_neg h];rfl
  ·have h:=Decidable.not_not.1 h;rw [if_pos h,h];rfl
 | k+1,N,l,w,out,B,a0,a1,bo,ac,hw,ap,aq,a2=>by
  obtain⟨N,rfl⟩:∃k,N=k+1:=⟨N - 1,by omega⟩;refine DU ?_;simp only [Lb];unfold Mb;refine BR (by omega) ?_;have a3:B*3 ^ (k+1)=(3*B)*3 ^ k:=by rw [Int.pow_succ];rw [Int.mul_comm (3 ^ k) 3,← Int.mul_assoc,Int.mul_comm B 3]
  have a4:B<=1000000000000:=by
   have ag:(1:Int)<=3 ^ (k+1):=by
    have:(0:Int)<3 ^ (k+1):=Int.pow_pos (by decide);omega
   have:=Int.mul_le_mul_of_nonneg_left ag ap;omega
  refine Bo (S:=λr=>r=Sum.inl (Mt (GC n (k+1) l w out))∨(r=Sum.inr ()/\Kv n l=none)) ?_ ?_
  ·refine Dg n (λi s=>s=(i:Int)/\∀p,p<i->l.countP (BY (p:Nat))≠1) ⟨V,by simp⟩ (by omega) ?_ ?_
   ·rintro i s hi ⟨rfl,O⟩;unfold Nl;refine Cb (by omega) (Bo (S:=λr=>(r=Sum.inr ()/\l.countP (BY i)≠1)∨r=Sum.inl (Mt (GC n (k+1) l w out))) ?_ ?_)
    ·refine Bo (V5 Z (by omega)) ?_;rintro⟨a,m⟩ ⟨av,U⟩;simp only at av U ⊢;refine Cl (λh=>Av (.inl ⟨V,λag=>h (by rw [av,ag];rfl)⟩)) (λh=>?_);have h:=Decidable.not_not.1 h;obtain⟨U,K⟩:=U h;have a5:l.countP (BY i)=1:=by omega
     subst U;have a6:=Vs hi a5 O;refine C6 (m:=l.findIdx (BY i)) V K (C6 (m:=l.findIdx (BY i)) V K ?_);have a7:BY i l[l.findIdx (BY i)]=true:=List.findIdx_getElem;have Y:=ac _ (List.getElem_mem K);have a8:=Y;obtain⟨bv,x2,bw⟩:=a8;have hb:=hw.bd (i:=i) (by omega);refine BA (-(i:Int)) V (by omega) (by omega) (Bc (hw.ix (by omega) (by omega)) ?_);rw [show Int.toNat (i:Int)=i by omega];refine Bc (aM (l:= [_,_,_]) Z (by simp) (by simp;omega)).1 (BA (-(gN w i)) V (by omega) (by omega) ?_);have aw:GC n (k+1) l w out=if gN w i=0 then none else GC n k (l.eraseIdx (l.findIdx (BY i))) (Oh w (dP i l[l.findIdx (BY i)] (gN w i))) (out++ [dP i l[l.findIdx (BY i)] (gN w i)]):=by
      simp only [GC,a6,Option.bind_some,Sb K]
     refine Cl (λh=>Av (.inr ?_)) (λh=>?_)
     ·rw [aw,if_pos (by omega)];rfl
     have ay:=aw;rw [if_neg (show ¬gN w i=0 by omega)] at ay;rw [ay];refine Bo (S:=λr=>r=dP i l[l.findIdx (BY i)] (gN w i)) ?_ ?_
     ·unfold dP;refine Cl (λh=>?_) (λh=>?_)
      ·refine BA (gN w i) (by omega) (by omega) (by omega) (Av ?_);rw [if_pos (by omega)];simp only [List.sum_cons,List.sum_nil];refine Prod.ext ?_ V;simp only;omega
      ·refine Av ?_;rw [if_neg (by omega)];simp only [List.sum_cons,List.sum_nil];refine Prod.ext V (Prod.ext ?_ V);simp only;omega
     rintro d rfl;obtain⟨a9,e2,bb,be,bx,bi⟩:=Ul am Y a7 hb.1 hb.2;obtain⟨bn,g2⟩:=S7 (F:=F) hw a9 e2 bb be (by omega) bi a4;refine Bc bn (BB.Ly (by simp;omega) ?_);refine Bc (b:=l.take (l.findIdx (BY i))) (by unfold Gl;rw [if_pos (by omega)];simp) (BA ((l.findIdx (BY i)+1:Nat):Int) (by simp) (by omega) (by omega) ?_);refine Bc (b:=l.drop (l.findIdx (BY i)+1)) ?_ ?_
     ·unfold Gl;rw [if_pos (by omega),show Int.toNat (l.length:Int)=l.length by omega,List.take_length,show Int.toNat ((l.findIdx (BY i)+1:Nat):Int)=l.findIdx (BY i)+1 by omega]
     refine BB.Ly (by simp;omega) ?_;have he:l.take (l.findIdx (BY i))++l.drop (l.findIdx (BY i)+1)=l.eraseIdx (l.findIdx (BY i)):=(List.eraseIdx_eq_take_drop_succ _ _).symm;rw [he];have hle:(l.eraseIdx (l.findIdx (BY i))).length=k:=by rw [List.length_eraseIdx_of_lt K];omega
     refine Bc (Tp Z az am k N _ _ _ (3*B) hle (by omega) (by omega) (λx Y=>ac x (List.mem_of_mem_eraseIdx Y)) g2 (by omega) (by rw [← a3];exact aq) (by simp;omega)) ?_;rcases GC n k _ _ _ with _ | r
     ·exact Cb V (Av (.inr V))
     ·exact BR (by simp [Mt]) (Av (.inr V))
    ·rintro r (⟨rfl,h⟩ | rfl)
     ·rw [Sum.elim_inr];refine BA ((i+1:Nat):Int) (by simp) (by omega) (by omega) (Av ⟨V,λp al=>?_⟩);rcases Nat.lt_succ_iff_lt_or_eq.1 al with al | rfl
      ·exact O p al
      ·exact h
     ·rw [Sum.elim_inl];exact Av (.inl V)
   ·rintro s ⟨rfl,O⟩;unfold Nl;exact BR (by omega) (Av ⟨_,V,.inr ⟨V,Vw O⟩⟩)
  ·rintro r (rfl | ⟨rfl,h⟩)
   ·rw [Sum.elim_inl];exact Av V
   ·rw [Sum.elim_inr];refine Av ?_;simp only [GC,h,Option.bind_none]
    rfl
def BD(d:DT):Prop:= -1000000000000000<=d.1/\d.1<=1000000000000000/\ -1000000000000000<=d.2.1/\d.2.1<=1000000000000000/\ -1000000000000000<=d.2.2/\d.2.2<=1000000000000000
theorem Pp{n:Nat}(ac:n<=5):∀(k:Nat) (l:List PR) (w:List Int) (out r:List DT) (B:Int),l.length=k->(∀x∈l,VP n x)->BN B w->0<=B->B*3 ^ k<=1000000000000->(∀d∈out,BD d)->GC n k l w out=some r->(∀d∈r,BD d)/\r.length=out.length+k
 | 0,l,w,out,r,B,ap,O,hw,ag,al,U,h=>by
  unfold GC at h
  split at h
  ·cases h;exact⟨U,V⟩
  ·cases h
 | k+1,l,w,out,r,B,ap,O,hw,ag,al,U,h=>by
  have aq:B*3 ^ (k+1)=(3*B)*3 ^ k:=by rw [Int.pow_succ];rw [Int.mul_comm (3 ^ k) 3,← Int.mul_assoc,Int.mul_comm B 3]
  have av:B<=1000000000000:=by
   have aw:(1:Int)<=3 ^ (k+1):=by
    have:(0:Int)<3 ^ (k+1):=Int.pow_pos (by decide);omega
   have:=Int.mul_le_mul_of_nonneg_left aw ag;omega
  unfold GC at h;obtain⟨p,am,h⟩:=bind_some h;split at h
  ·cases h
  unfold Kv at am;obtain⟨c1,c2,c3⟩:=List.find?_range_eq_some.1 am;have a3:l.countP (BY p)=1:=by simpa using c1
  have c2:=List.mem_range.1 c2;have Y:l.findIdx (BY p)<l.length:=by
   obtain⟨x,K,Z⟩:=List.countP_pos_iff.1 (show 0<l.countP (BY p) by omega);exact List.findIdx_lt_length_of_exists ⟨x,K,Z⟩
  rw [Sb Y] at h;have Z:BY p l[l.findIdx (BY p)]=true:=List.findIdx_getElem;have K:=O _ (List.getElem_mem Y);have hb:=hw.bd (i:=p) (by omega);obtain⟨ay,e2,az,a0,a4,a1⟩:=Ul ac K Z hb.1 hb.2;obtain⟨a5,g2⟩:=S7 (F:=0) hw ay e2 az a0 (by omega) a1 av;obtain⟨k1,a2⟩:=Pp ac k _ _ _ r (3*B) (by rw [List.length_eraseIdx_of_lt Y];omega) (λx K=>O x (List.mem_of_mem_eraseIdx K)) g2 (by omega) (by rw [← aq];exact al) (by
   intro d hd
   rcases List.mem_append.1 hd with hd | hd
   ·exact U d hd
   ·cases List.mem_singleton.1 hd
    refine⟨?_,?_,?_,?_,?_,?_⟩ <;> omega) h
  refine⟨k1,?_⟩;rw [a2];simp;omega
theorem Rc{α:Type}(l:List α):l= []∨∃A y,l=A++ [y]:=by
 rcases List.eq_nil_or_concat l with h | ⟨A,y,h⟩
 ·exact .inl h
 ·exact .inr ⟨A,y,by rw [h,List.concat_eq_append]⟩
def On{α:Type}(less:α->α->Option Bool)(s:Int×List α):Option (Bm (Int×List α) (List α)):=
 Option.bind (
  if 0<s.1 then(
   (ix s.2 (s.1)).bind λx=>
   (Ax (s.1 - 1)).bind λj=>
   (ix s.2 (j)).bind λy=>
   (less x y).bind λc=>
   some c
  ) else(
   some false
  )
 ) λc=>
 if c=true then(
  (Ax (s.1 - 1)).bind λj=>
  (Ax (s.1 - 1)).bind λk=>
  (ix s.2 (k)).bind λy=>
  (ix s.2 (s.1)).bind λx=>
  (ix (s.2.set (Int.toNat s.1) y) (j)).bind λ_=>
  (Ax (s.1 - 1)).bind λm=>
  some (.more (m,((s.2.set (Int.toNat s.1) y).set (Int.toNat j) x)))
 ) else(
  some (.done s.2)
 )
theorem YX{α:Type}{less:α->α->Option Bool}{lt:α->α->Bool}{F:Nat}{P:List α}{x:α}(R:List α)(aw:P.length<F)(ay:P.length<=1024)(ap:∀y∈P,less x y=some (lt x y)):
  BB (Pal.iter (On less) F ((P.length:Int),P++x::R)) (λr=>∃A B,P=A++B/\r=A++x::(B++R)/\(∀b∈B,lt x b=true)/\(A= []∨∃K y,A=K++ [y]/\lt x y=false)):=by
 refine Pr (λm s=>∃A B,A.length=m/\s.1=((m:Nat):Int)/\s.2=A++x::(B++R)/\P=A++B/\∀b∈B,lt x b=true) ?_ (m:=P.length) ⟨P,[],V,V,V,by simp,by simp⟩ (by omega);rintro m ⟨c,v⟩ ⟨A,B,U,ag,O,Y,al⟩;simp only at ag O;subst ag;have az:A.length+B.length=P.length:=by rw [Y,List.length_append]
 have am:v[m]? =some x:=by rw [O,List.getElem?_append_right (by omega),U,Nat.sub_self];rfl
 unfold On;refine Bo (S:=λc=>(c=true/\∃K y,A=K++ [y]/\lt x y=true)∨(c=false/\(A= []∨∃K y,A=K++ [y]/\lt x y=false))) ?_ ?_
 ·refine Cl (λh=>?_) (λh=>?_)
  ·simp only at h;rcases Rc A with rfl | ⟨K,y,rfl⟩
   ·simp at U;omega
   have aq:K.length+1=m:=by simpa using U
   have ac:v[m - 1]? =some y:=by rw [O,List.append_assoc,List.getElem?_append_right (by omega),show m - 1 - K.length=0 by omega];rfl
   refine Bc (EX V am) (BA ((m - 1:Nat):Int) (by simp only;omega) (by omega) (by omega) ?_);refine Bc (EX V ac) (Bc (ap y (by rw [Y];simp)) ?_);refine Av ?_;cases Z:lt x y with
   | true=>exact .inl ⟨rfl,K,y,rfl,Z⟩
   | false=>exact .inr ⟨rfl,.inr ⟨K,y,rfl,Z⟩⟩
  ·refine Av (.inr ⟨V,.inl ?_⟩);cases A with
   | nil=>rfl
   | cons a A=>simp at U h;omega
 ·rintro c (⟨rfl,K,y,rfl,Z⟩ | ⟨rfl,av⟩)
  ·have aq:K.length+1=m:=by simpa using U
   have ac:v[m - 1]? =some y:=by rw [O,List.append_assoc,List.getElem?_append_right (by omega),show m - 1 - K.length=0 by omega];rfl
   have a0:m<v.length:=by rw [O];simp;omega
   refine Cb V (BA ((m - 1:Nat):Int) (by simp only;omega) (by omega) (by omega) ?_);refine BA ((m - 1:Nat):Int) (by simp only;omega) (by omega) (by omega) (Bc (EX V ac) ?_);refine Bc (EX V am) (C6 (m:=m - 1) V (by simp only [List.length_set];omega) ?_);refine BA ((m - 1:Nat):Int) (by simp only;omega) (by omega) (by omega) (Av ⟨m - 1,by omega,K,y::B,by omega,V,?_,by rw [Y];simp,λb hb=>?_⟩)
   ·simp only;rw [show Int.toNat ((m:Nat):Int)=K.length+1 by omega,show Int.toNat ((m - 1:Nat):Int)=K.length by omega,O];simp
   ·rcases List.mem_cons.1 hb with rfl | hb
    ·exact Z
    ·exact al b hb
  ·exact BR (by simp) (Av ⟨A,B,Y,O,al,av⟩)
def Hq(a b:DT):Bool:=decide (a.1<b.1∨(a.1=b.1/\(a.2.1<b.2.1∨(a.2.1=b.2.1/\a.2.2<b.2.2))))
theorem Tu{a b:DT}:Hq a b=true↔a.1<b.1∨(a.1=b.1/\(a.2.1<b.2.1∨(a.2.1=b.2.1/\a.2.2<b.2.2))):=by unfold Hq;exact decide_eq_true_iff
theorem La{a b:DT}:Hq a b=false↔¬(a.1<b.1∨(a.1=b.1/\(a.2.1<b.2.1∨(a.2.1=b.2.1/\a.2.2<b.2.2)))):=by unfold Hq;exact decide_eq_false_iff_not
theorem Tw{F:Nat}{a b:DT}(K:BD a)(hb:BD b):BB (f113 F a b) (λc=>(c<0↔Hq a b=true)/\(c=0↔a=b)):=by
 obtain⟨a1,O,U,Y,Z,ac⟩:=K;obtain⟨ag,al,am,ap,aq,av⟩:=hb;obtain⟨ax,ay,az⟩:=a;obtain⟨a0,a2,a3⟩:=b;simp only at a1 O U Y Z ac ag al am ap aq av;unfold f113;simp only [Tu,Prod.mk.injEq];refine Cl (λh=>?_) (λh=>?_)
 ·exact BA _ V (by omega) (by omega) (Av ⟨by omega,by omega⟩)
 refine Cl (λaw=>?_) (λaw=>?_)
 ·exact BA _ V (by omega) (by omega) (Av ⟨by omega,by omega⟩)
 ·exact BA _ V (by omega) (by omega) (Av ⟨by omega,by omega⟩)
def GI(x:DT):List DT->List DT
 | []=> [x]
 | y::ys=>if Hq x y=true then x::y::ys else y::GI x ys
def EY(l:List DT):List DT:=l.foldl (λa x=>GI x a) []
def MB(l:List DT):Prop:=l.Pairwise λa b=>Hq b a=false
theorem Pj{x d:DT}:∀{l:List DT},d∈GI x l↔d=x∨d∈l
 | []=>by simp [GI]
 | y::ys=>by
  unfold GI
  split
  ·simp
  ·rw [List.mem_cons,Pj,List.mem_cons];constructor
   ·rintro(h | h | h)
    ·exact .inr (.inl h)
    ·exact .inl h
    ·exact .inr (.inr h)
   ·rintro(h | h | h)
    ·exact .inr (.inl h)
    ·exact .inl h
    ·exact .inr (.inr h)
theorem Sl{x:DT}:∀{l:List DT},(GI x l).length=l.length+1
 | []=>rfl
 | y::ys=>by
  unfold GI
  split
  ·rfl
  ·rw [List.length_cons,Sl];rfl
theorem SV{x:DT}:∀{l:List DT},MB l->MB (GI x l)
 | [],_=>List.pairwise_singleton _ _
 | y::ys,h=>by
  obtain⟨U,Y⟩:=List.pairwise_cons.1 h
  unfold GI
  split
  ·rename_i O
   refine List.pairwise_cons.2 ⟨λz K=>?_,h⟩;have O:=Tu.1 O;rcases List.mem_cons.1 K with rfl | K
   ·rw [La];omega
   ·have:=La.1 (U z K);rw [La];omega
  ·rename_i O;refine List.pairwise_cons.2 ⟨λz K=>?_,SV Y⟩;rcases Pj.1 K with rfl | K
   ·exact Bool.eq_false_iff.2 O
   ·exact U z K
theorem SD{x:DT}{B:List DT}(K:∀b∈B,Hq x b=true):∀{A:List DT},(∀a∈A,Hq x a=false)->GI x (A++B)=A++x::B
 | [],_=>by
  cases B with
  | nil=>rfl
  | cons b bs=>simp only [List.nil_append,GI,K b List.mem_cons_self,if_true]
 | a::A,O=>by
  have U:=O a List.mem_cons_self
  simp only [List.cons_append,GI,U]
  rw [if_neg (by decide),SD K λz Y=>O z (List.mem_cons_of_mem _ Y)]
theorem M6(l:List DT)(x:DT):EY (l++ [x])=GI x (EY l):=by unfold EY;rw [List.foldl_append];rfl
theorem SY:∀{k:Nat},k<=10->(3:Int) ^ k<=59049
 | 0,_ | 1,_ | 2,_ | 3,_ | 4,_ | 5,_ | 6,_ | 7,_ | 8,_ | 9,_ | 10,_=>by decide
 | _+11,h=>absurd h (by omega)
theorem Nk{α:Type}{P:List α->Prop}(O:P [])(U:∀l x,P l->P (l++ [x])):∀l,P l:=by
 have:∀n (l:List α),l.length=n->P l:=by
  intro n
  induction n with
  | zero=>intro l K;cases List.length_eq_zero_iff.1 K;exact O
  | succ n Y=>
   intro l K;rcases Rc l with rfl | ⟨l',x,rfl⟩
   ·cases K
   ·exact U _ _ (Y _ (by simpa using K))
 exact λl=>this _ l V
theorem Xx(l:List DT):MB (EY l):=Nk (P:=λl=>MB (EY l)) List.Pairwise.nil (λl x h=>by rw [M6];exact SV h) l
theorem RQ{d:DT}(l:List DT):d∈EY l↔d∈l:=Nk (P:=λl=>d∈EY l↔d∈l) (Iff.rfl) (λl x h=>by rw [M6,Pj,h];simp [or_comm]) l
theorem RG(l:List DT):(EY l).length=l.length:=Nk (P:=λl=>(EY l).length=l.length) V (λl x h=>by rw [M6,Sl,h];simp) l
theorem WM(F:Nat):Ni F 0=On λx y=>(f113 F x y).bind λc=>some (decide (c<0)):=by
 funext s;unfold Ni On;simp only [Option.bind_assoc,Option.bind_some]
theorem VN{A B:List DT}{x y:DT}(O:MB ((A++ [y])++B))(U:Hq x y=false):∀a∈A++ [y],Hq x a=false:=by
 rw [List.append_assoc] at O;intro a K;rcases List.mem_append.1 K with K | K
 ·have Y:=(List.pairwise_append.1 O).2.2 a K y (by simp);have Z:=La.1 Y;have ac:=La.1 U;rw [La];omega
 ·cases List.mem_singleton.1 K;exact U
theorem Yk{F:Nat}{l:List DT}(az:100<F)(a0:l.length<=20)(hb:∀d∈l,BD d):f193 F l 0 (l.length:Int)=some (EY l):=by
 refine DU ?_;unfold f193;refine BA 1 V (by omega) (by omega) (Bo (S:=λr=>r=EY l) ?_ (λr Y=>Av Y));refine Dg (l.length - 1) (λi s=>s.1=((i+1:Nat):Int)/\s.2=EY (l.take (i+1))++l.drop (i+1)) ⟨V,?_⟩ (by omega) ?_ ?_
 ·cases l with
  | nil=>rfl
  | cons x xs=>rfl
 ·rintro i ⟨c,w⟩ hi ⟨K,hw⟩;simp only at K hw;subst K;have O:i+1<l.length:=by omega
  unfold NF;refine Cb (by simp only;omega) ?_;have Z:l.drop (i+1)=l[i+1]::l.drop (i+2):=List.drop_eq_getElem_cons O;have a1:(EY (l.take (i+1))).length=i+1:=by rw [RG,List.length_take];omega
  have ac:∀d∈EY (l.take (i+1)),BD d:=λd hd=>hb d (List.mem_of_mem_take ((RQ _).1 hd));have ag:BD l[i+1]:=hb _ (List.getElem_mem O);have al:EY (l.take (i+2))=GI l[i+1] (EY (l.take (i+1))):=by
   rw [List.take_add_one (i:=i+1),List.getElem?_eq_getElem O];exact M6 _ _
  have am:=Xx (l.take (i+1));generalize l[i+1]=x at*;generalize EY (l.take (i+1))=P at*;generalize l.drop (i+2)=R at*;refine Bo (S:=λr=>r=GI x P++R) ?_ ?_
  ·rw [WM,hw,Z];have ap:((i+1:Nat):Int)=(P.length:Int):=by omega
   rw [ap];refine(YX (lt:=Hq) R (by omega) (by omega) λy U=>?_).Ah ?_
   ·obtain⟨c,aq,av,_⟩:=Tw (F:=F) ag (ac y U);rw [aq,Option.bind_some];congr 1;rw [Bool.eq_iff_iff,decide_eq_true_eq];exact av
   ·rintro r ⟨A,B,rfl,rfl,aw,ay⟩;rw [SD aw ?_]
    ·simp
    ·rcases ay with rfl | ⟨a2,y,rfl,U⟩
     ·simp
     ·exact VN am U
  ·rintro r rfl;refine BA ((i+1+1:Nat):Int) (by simp) (by omega) (by omega) (Av ⟨V,?_⟩);simp only;rw [al]
 ·rintro⟨c,w⟩ ⟨K,hw⟩;simp only at K hw;subst K;unfold NF;refine BR (by simp only;omega) (Av ⟨_,V,?_⟩);simp only;rw [hw,List.take_of_length_le (by omega),List.drop_eq_nil_of_le (by omega),List.append_nil]
theorem YO{F:Nat}:∀n,n<=12->∃r,f115 F (C3 ((n:Nat):Int))=some r
 | 0,_ | 1,_ | 2,_ | 3,_ | 4,_ | 5,_ | 6,_ | 7,_ | 8,_ | 9,_ | 10,_ | 11,_ | 12,_=>⟨_,rfl⟩
 | _+13,h=>absurd h (by omega)
theorem ak{F:Nat}{l:List DT}(K:100<F)(O:l.length<=12)(hb:∀d∈l,BD d):f90 F l=some (EY l):=by
 obtain⟨F,rfl⟩:∃k,F=k+1:=⟨F - 1,by omega⟩;obtain⟨x,U⟩:=YO (F:=F+1) l.length O;refine DU ?_;unfold f90;refine Bc (b:=l) (by unfold f129 Mr CN;rw [if_pos (by simp;omega)];rfl) (Bc (b:=EY l) ?_ (Av V));refine DU ?_;unfold f130;refine Bc U (Bc (b:=EY l) ?_ (Av V));refine DU ?_;unfold f169;refine Bo (S:=λr=>r=Sum.inl (EY l)) ?_ (by rintro r rfl;rw [Sum.elim_inl];exact Av rfl);refine Dg 0 (λ_ _=>True) trivial (by omega) (by intro i s h;omega) ?_;rintro s -;unfold PD;refine BA (l.length:Int) (by omega) (by omega) (by omega) (Cb (by omega) ?_);exact Bc (Yk K (by omega) hb) (Av ⟨_,V,V⟩)
def Jp(n:Nat)(w:List Int)(S:List PR):Option (List DT):=(GC n S.length S w []).map EY
theorem Yn{F:Nat}{o:OW}{S:List PR}(K:100<F)(h:VO o)(O:S.length<=10)(U:∀x∈S,VP o.1.length x):f135 F o S=some (match Jp o.1.length (CO o) S with | none=>([],false) | some r=>(r,true)):=by
 have Y:=h.n5;obtain⟨ac,g2⟩:=Lc K h;have Z:(200:Int)*3 ^ S.length<=1000000000000:=by
  have:=SY O;omega
 have e:=Tp (q:=o) K rfl Y S.length F S (CO o) [] 200 rfl (by omega) O U g2 (by omega) Z (by simp;omega);have e2:f175 F o S=some (match Jp o.1.length (CO o) S with | none=>(true,default) | some r=>(false,r)):=by
  refine DU ?_;unfold f175;refine Bc ac ?_;refine Bc (show f203 F S (CO o) o []=_ from e) ?_;unfold Jp;rcases ag:GC o.1.length S.length S (CO o) [] with _ | r
  ·exact Cb V (Av V)
  ·refine BR (by simp [Mt]) ?_;obtain⟨k1,al⟩:=Pp Y S.length S (CO o) [] r 200 rfl U g2 (by omega) Z (by simp) ag;exact Bc (ak K (by show r.length<=12;rw [al];simp;omega) k1) (Av V)
 unfold f135;rw [e2,Option.bind_some];rcases Jp o.1.length (CO o) S with _ | r
 ·rfl
 ·rfl
def HH:Nat->List PR->List (List PR)
 | 0,_=> [[]]
 | _+1,[]=> []
 | m+1,x::xs=>(HH m xs).map (x::·)++HH (m+1) xs
theorem O2:∀(m:Nat) (l:List PR),(HH m l).length<=2 ^ l.length
 | 0,l=>by simp only [HH,List.length_singleton];exact Nat.one_le_two_pow
 | m+1,[]=>by simp [HH]
 | m+1,x::xs=>by
  have K:=O2 m xs;have O:=O2 (m+1) xs
  simp only [HH,List.length_append,List.length_map,List.length_cons]
  rw [Nat.pow_succ];omega
theorem M0{x:PR}:∀{m:Nat} {l c:List PR},c∈HH m l->c.length=m/\(x∈c->x∈l)
 | 0,l,c,h=>by rw [show HH 0 l= [[]] by cases l <;> rfl] at h;cases List.mem_singleton.1 h;exact⟨rfl,λh=>by cases h⟩
 | m+1,[],c,h=>by cases h
 | m+1,y::ys,c,h=>by
  rcases List.mem_append.1 h with h | h
  ·obtain⟨U,O,rfl⟩:=List.mem_map.1 h
   have:=M0 (x:=x) O;exact⟨by rw [List.length_cons,this.1],λK=>by
    rcases List.mem_cons.1 K with rfl | K
    ·exact List.mem_cons_self
    ·exact List.mem_cons_of_mem _ (this.2 K)⟩
  ·have:=M0 (x:=x) h;exact⟨this.1,λK=>List.mem_cons_of_mem _ (this.2 K)⟩
def DG(n:Nat)(w:List Int)(P:PR->Bool)(m:Nat)(l ys:List PR):List (List DT):=(HH m (ys.filter P)).filterMap λc=>Jp n w (l++c)
theorem Sv{n:Nat}{w:List Int}{P:PR->Bool}{m:Nat}{l ys:List PR}:(DG n w P m l ys).length<=2 ^ ys.length:=by
 unfold DG;refine Nat.le_trans (List.length_filterMap_le _ _) (Nat.le_trans (O2 _ _) ?_);exact Nat.pow_le_pow_right (by decide) (List.length_filter_le _ _)
theorem Wc{n:Nat}{w:List Int}{P:PR->Bool}{m:Nat}{l xs:List PR}{x:PR}(h:P x=false):DG n w P m l (x::xs)=DG n w P m l xs:=by unfold DG;rw [List.filter_cons_of_neg (by simp [h])]
theorem VV{n:Nat}{w:List Int}{P:PR->Bool}{m:Nat}{l xs:List PR}{x:PR}(h:P x=true):DG n w P (m+1) l (x::xs)=DG n w P m (l++ [x]) xs++DG n w P (m+1) l xs:=by
 unfold DG;rw [List.filter_cons_of_pos h,HH,List.filterMap_append,List.filterMap_map];congr 2;funext c;simp
theorem SQ{F:Nat}{o:OW}{ag m:Nat}{K:List PR}{P:PR->Bool}(al:100<F)(h:VO o)(hm:m<=5)(aw:K.length<=10)(am:∀x∈K,VP o.1.length x)(ap:∀x,VP o.1.length x->f136 F ag x.1 x.2=some (!P x)):
  ∀(k N:Nat) (l:List PR) (i:Nat) (b:List (List DT)),l.length+k=m->k<N->i<=K.length->(∀x∈l,VP o.1.length x)->b.length+2 ^ (K.length - i)<=1000000->
   Lg N F l (i:Int) (m:Int) o K ag b=some (true,b++DG o.1.length (CO o) P k l (K.drop i))
 | 0,N,l,i,b,ay,az,hi,ac,hb=>by
  obtain⟨N,rfl⟩:∃k,N=k+1:=⟨N - 1,by omega⟩
  have a5:1<=2 ^ (K.length - i):=Nat.one_le_two_pow
  refine DU ?_
  simp only [Lg]
  unfold L9
  refine Cb (by omega) ?_
  refine Bc (Yn al h (by omega) ac) ?_
  refine Bo (S:=λr=>r=(true,b++DG o.1.length (CO o) P 0 l (K.drop i))) ?_ (λr a0=>Av a0)
  have e:DG o.1.length (CO o) P 0 l (K.drop i)=(Jp o.1.length (CO o) l).toList:=by
   unfold DG;simp only [HH,List.filterMap_cons,List.append_nil,List.filterMap_nil];cases Jp o.1.length (CO o) l <;> rfl
  rw [e];rcases Jp o.1.length (CO o) l with _ | r
  ·exact Cb V (Av (by simp))
  ·exact BR (by simp) (Km (by omega) (Av V))
 | k+1,N,l,i,b,ay,az,hi,ac,hb=>by
  obtain⟨N,rfl⟩:∃k,N=k+1:=⟨N - 1,by omega⟩;refine DU ?_;simp only [Lg];unfold L9;refine BR (by omega) (Bo (S:=λr=>r=Sum.inr (b++DG o.1.length (CO o) P (k+1) l (K.drop i))) ?_ (by rintro r rfl;rw [Sum.elim_inr];exact Av rfl));refine Pr (λz s=>∃j,z=K.length - j/\j<=K.length/\s.2=((j:Nat):Int)/\s.1++DG o.1.length (CO o) P (k+1) l (K.drop j)=b++DG o.1.length (CO o) P (k+1) l (K.drop i)/\s.1.length+2 ^ (K.length - j)<=1000000) ?_ (m:=K.length - i) ⟨i,V,hi,V,V,hb⟩ (by omega);rintro z ⟨acc,c⟩ ⟨j,rfl,a6,aq,he,hlen⟩;simp only at aq he hlen;subst aq;unfold PK;refine Cl (λa1=>?_) (λa2=>?_)
  ·simp only at a1;have O:j<K.length:=by omega
   have hd:K.drop j=K[j]::K.drop (j+1):=List.drop_eq_getElem_cons O;have av:=am _ (List.getElem_mem O);have a7:2 ^ (K.length - j)=2 ^ (K.length - (j+1))+2 ^ (K.length - (j+1)):=by
    rw [show K.length - j=K.length - (j+1)+1 by omega,Nat.pow_succ];omega
   have a8:0<2 ^ (K.length - (j+1)):=Nat.two_pow_pos _;refine Bo (S:=λr=>∃Y,r=Sum.inr Y/\Y++DG o.1.length (CO o) P (k+1) l (K.drop (j+1))=acc++DG o.1.length (CO o) P (k+1) l (K.drop j)/\Y.length+2 ^ (K.length - (j+1))<=1000000) ?_ ?_
   ·refine C6 (m:=j) V O (C6 (m:=j) V O ?_);refine Bc (ap _ av) ?_;by_cases Z:P K[j]=true
    ·refine BR (by simp [Z]) ?_;refine C6 (m:=j) V O ?_;refine BA ((j+1:Nat):Int) (by simp) (by omega) (by omega) ?_;refine BB.Ly (by simp;omega) ?_;refine Bc (SQ al h hm aw am ap k N (l++ [K[j]]) (j+1) acc (by simp;omega) (by omega) (by omega) (λx U=>by
      rcases List.mem_append.1 U with U | U
      ·exact ac x U
      ·cases List.mem_singleton.1 U;exact av) (by omega)) ?_
     refine BR (by simp) (Av ⟨_,V,?_,?_⟩)
     ·rw [hd,VV Z,List.append_assoc]
     ·have:=Sv (n:=o.1.length) (w:=CO o) (P:=P) (m:=k) (l:=l++ [K[j]]) (ys:=K.drop (j+1));rw [List.length_drop] at this;rw [List.length_append];omega
    ·refine Cb (by simp [Z]) (Av ⟨_,V,?_,by simp only;omega⟩);rw [hd,Wc (Bool.eq_false_iff.2 Z)]
   ·rintro r ⟨Y,rfl,a3,a4⟩;rw [Sum.elim_inr];exact BA ((j+1:Nat):Int) (by simp) (by omega) (by omega) (Av ⟨K.length - (j+1),by omega,j+1,V,by omega,V,a3.trans he,a4⟩)
  ·simp only at a2;refine Av ?_;have:K.drop j= []:=List.drop_eq_nil_of_le (by omega);rw [this] at he;show Sum.inr _=_;rw [← he];unfold DG;simp [HH]
def FW(n:Nat)(w:List Int)(P:PR->Bool):List (List DT):=(((List.range n).map λm=>DG n w P m [] (EV n)).find? λl=> !l.isEmpty).getD []
theorem ZT{F O:Nat}{o:OW}{P:PR->Bool}(Y:100<F)(h:VO o)(ag:∀x,VP o.1.length x->f136 F O x.1 x.2=some (!P x)):f71 F o O=some (FW o.1.length (CO o) P):=by
 have Z:=h.n5;have al:=Ri Z;refine DU ?_;unfold f71;have am:∀m,m<=5->f132 F o ((m:Nat):Int) O []=some (DG o.1.length (CO o) P m [] (EV o.1.length)):=by
  intro m hm;refine DU ?_;unfold f132;refine Bc (X8 Y Z) ?_;have ap:2 ^ ((EV o.1.length).length - 0)<=2 ^ 10:=Nat.pow_le_pow_right (by decide) (by omega);exact Bc (show f134 F [] 0 (m:Int) o (EV o.1.length) O []=_ from SQ Y h hm al (λx aq=>R2 aq) ag m F [] 0 [] (by simp) (by omega) (by omega) (by simp) (by simp at ap ⊢;omega)) (Av (by simp))
 refine Dg o.1.length (λi s=>s=(i:Int)/\∀j,j<i->DG o.1.length (CO o) P j [] (EV o.1.length)= []) ⟨V,by simp⟩ (by omega) ?_ ?_
 ·rintro i s hi ⟨rfl,U⟩;unfold N3;refine Cb (by omega) (Bc (am i (by omega)) ?_);refine Cl (λac=>Av ?_) (λaw=>?_)
  ·show _=_;unfold FW;rw [List.find?_map,show(List.range o.1.length).find? _=some i from List.find?_range_eq_some.2 ⟨?_,List.mem_range.2 hi,λj K=>?_⟩]
   ·rfl
   ·simp only [Function.comp];cases av:DG o.1.length (CO o) P i [] (EV o.1.length) with
    | nil=>rw [av] at ac;simp at ac
    | cons=>rfl
   ·simp only [Function.comp];rw [U j K];rfl
  ·refine BA ((i+1:Nat):Int) (by simp) (by omega) (by omega) (Av ⟨V,λj K=>?_⟩);rcases Nat.lt_succ_iff_lt_or_eq.1 K with K | rfl
   ·exact U j K
   ·exact List.length_eq_zero_iff.1 (by omega)
 ·rintro s ⟨rfl,U⟩;unfold N3;refine BR (by omega) (Av ⟨_,V,?_⟩);unfold FW;rw [List.find?_map,show(List.range o.1.length).find? _=none from List.find?_eq_none.2 ?_]
  ·rfl
  ·intro j K;simp only [Function.comp];rw [U j (List.mem_range.1 K)];simp
theorem aB{F n:Nat}(U:n<=5)(x:PR)(K:VP n x):f136 F 0 x.1 x.2=some (!(λ_=>true) x):=by
 obtain⟨Y,Z,ac⟩:=K;obtain⟨a,O⟩:∃a:Nat,x.1=(a:Int):=⟨x.1.toNat,by omega⟩;obtain⟨b,hb⟩:∃b:Nat,x.2=(b:Int):=⟨x.2.toNat,by omega⟩;rw [O,hb];have:b<=4:=by omega
 have:a<b:=by omega
 match a,b with
 | 0,1 | 0,2 | 0,3 | 0,4 | 1,2 | 1,3 | 1,4 | 2,3 | 2,4 | 3,4=>rfl
 | 0,0=>omega
 | a+1,0=>omega
 | a+1,1=>omega
 | a+2,2=>omega
 | a+3,3=>omega
 | a+4,4=>omega
 | a,b+5=>omega
abbrev IA(o:OW):List (List DT):=FW o.1.length (CO o) λ_=>true
theorem Ut{F:Nat}{o:OW}(K:100<F)(h:VO o):f71 F o 0=some (IA o):=ZT K h λx O=>aB h.n5 x O
theorem WS{n:Nat}{w:List Int}{P:PR->Bool}{m:Nat}{s:List DT}(U:n<=5)(hm:m<=5)(hw:BN 200 w)(K:s∈DG n w P m [] (EV n)):s.length=m/\∀d∈s,BD d:=by
 unfold DG at K;obtain⟨c,O,K⟩:=List.mem_filterMap.1 K;rw [List.nil_append] at K;unfold Jp at K;obtain⟨r,Y,rfl⟩:=Option.map_eq_some_iff.1 K;have Z:=(M0 (x:=(0,0)) O).1;have ac:∀x∈c,VP n x:=λx ag=>R2 (List.mem_filter.1 ((M0 O).2 ag)).1;have al:(200:Int)*3 ^ c.length<=1000000000000:=by
  have:=SY (k:=c.length) (by omega);omega
 obtain⟨k1,am⟩:=Pp U c.length c w [] r 200 rfl ac hw (by omega) al (by simp) Y;refine⟨by rw [RG,am,Z];simp,λd hd=>k1 d ((RQ _).1 hd)⟩
theorem Yx{n:Nat}{w:List Int}{P:PR->Bool}:FW n w P= []∨∃m,m<n/\FW n w P=DG n w P m [] (EV n)/\(∀j,j<m->DG n w P j [] (EV n)= []):=by
 unfold FW;rw [List.find?_map];rcases h:(List.range n).find? ((λl:List (List DT)=> !l.isEmpty)∘λm=>DG n w P m [] (EV n)) with _ | m
 ·exact .inl V
 ·obtain⟨Y,K,O⟩:=List.find?_range_eq_some.1 h;refine .inr ⟨m,List.mem_range.1 K,V,λj U=>?_⟩;have:=O j U;simpa using this
theorem T1{n:Nat}{w:List Int}{P:PR->Bool}(K:n<=5)(hw:BN 200 w):(FW n w P).length<=1024/\∃m,m<=5/\∀s∈FW n w P,s.length=m/\∀d∈s,BD d:=by
 rcases Yx (n:=n) (w:=w) (P:=P) with h | ⟨m,hm,h,_⟩
 ·rw [h];exact⟨by simp,0,by omega,by simp⟩
 ·rw [h];refine⟨?_,m,by omega,λs O=>WS K (by omega) hw O⟩;exact Nat.le_trans Sv (Nat.le_trans (Nat.pow_le_pow_right (by decide) (Ri K)) (by decide))
def F9:List DT->List DT->Bool
 | [],[]=>false
 | [],_::_=>true
 | _::_,[]=>false
 | x::xs,y::ys=>if x=y then F9 xs ys else Hq x y
theorem Pl{a b:List DT}:∀{i:Nat},i<=a.length->i<=b.length->a.take i=b.take i->F9 a b=F9 (a.drop i) (b.drop i):=by
 induction a generalizing b with
 | nil=>intro i K _ _;simp at K;subst K;simp
 | cons x xs U=>
  intro i K O h;cases i with
  | zero=>simp
  | succ i=>
   cases b with
   | nil=>simp at O
   | cons y ys=>
    simp only [List.take_succ_cons,List.cons.injEq] at h;simp only [List.drop_succ_cons];rw [F9,if_pos h.1];exact U (by simpa using K) (by simpa using O) h.2
theorem Yi{F:Nat}{a b:List DT}(al:100<F)(am:a.length<=40)(U:∀d∈a,BD d)(Y:∀d∈b,BD d):BB (f112 F a b) (λc=>c<0↔F9 a b=true):=by
 unfold f112;refine Bo (S:=λr=>(∃c,r=Sum.inl c/\(c<0↔F9 a b=true))∨(r=Sum.inr ()/\a.length<=b.length/\a=b.take a.length)) ?_ ?_
 ·refine Dg a.length (λi s=>s=(i:Int)/\i<=b.length/\a.take i=b.take i) ⟨V,by simp,by simp⟩ (by omega) ?_ ?_
  ·rintro i s hi ⟨rfl,K,he⟩;unfold Nw;have O:a.drop i=a[i]::a.drop (i+1):=List.drop_eq_getElem_cons hi;refine Cb (by omega) (C6 (m:=i) V hi ?_);refine Cl (λh=>Av (.inl ⟨1,V,?_⟩)) (λh=>?_)
   ·rw [Pl (i:=i) (by omega) K he,O,List.drop_eq_nil_of_le (by omega:b.length<=i)];simp [F9]
   have hb:i<b.length:=by omega
   have Z:b.drop i=b[i]::b.drop (i+1):=List.drop_eq_getElem_cons hb;refine C6 (m:=i) V hb ?_;refine Bo (Tw (U _ (List.getElem_mem hi)) (Y _ (List.getElem_mem hb))) ?_;rintro c ⟨c1,c2⟩;refine Cl (λh=>Av (.inl ⟨c,V,?_⟩)) (λh=>?_)
   ·rw [Pl (i:=i) (by omega) K he,O,Z,F9,if_neg (λk=>h (c2.2 k))];exact c1
   ·have heq:=c2.1 (Decidable.not_not.1 h);refine BA ((i+1:Nat):Int) (by simp) (by omega) (by omega) ?_;refine Av ⟨V,by omega,?_⟩;rw [List.take_add_one,List.take_add_one,he,List.getElem?_eq_getElem hi,List.getElem?_eq_getElem hb,heq]
  ·rintro s ⟨rfl,K,he⟩;unfold Nw;rw [List.take_length] at he;exact BR (by omega) (Av ⟨_,V,.inr ⟨V,K,he⟩⟩)
 ·rintro r (⟨c,rfl,ac⟩ | ⟨rfl,ag,he⟩)
  ·rw [Sum.elim_inl];exact Av ac
  ·rw [Sum.elim_inr];have e:F9 a b=F9 [] (b.drop a.length):=by
    rw [Pl (i:=a.length) (Nat.le_refl _) ag (by rw [List.take_length];exact he),List.drop_length]
   refine Cl (λh=>Av ?_) (λh=>Av ?_)
   ·rw [e];cases hd:b.drop a.length with
    | nil=>have:=congrArg List.length hd;simp at this;omega
    | cons=>simp [F9]
   ·rw [e,List.drop_eq_nil_of_le (by omega)];simp [F9]
def Gk(b:List DT×Bool)(x:List DT):List DT×Bool:=if(!b.2 || F9 x b.1)=true then(x,true) else b
def Lk(l:List (List DT)):List DT:=(l.foldl Gk ([],false)).1
theorem TB{F:Nat}{o:OW}(aw:2000<F)(h:VO o):f22 F o=some (Lk (IA o),0):=by
 obtain⟨ay,al⟩:=Lc (F:=F) (by omega) h;obtain⟨am,m,hm,ap⟩:=T1 (P:=λ_=>true) h.n5 al;refine DU ?_;unfold f22;refine Bc (Ob (by omega) h) (BR (by simp) ?_);refine Bc (Ut (by omega) h) (Bo (S:=λr=>r.1=Lk (IA o)) ?_ (λr Z=>Av (by rw [Z])));have aq:(IA o).length<=1024:=am;have ac:∀s∈IA o,s.length=m/\∀d∈s,BD d:=ap;generalize IA o=L at aq ac ⊢;refine Dg L.length (λi s=>s.2.2=(i:Int)/\(s.1,s.2.1)=(L.take i).foldl Gk ([],false)/\∀d∈s.1,BD d) ⟨V,V,by simp⟩ (by omega) ?_ ?_
 ·rintro i ⟨b,t,c⟩ hi ⟨K,O,U⟩;simp only at K O U;subst K;obtain⟨az,ag⟩:=ac _ (List.getElem_mem hi);have av:(L.take (i+1)).foldl Gk ([],false)=Gk (b,t) L[i]:=by
   rw [List.take_add_one,List.getElem?_eq_getElem hi,List.foldl_append,← O];rfl
  unfold NM;refine Cb (by simp only;omega) (C6 (m:=i) V hi ?_);refine Bc (b:=Gk (b,t) L[i]) ?_ ?_
  ·refine DU ?_;unfold f72;refine Bo (S:=λc=>c=(!t || F9 L[i] b)) ?_ ?_
   ·refine Cl (λh=>Av ?_) (λh=>?_)
    ·simp only at h;rw [h];rfl
    ·simp only at h;obtain rfl:t=true:=by simpa using h
     refine Bo (S:=λc=>c=F9 L[i] b) ?_ (λc K=>Av (by rw [K];simp));unfold f73 f74;refine Bo (S:=λc=>c<0↔F9 L[i] b=true) (Bo (Yi (by omega) (by omega) ag U) (λc K=>Av K)) ?_;intro c K;refine Av ?_;by_cases Y:F9 L[i] b=true
     ·rw [Y];exact decide_eq_true (K.2 Y)
     ·rw [Bool.eq_false_iff.2 Y];exact decide_eq_false λk=>Y (K.1 k)
   ·rintro c rfl;refine Bo (S:=λr=>r=Gk (b,t) L[i]) ?_ (λr Z=>Av Z);unfold Gk;refine Cl (λh=>Av ?_) (λh=>Av ?_)
    ·rw [if_pos h]
    ·rw [if_neg h]
  ·refine BA ((i+1:Nat):Int) (by simp) (by omega) (by omega) (Av ⟨V,av.symm,?_⟩);simp only;unfold Gk;split
   ·exact ag
   ·exact U
 ·rintro⟨b,t,c⟩ ⟨K,O,U⟩;simp only at K O U;subst K;rw [List.take_length] at O;unfold NM;refine BR (by simp) (Av ⟨_,V,?_⟩);simp only;unfold Lk;rw [← O]
theorem TA{F:Nat}{o:OW}(K:2000<F)(h:VO o):f24 F o=some (((IA o).length:Int),0):=by
 refine DU ?_;unfold f24;refine Bc (Ob (by omega) h) (BR (by simp) ?_);exact Bc (Ut (by omega) h) (Av V)
theorem TQ{F:Nat}{o:OW}(U:2000<F)(h:VO o):f43 F o=some ((CO o).take o.1.length,0):=by
 obtain⟨K,O⟩:=Lc (F:=F) (by omega) h;have Y:=h.n5;have Z:=O.1;refine DU ?_;unfold f43;refine Bc (Ob (by omega) h) (BR (by simp) ?_);refine Bc K (Bc (b:=(CO o).take o.1.length) (by unfold Gl;rw [if_pos (by omega)];simp) ?_);exact Bc (b:=(CO o).take o.1.length) (by unfold f87 Mv CN;rw [if_pos (by simp;omega)];rfl) (Av V)
theorem Wt{l:List (List DT)}:Lk l= []∨Lk l∈l:=by
 have:∀l:List (List DT),(l.foldl Gk ([],false)).1= []∨(l.foldl Gk ([],false)).1∈l:=by
  intro l;refine Nk (P:=λl=>(l.foldl Gk ([],false)).1= []∨(l.foldl Gk ([],false)).1∈l) (.inl V) (λl x h=>?_) l;rw [List.foldl_append];show(Gk _ x).1= []∨(Gk _ x).1∈l++ [x];generalize l.foldl Gk ([],false)=b at*;unfold Gk;split
  ·exact .inr (by simp)
  ·rcases h with h | h
   ·exact .inl h
   ·exact .inr (List.mem_append_left _ h)
 exact this l
theorem Vj{o:OW}(h:VO o):(Lk (IA o)).length<=5:=by
 obtain⟨U,K⟩:=Lc (F:=101) (by omega) h;obtain⟨Y,m,hm,O⟩:=T1 (P:=λ_=>true) h.n5 K;rcases Wt (l:=IA o) with e | e
 ·rw [e];simp
 ·have:=(O _ e).1;omega
def F3(o:OW)(a b:Int):Bool:=o.2.any λd=>decide (d.1=a)&&decide (d.2.1=b)
def DJ(c:List Int):Int:=c.getD (c.length - 1) 0
def I2(o:OW)(c:List Int)(h:Nat):Bool:= !decide ((h:Int)∈c)&&(decide (c= []) || F3 o (DJ c) h)
def Iw(o:OW)(c:List Int)(i:Nat):List (List Int):=((List.range i).filter (I2 o c)).map λh:Nat=>c++ [(h:Int)]
def ext(o:OW)(c:List Int):List (List Int):=Iw o c o.1.length
def CZ(o:OW):Nat->List (List Int)
 | 0=> [[]]
 | k+1=>(CZ o k).flatMap (ext o)
def Gr(o:OW)(c:List Int):Bool:=F3 o (DJ c) (c.getD 0 0)
def Mz(o:OW)(r:List Int×Int):Prop:=
 (∃k,2<=k/\k<=o.1.length/\(∀j,2<=j->j<k->(CZ o j).find? (Gr o)=none)/\(CZ o k).find? (Gr o)=some r.1/\r.2=0)∨
  ((∀j,2<=j->j<=o.1.length->(CZ o j).find? (Gr o)=none)/\r=([],11))
theorem Wq(o:OW)(c:List Int)(i:Nat):Iw o c (i+1)=Iw o c i++(if I2 o c i=true then [c++ [(i:Int)]] else []):=by
 unfold Iw;rw [List.range_succ,List.filter_append,List.map_append];congr 1;by_cases h:I2 o c i=true
 ·rw [if_pos h];simp [h]
 ·rw [if_neg h];simp [h]
def Ch(o:OW)(k:Nat)(c:List Int):Prop:=c.length=k/\c.Nodup/\∀x∈c,0<=x/\x<(o.1.length:Int)
theorem ah{o:OW}{k:Nat}{c x:List Int}(h:Ch o k c)(Y:x∈ext o c):Ch o (k+1) x:=by
 obtain⟨Z,ac,ag⟩:=h;unfold ext Iw at Y;obtain⟨a,O,rfl⟩:=List.mem_map.1 Y;obtain⟨O,U⟩:=List.mem_filter.1 O;have O:=List.mem_range.1 O;have al:(a:Int) ∉ c:=by
  intro hm;unfold I2 at U;rw [decide_eq_true hm] at U;cases U
 refine⟨by simp [Z],?_,λy K=>?_⟩
 ·rw [List.nodup_append];exact⟨ac,by simp,by rintro u hu v am rfl;cases List.mem_singleton.1 am;exact al hu⟩
 ·rcases List.mem_append.1 K with K | K
  ·exact ag y K
  ·cases List.mem_singleton.1 K;omega
theorem JU(o:OW):∀(k:Nat) (c:List Int),c∈CZ o k->Ch o k c
 | 0,c,h=>by cases List.mem_singleton.1 h;exact⟨rfl,List.nodup_nil,λx K=>by cases K⟩
 | k+1,c,h=>by
  obtain⟨a,O,U⟩:=List.mem_flatMap.1 h
  exact ah (JU o k a O) U
theorem Sm(o:OW){k:Nat}(Z:o.1.length<k):CZ o k= []:=by
 rcases h:CZ o k with _ | ⟨c,l⟩
 ·rfl
 ·obtain⟨ac,K,O⟩:=JU o k c (by rw [h];exact List.mem_cons_self);have U:c.length<=((List.range o.1.length).map λh:Nat=>(h:Int)).length:=List.Nodup.length_le_of_subset K λx Y=>by
   have:=O x Y;exact List.mem_map.2 ⟨x.toNat,List.mem_range.2 (by omega),by omega⟩
  rw [List.length_map,List.length_range] at U;omega
theorem PH{α β:Type}{f:α->List β}{m:Nat}:∀{l:List α},(∀x∈l,(f x).length<=m)->(l.flatMap f).length<=l.length*m
 | [],_=>by simp
 | a::l,h=>by
  rw [List.flatMap_cons,List.length_append,List.length_cons,Nat.succ_mul]
  have O:=h a List.mem_cons_self
  have U:=PH (l:=l) λx K=>h x (List.mem_cons_of_mem _ K)
  omega
theorem PO(o:OW)(c:List Int)(i:Nat):(Iw o c i).length<=i:=by
 unfold Iw;rw [List.length_map];have K:=List.length_filter_le (I2 o c) (List.range i);rw [List.length_range] at K;exact K
theorem T4{o:OW}(K:o.1.length<=5):∀k,(CZ o k).length<=5 ^ k
 | 0=>by simp [CZ]
 | k+1=>by
  have O:=T4 K k
  have U:((CZ o k).flatMap (ext o)).length<=(CZ o k).length*5:=PH λx _=>Nat.le_trans (PO o x _) K
  show((CZ o k).flatMap (ext o)).length<=_
  rw [Nat.pow_succ]
  exact Nat.le_trans U (Nat.mul_le_mul_right 5 O)
theorem VW{o:OW}(K:o.1.length<=5)(k:Nat):(CZ o k).length<=3125:=by
 rcases Nat.lt_or_ge o.1.length k with h | h
 ·rw [Sm o h];simp
 ·exact Nat.le_trans (T4 K k) (Nat.pow_le_pow_right (by omega) (by omega:k<=5))
theorem Tm{c:List Int}(h:0<c.length):ix c ((c.length:Int) - 1)=some (DJ c):=EX (m:=c.length - 1) (by omega) (by unfold DJ;rw [List.getD_eq_getElem?_getD,List.getElem?_eq_getElem (by omega)];rfl)
theorem ZY{c:List Int}(h:0<c.length):ix c 0=some (c.getD 0 0):=EX (m:=0) V (by rw [List.getD_eq_getElem?_getD,List.getElem?_eq_getElem h];rfl)
theorem UX{α:Type}{l:List α}{i:Nat}{x:α}(hi:i<l.length):x∈l.take (i+1)↔x∈l.take i∨x=l[i]:=by
 rw [List.take_add_one,List.getElem?_eq_getElem hi];simp only [Option.toList_some,List.mem_append,List.mem_singleton]
theorem au{F:Nat}{l:List Int}{x:Int}(U:100<F)(Y:l.length<=40):f82 F l x=some (decide (x∈l)):=by
 refine DU ?_;unfold f82;refine Bo (S:=λq:Int=>(0<=q/\x∈l)∨(q<0/\x ∉ l)) ?_ ?_
 ·unfold f128;refine Bo (S:=λq:Int⊕Unit=>(∃z,q=Sum.inl z/\0<=z/\x∈l)∨(q=Sum.inr ()/\x ∉ l)) ?_ ?_
  ·refine Dg l.length (λi s=>s=(i:Int)/\x ∉ l.take i) ⟨V,by simp⟩ (by omega) ?_ ?_
   ·rintro i s hi ⟨rfl,O⟩;unfold NC;refine Cb (by omega) (C6 (m:=i) V hi ?_);refine Cl (λh=>Av (.inl ⟨_,V,by omega,h▸List.getElem_mem hi⟩)) (λh=>?_);exact BA ((i+1:Nat):Int) (by simp) (by omega) (by omega) (Av ⟨V,λhm=>((UX hi).1 hm).elim O h⟩)
   ·rintro s ⟨rfl,O⟩;unfold NC;exact BR (by omega) (Av ⟨_,V,.inr ⟨V,by rwa [List.take_length] at O⟩⟩)
  ·rintro q (⟨z,rfl,K,h⟩ | ⟨rfl,h⟩)
   ·exact Av (.inl ⟨K,h⟩)
   ·exact Av (.inr ⟨by decide,h⟩)
 ·rintro q (⟨K,h⟩ | ⟨K,h⟩)
  ·exact Av (by rw [decide_eq_true h,decide_eq_true K])
  ·exact Av (by rw [decide_eq_false h,decide_eq_false (by omega)])
theorem bT{o:OW}{a b:Int}{i:Nat}(hi:i<o.2.length):F3 (o.1,o.2.take (i+1)) a b=(F3 (o.1,o.2.take i) a b || (decide (o.2[i].1=a)&&decide (o.2[i].2.1=b))):=by
 unfold F3;rw [List.take_add_one,List.getElem?_eq_getElem hi];simp only [Option.toList_some,List.any_append,List.any_cons,List.any_nil,Bool.or_false]
theorem XL{o:OW}{a b:Int}:F3 (o.1,o.2.take o.2.length) a b=F3 o a b:=by rw [List.take_length]
theorem R9{κ ν:Type} [DecidableEq κ] (x y:κ)(v:ν):∀xs:List (κ×ν),Bs (CP xs x v) y=if y=x then some v else Bs xs y
 | []=>by
  unfold CP Bs
  by_cases h:y=x
  ·rw [if_pos h];simp [h]
  ·rw [if_neg h];simp [h]
 | z::U=>by
  have Y:=R9 x y v U;unfold CP;by_cases h:x=z.1
  ·rw [if_pos h];by_cases K:y=x
   ·rw [if_pos K];unfold Bs;simp [K]
   ·rw [if_neg K];unfold Bs;rw [List.find?_cons_of_neg (by simpa using K),List.find?_cons_of_neg (by simpa using λe=>K (e.trans h.symm))]
  ·rw [if_neg h];by_cases O:y=z.1
   ·rw [if_neg (λe=>h (e.symm.trans O))];unfold Bs;simp [O]
   ·have:Bs (z::CP U x v) y=Bs (CP U x v) y:=by unfold Bs;rw [List.find?_cons_of_neg (by simpa using O)]
    rw [this,Y];by_cases K:y=x
    ·rw [if_pos K,if_pos K]
    ·rw [if_neg K,if_neg K];unfold Bs;rw [List.find?_cons_of_neg (by simpa using O)]
theorem XP{F:Nat}{o:OW}{e:Int}(Y:100<F)(Z:o.2.length<=40):BB (Pal.iter (Ma F (o,e)) F (([]:List ((Int×Int)×Bool)),0)) (λm=>∀a b,(Bs m (a,b)).getD false=F3 o a b):=by
 refine Dg o.2.length (λi s=>s.2=(i:Int)/\∀a b,(Bs s.1 (a,b)).getD false=F3 (o.1,o.2.take i) a b) ⟨V,λa b=>by simp [Bs,F3]⟩ (by omega) ?_ ?_
 ·rintro i ⟨m,z⟩ hi ⟨K,hm⟩;simp only at K hm;subst K;unfold Ma
  dsimp only;refine Cb (by omega) (C6 (m:=i) V hi ?_);refine BA ((i+1:Nat):Int) (by simp) (by omega) (by omega) (Av ⟨V,λa b=>?_⟩);simp only;rw [R9,bT hi,← hm a b];by_cases h:(a,b)=(o.2[i].1,o.2[i].2.1)
  ·rw [if_pos h];obtain⟨rfl,rfl⟩:=Prod.mk.inj h;simp
  ·rw [if_neg h];have:(decide (o.2[i].1=a)&&decide (o.2[i].2.1=b))=false:=by
    rw [Bool.and_eq_false_iff];by_cases O:o.2[i].1=a
    ·exact .inr (decide_eq_false λU=>h (by rw [O,U]))
    ·exact .inl (decide_eq_false O)
   rw [this,Bool.or_false]
 ·rintro⟨m,z⟩ ⟨K,hm⟩;simp only at K hm;subst K;unfold Ma
  dsimp only;exact BR (by omega) (Av ⟨_,V,λa b=>by rw [hm,XL]⟩)
theorem XB{F:Nat}{o:OW}{e:Int}{m:List ((Int×Int)×Bool)}{c:List Int}{acc:List (List Int)}(Y:100<F)(hm:∀a b,(Bs m (a,b)).getD false=F3 o a b)(ac:o.1.length<=5)(ag:c.length<=20)(al:acc.length<=100000):Pal.iter (Mc F (o,e) m c) F (acc,0)=some (acc++ext o c):=by
 refine DU (Dg o.1.length (λi s=>s.2=(i:Int)/\s.1=acc++Iw o c i) ⟨V,by simp [Iw]⟩ (by omega) ?_ ?_)
 ·rintro i ⟨l,z⟩ hi ⟨K,O⟩;simp only at K O;subst K;subst O;have am:=PO o c i;unfold Mc
  dsimp only;refine Cb (by omega) (Bo (S:=λr=>r=acc++Iw o c (i+1)) ?_ ?_)
  ·refine Bc (au Y (by omega)) (Bo (S:=λq=>q= !I2 o c i) ?_ ?_)
   ·refine Cl (λh=>Av ?_) (λh=>?_)
    ·unfold I2;rw [h];rfl
    ·refine Cl (λU=>?_) (λU=>Av ?_)
     ·refine BA _ V (by omega) (by omega) (Bc (Tm (by omega)) ?_);refine Av ?_;rw [hm];unfold I2;have Z:c≠ []:=by rintro rfl;simp at U
      rw [Bool.not_eq_true] at h;rw [h,decide_eq_false Z];simp
     ·have:c= []:=List.eq_nil_of_length_eq_zero (by omega);unfold I2;rw [Bool.not_eq_true] at h;rw [h,decide_eq_true this];rfl
   ·rintro q rfl;rw [Wq];refine Cl (λh=>Av ?_) (λh=>?_)
    ·rw [if_neg (by simpa using h),List.append_nil]
    ·rw [if_pos (by simpa using h),← List.append_assoc];refine BB.Ly (by simp;omega) (Km (by rw [List.length_append];omega) ?_);exact Av V
  ·rintro r rfl;exact BA ((i+1:Nat):Int) (by simp) (by omega) (by omega) (Av ⟨V,V⟩)
 ·rintro⟨l,z⟩ ⟨K,O⟩;simp only at K O;subst K;subst O;unfold Mc
  dsimp only;exact BR (by omega) (Av ⟨_,V,V⟩)
theorem RE{α:Type}{l:List α}{p:α->Bool}{i:Nat}(hi:i<l.length)(h:(l.take i).find? p=none):(l.take (i+1)).find? p=if p l[i]=true then some l[i] else none:=by
 rw [List.take_add_one,List.getElem?_eq_getElem hi,List.find?_append,h];by_cases K:p l[i]=true
 ·rw [if_pos K];simp [K]
 ·rw [if_neg K];simp [K]
theorem XG{α:Type}{l:List α}{p:α->Bool}{i:Nat}{x:α}(h:(l.take i).find? p=some x):l.find? p=some x:=by
 rw [← List.take_append_drop i l,List.find?_append,h];rfl
theorem XA{F:Nat}{o:OW}{e:Int}{m:List ((Int×Int)×Bool)}{k:Nat}(am:4000<F)(hm:∀a b,(Bs m (a,b)).getD false=F3 o a b)(Z:o.1.length<=5)(ap:k<=5):
  BB (Pal.iter (Mf F (o,e) m (CZ o k)) F ([],0)) (λq=>(1<k/\∃c,(CZ o k).find? (Gr o)=some c/\q=Sum.inl (c,0))∨((1<k->(CZ o k).find? (Gr o)=none)/\q=Sum.inr (CZ o (k+1)))):=by
 have aq:=VW Z k;refine Dg (CZ o k).length (λi s=>s.2=(i:Int)/\s.1=((CZ o k).take i).flatMap (ext o)/\(1<k->((CZ o k).take i).find? (Gr o)=none)) ⟨V,by simp⟩ (by omega) ?_ ?_
 ·rintro i ⟨l,z⟩ hi ⟨O,U,K⟩;simp only at O U K;subst O;subst U;have ac:=JU o k _ (List.getElem_mem hi);have av:(CZ o k)[i].length=k:=ac.1;have ag:(((CZ o k).take i).flatMap (ext o)).length<=((CZ o k).take i).length*5:=PH λx _=>Nat.le_trans (PO o x _) Z;rw [List.length_take] at ag;unfold Mf
  dsimp only;refine Cb (by omega) (C6 (m:=i) V hi ?_);refine Bo (S:=λq=>q=(decide (1<k)&&Gr o (CZ o k)[i])) ?_ ?_
  ·refine Cl (λh=>?_) (λh=>Av (by rw [decide_eq_false (by omega)];rfl));refine BA _ V (by omega) (by omega) (Bc (Tm (by omega)) ?_);refine Bc (ZY (by omega)) (Av ?_);rw [hm,decide_eq_true (by omega)];rfl
  ·rintro q rfl;refine Cl (λh=>Av (.inl ?_)) (λh=>?_)
   ·rw [Bool.and_eq_true] at h;have Y:1<k:=of_decide_eq_true h.1;refine⟨Y,_,XG (i:=i+1) ?_,V⟩;rw [RE hi (K Y),if_pos h.2]
   ·refine Bc (XB (by omega) hm Z (by omega) (by omega)) (BA ((i+1:Nat):Int) (by simp) (by omega) (by omega) ?_);refine Av ⟨V,?_,λY=>?_⟩
    ·simp only;rw [List.take_add_one,List.getElem?_eq_getElem hi,List.flatMap_append];simp
    ·rw [RE hi (K Y),if_neg];intro al;rw [al,decide_eq_true Y] at h;exact h V
 ·rintro⟨l,z⟩ ⟨O,U,K⟩;simp only at O U K;subst O;subst U;unfold Mf
  dsimp only;rw [List.take_length] at K ⊢;exact BR (by omega) (Av ⟨_,V,.inr ⟨K,V⟩⟩)
theorem T7{F:Nat}{o:OW}(ag:4000<F)(h:VO o):BB (f33 F o) (Mz o):=by
 have al:=h.n5;have a0:=h.d8;unfold f33;refine Bc (Ob (by omega) h) ?_;refine BR (by simp) ?_;refine Bo (XP (by omega) (by omega)) ?_;intro m hm;refine Bo (S:=λq=>(∃r,q=Sum.inl r/\Mz o r)∨(q=Sum.inr ()/\Mz o ([],11))) ?_ ?_
 ·refine Dg (o.1.length+1) (λi s=>s=CZ o i/\∀j,2<=j->j<i->(CZ o j).find? (Gr o)=none) ⟨V,by omega⟩ (by omega) ?_ ?_
  ·rintro i s hi ⟨rfl,K⟩;have Z:∀k,(∀j,2<=j->j<k->(CZ o j).find? (Gr o)=none)->CZ o k= []->Mz o ([],11):=by
    intro k am he;refine .inr ⟨λj O U=>?_,V⟩;rcases Nat.lt_or_ge j k with ap | a1
    ·exact am j O ap
    ·have:∀t,CZ o (k+t)= []:=by
      intro t
      induction t with
      | zero=>exact he
      | succ t aq=>show(CZ o (k+t)).flatMap (ext o)= [];rw [aq];rfl
     have:=this (j - k);rw [show k+(j - k)=j by omega] at this;rw [this];rfl
   unfold NK;refine Cl (λav=>?_) (λav=>Av (.inr ⟨V,Z i K (List.eq_nil_of_length_eq_zero (by omega))⟩));refine Bo (XA ag hm al (by omega)) ?_;rintro q (⟨a2,c,aw,rfl⟩ | ⟨ay,rfl⟩)
   ·exact Av (.inl ⟨_,V,.inl ⟨i,by omega,by omega,K,aw,V⟩⟩)
   ·have ac:∀j,2<=j->j<i+1->(CZ o j).find? (Gr o)=none:=by
     intro j O U;rcases Nat.lt_succ_iff_lt_or_eq.1 U with U | rfl
     ·exact K j O U
     ·exact ay (by omega)
    refine Cl (λaz=>Av (.inr ⟨V,Z (i+1) ac (List.eq_nil_of_length_eq_zero (by omega))⟩)) (λaz=>Av ⟨V,ac⟩)
  ·rintro s ⟨rfl,K⟩;rw [Sm o (by omega:o.1.length<o.1.length+1)];unfold NK;refine BR (by simp) (Av ⟨_,V,.inr ⟨V,.inr ⟨λj O U=>K j O (by omega),V⟩⟩⟩)
 ·rintro q (⟨r,rfl,Y⟩ | ⟨rfl,Y⟩)
  ·exact Av Y
  ·exact Av Y
theorem ZR{F:Nat}{o x:OW}(K:2000<F)(h:VO o)(O:VO x)(U:o.1.length=x.1.length)(Y:CO o=CO x):f35 F o x=some true:=by
 have e:IA o=IA x:=by show FW _ _ _=FW _ _ _;rw [U,Y]
 have Z:=h.n5;refine DU ?_;unfold f35;refine Bc (TQ K h) ?_;refine Bc (TQ K O) ?_;refine Bc (TB K h) ?_;refine Bc (TB K O) ?_;refine Bc (TA K h) ?_;refine Bc (TA K O) ?_;rw [e,U,Y];simp only [if_true,Option.bind_some,decide_true];refine Bo (S:=λr=>r=true) (Bc (Y1 (by omega) (by rw [List.length_take];omega)) (Av V)) ?_;rintro r rfl;refine Bo (S:=λr=>r=true) (Cb V (Bc (ZV (by omega) (by have:=Vj O;omega)) (Av V))) ?_;rintro r rfl;exact Av V
theorem ar{w:List Int}{d:DT}(h:w.length=5)(a1:0<=d.1)(K:d.1<5)(O:0<=d.2.1)(U:d.2.1<5)(j:Nat):gN (KH w d) j=gN w j+(if(j:Int)=d.2.1 then d.2.2 else 0)+(if(j:Int)=d.1 then -d.2.2 else 0):=by
 unfold KH;rw [TS (by unfold IW;rw [List.length_set];exact h) a1 K,TS h O U]
theorem Yo{w:List Int}{d:DT}(h:w.length=5):(KH w d).length=5:=by unfold KH IW;rw [List.length_set,List.length_set];exact h
end Pal
