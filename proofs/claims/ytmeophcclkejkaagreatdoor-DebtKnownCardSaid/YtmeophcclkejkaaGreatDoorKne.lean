/- DebtKnown states that the examples of the chapter have the results given there.: a part (5 of 9) of the proof of its row. -/
import Derived.Test.YtmeophcclkejkaaGreatDoorKna
import Derived.Test.YtmeophcclkejkaaGreatDoorKnb
import Derived.Test.YtmeophcclkejkaaGreatDoorKnc
import Derived.Test.YtmeophcclkejkaaGreatDoorKnd
import Derived.Handed
import Derived.LaidLaws
import Derived.LaidHandle
import Derived.Test.YtmeophcclkejkaaGreatDoorRows
import Derived.Test.YtmeophcclkejkaaGreatDoorChecked
import Derived.Conc.LeavingOf
import Derived.Conc.HoldsTime
import Derived.Carry
import Derived.ChangeSame
import Derived.ChangeVars
import Derived.ChangeSlices
import Derived.JoinedOf
import Derived.RowKit
import Derived.Deep.Strs
import Derived.Stop.Joined
set_option linter.all false
set_option maxRecDepth 100000
namespace Pal
open Go Go.Conc Go.Conc.Lib Go.Proofs Go.ConcR.Gen
theorem JL.uA{J:Judge Tryz.prog}{F:Fam}{Q:GP}{b:Frame}{n:Nat}{L:Env}{ds:Ld_}{k:Li_}{cs:Lf_}{s:St}{ops:Ao_}{i:Nat}{rest:List Nat}{d:Option Tmp}{x:Operand}{ty:TypeId}{p:String}{af:Ae_}{g:On_}(K:Fe b n L ops i=some ⟨d,.fieldAddr 136 x 0,ty,p,af,g⟩)(O:ev L x=some (.pointer (some F.uA)))(h:JL J Q b n (As L d (.pointer (some F.uA))) ds (.inRegion ops rest::k) cs s):JL J Q b n L ds (.inRegion ops (i::rest)::k) cs s:=Am K (λρ h=>I2 (a:=F.uA) 0 0 Tryz.underlying136 (AJ Tryz.type21) V V V (h _ _ O)) h
theorem Z7{P:Program}{J:Judge P}{Q:GP}{n:Nat}{L:Env}{ds:Ld_}{c:Code}{k:Li_}{cs:Lf_}{s:St}{b:Frame}(h:∀K,K=k->JL J Q b n L ds (.code c::K) cs s):JL J Q b n L ds (.code c::k) cs s:=h _ V
theorem Ub{P:Program}{J:Judge P}{Q:GP}{n:Nat}{L:Env}{ds:Ld_}{k:Li_}{cs:Lf_}{s:St}{b:Frame}(h:∀K,K=k->JL J Q b n L ds K cs s):JL J Q b n L ds k cs s:=h _ V
theorem Ib:(Tryz.prog.funcs[168]?).any (·.norace)=true:=by rw [Tryz.func168];rfl
theorem bu:(Tryz.prog.funcs[136]?).any (·.norace)=true:=by rw [Tryz.func136];rfl
theorem bE:(Tryz.prog.funcs[170]?).any (·.norace)=true:=by rw [Tryz.func170];rfl
theorem PQ:(Tryz.prog.funcs[192]?).any (·.norace)=true:=by rw [Tryz.func192];rfl
theorem OO:(Tryz.prog.info? 136).map (λi=>decide (i.size=0))=some false:=(congrArg (Option.map (λi=>decide (i.size=0))) Tryz.type136).trans V
abbrev GJ:=Bool×Bool×Nat×M4×Int
def T5(a:GJ):Prop:=(a.2.1=true->a.2.2.2.1.k=true)/\a.2.2.1<=4/\C9 a.2.2.2.1
def PT(a:GJ):LP:= .Cj a.1 a.2.1 a.2.2.1 a.2.2.2.1
theorem XM{F:Fam}{sv aw:Bool}{it:Nat}{old:M4}{q:Nat}(h:old.l=false/\old.s=false):(mN sv aw old,q,#[Fam.Ca F.uA,Fam.Em F.uA],some LP.len)∈F.BX (.Cj sv aw it old) old q:=by
 obtain⟨l,k,s,w⟩:=old;obtain⟨K,O⟩:=h;simp only at K O;subst K O;simp [Fam.BX,Fam.Fq,mN]
theorem Rm{F:Fam}{sv aw:Bool}{it:Nat}{old:M4}{q:Nat}(h:¬(old.l=false/\old.s=false))(x:LP)(K:x= .Ic sv∨x= .Cv sv):(mN sv aw old,q,#[Fam.Ca F.uA,Fam.Em F.uA],some x)∈F.BX (.Cj sv aw it old) old q:=by
 obtain⟨l,k,s,w⟩:=old;show _∈F.Fq _ _ _ _ _ _;unfold Fam.Fq;rw [List.mem_append];right;rw [if_pos rfl,if_neg h];cases l <;> cases s <;> simp [mN] at h ⊢ <;> rcases K with rfl | rfl <;> simp
theorem W5{F:Fam}{sv aw:Bool}{it:Nat}{old m:M4}{q:Nat}(h:m≠old):(m,q,#[Fam.Ca F.uA],some (LP.Eg sv aw it))∈F.BX (.Cj sv aw it old) m q:=by
 show _∈F.Fq _ _ _ _ _ _;unfold Fam.Fq;rw [List.mem_append];right;rw [if_neg h];exact List.mem_singleton.2 V
theorem X2{F:Fam}{sv:Bool}{it:Nat}{old:M4}{q:Nat}(K:old.l=true/\old.s=false)(O:it<4)(U:old.k=false)(V:old.w≠0):(({old with k:=true}:M4),q,#[Fam.Ca F.uA,Fam.Em F.uA],some (LP.Eg sv true (it+1)))∈F.BX (.Cj sv false it old) old q:=by
 show _∈F.Fq _ _ _ _ _ _;unfold Fam.Fq;rw [List.mem_append];left;rw [if_pos ⟨K.1,K.2,O⟩,if_pos ⟨rfl,U,V⟩,if_pos rfl];exact List.mem_singleton.2 rfl
theorem X8{F:Fam}{sv:Bool}{it:Nat}{old m:M4}{q:Nat}(K:old.l=true/\old.s=false)(O:it<4)(U:old.k=false)(V:old.w≠0)(hm:m≠old):(m,q,#[Fam.Ca F.uA],some (LP.Eg sv false (it+1)))∈F.BX (.Cj sv false it old) m q:=by
 show _∈F.Fq _ _ _ _ _ _;unfold Fam.Fq;rw [List.mem_append];left;rw [if_pos ⟨K.1,K.2,O⟩,if_pos ⟨rfl,U,V⟩,if_neg hm];exact List.mem_singleton.2 rfl
theorem ON{F:Fam}{sv aw:Bool}{it:Nat}{old m:M4}{q:Nat}(K:old.l=true/\old.s=false)(O:it<4)(U:¬(aw=false/\old.k=false/\old.w≠0)):(m,q,#[],some (LP.Cj sv aw (it+1) m))∈F.BX (.Cj sv aw it old) m q:=by
 show _∈F.Fq _ _ _ _ _ _;unfold Fam.Fq;rw [List.mem_append];left;rw [if_pos ⟨K.1,K.2,O⟩,if_neg U];exact List.mem_singleton.2 V
theorem GH(m:M4)(h:m.s=true):m={m with l:=m.l || !m.s}:=by
 obtain⟨l,k,s,w⟩:=m;simp only at h;subst h;simp
set_option maxHeartbeats 4000000 in
theorem Wd{F:Fam}{n:Nat}{L:Env}{ds:Ld_}{k:Li_}{cs:Lf_}{s:St}{b:Frame}{ops:Ao_}{i:Nat}{rest:List Nat}{d:Option Tmp}{x:Operand}{ats:Array TypeId}{ty:TypeId}{pp:String}{af:Ae_}{g:On_}{kk:Nat}(Z:s.q=false)(ci:ops[i]? =some ⟨d,.call ⟨.value (.func 168),#[x],ats⟩,ty,pp,af,g⟩)(hw:AR L ops ⟨d,.call ⟨.value (.func 168),#[x],ats⟩,ty,pp,af,g⟩=some true)(ck:((b.kind != .early)&&Bg n d)=true)(cm:ev L x=some (.pointer (some F.uA)))
  (h:JL (AY Tryz.prog false) (Stop Tryz.prog F (.lk kk .Fu)) b n (As L d (.tuple #[])) ds (.inRegion ops rest::k) cs s):
  JL (AY Tryz.prog false) (Stop Tryz.prog F (.lk kk (.Eg false false 0))) b n L ds (.inRegion ops (i::rest)::k) cs s:=by
 refine GX (vs:= [.pointer (some F.uA)]) ci hw ck Tryz.func168 (by decide+kernel) rfl (by simp [evs,cm]) (Nat.le_of_ble_eq_true rfl) λb3 back=>C 20 rfl (JL.uA rfl rfl ?_);refine GW (kk:=kk) (p:= .Eg false false 0) CY.stop Z rfl rfl rfl rfl rfl GO Ib rfl λb4 cA bY=>⟨some (.Cj false false 0 b4),List.mem_singleton.2 rfl,?_⟩;refine C 3 rfl (Z7 λcn co=>?_);have a1:∀X:Ph->GP,CY Tryz.prog F X->(∀p g s,Stop Tryz.prog F p g s->X p g s)->∀L',look L' 0=some (.pointer (some F.uA))->JL (AY Tryz.prog false) (X (.lk kk .len)) (base 168) Tryz.f168.ntmps L' [] cn (b3::cs) s:=by
  intro X O ay L' cp;rw [co];refine EO (L':= [(0,.pointer (some F.uA))]) ⟨cp,trivial⟩ (C 3 rfl ?_);refine KT (kk:=kk) (p:= .len) O Z rfl (λ_ _=>rfl) rfl rfl rfl rfl (by simp) NK (C 3 rfl ?_);refine Ok (kk:=kk) (p:= .Ky) O Z rfl (λ_ _=>rfl) rfl rfl rfl rfl Tryz.underlying247 Tryz.underlying174 OO rfl (O0 (kk:=kk) (p:= .JH) (ad:=F.uA) O Z rfl (λ_ _=>rfl) rfl rfl rfl rfl (by simp) T9 rfl rfl ?_);refine JL.done (JL.fin rfl rfl (BB.none Tryz.func168 rfl) (back _ _ _ _ ?_));exact MP (λg s=>ay _ g s) h
 refine JL.block (HX ?_);refine Ek [(0,.pointer (some F.uA)),(2,iV 0),(3,.bool false),(4,.bool false),(5,iV ((0:Nat):Int)),(6,.int .i32 (b4:M4).num)] rfl (Ub λb5 a6=>?_);refine SZ (P:=Tryz.prog) (F:=F) (s:=s) (kk:=kk) (ph:=PT) (ok:=T5) (head:=λ(X:Ph->GP) (a:GJ)=>JL (AY Tryz.prog false) (X (.lk kk (PT a))) (base 168) Tryz.f168.ntmps ([(0,.pointer (some F.uA)),(2,iV a.2.2.2.2),(3,.bool a.1),(4,.bool a.2.1),(5,iV (a.2.2.1:Int)),(6,.int .i32 (a.2.2.2.1:M4).num)]) [] b5 (b3::cs) s) ?_ (false,false,0,b4,0) ⟨(λe=>by cases e),Nat.zero_le _,bY.2.2.1⟩;intro Y bZ cB hC;have key:∀N (a:GJ),4 - a.2.2.1<N->T5 a->(λ(X:Ph->GP) (a:GJ)=>JL (AY Tryz.prog false) (X (.lk kk (PT a))) (base 168) Tryz.f168.ntmps ([(0,.pointer (some F.uA)),(2,iV a.2.2.2.2),(3,.bool a.1),(4,.bool a.2.1),(5,iV (a.2.2.1:Int)),(6,.int .i32 (a.2.2.2.1:M4).num)]) [] b5 (b3::cs) s) Y a:=by
  intro N
  induction N with
  | zero=>intro a b8;omega
  | succ N b0=>
   rintro⟨sv,aw,it,old,wt⟩ cq bY;simp only at cq;have cr:aw=true->old.k=true:=bY.1;have b6:C9 old:=bY.2.2;have a2:Ck old:=b6.Ck;show JL (AY Tryz.prog false) (Y (.lk kk (.Cj sv aw it old))) (base 168) Tryz.f168.ntmps [(0,.pointer (some F.uA)),(2,iV wt),(3,.bool sv),(4,.bool aw),(5,iV (it:Int)),(6,.int .i32 (old:M4).num)] [] b5 (b3::cs) s;rw [a6];refine C 2 rfl (Bu (λL s'=>s=s'/\L= [(0,.pointer (some F.uA)),(2,iV wt),(3,.bool sv),(4,.bool aw),(5,iV (it:Int)),(6,.int .i32 (old:M4).num)]) ?_ ?_)
   rotate_left
   ·intro az;refine C 3 rfl (Am (v:=CQ (BE old&&& 5)) rfl (λρ h=>Ep (c:=5) a2 (h _ _ rfl) (h _ _ rfl) (by decide)) ?_);refine C 2 rfl (Ly (q:=((BE old&&& 5:Nat):Int)=1) (i:=17) rfl (λb9=>?_) (λb9=>?_))
    ·refine Am (v:=iV (it:Int)) rfl (λρ h=>Yl.move (h _ _ rfl)) (JL.canSpin (it:=(it:Int)) Z rfl rfl rfl rfl YY rfl (λDX=>?_) ?_)
     ·refine Am (v:= .bool true) rfl (λρ h=>LB (h _ _ rfl) (h _ _ rfl)) ?_;have a3:=(bF old).1 b9;refine C 5 rfl ?_;have b1:it<4:=by omega
      refine C 1 rfl (Am (v:= .bool (!aw)) rfl (λρ h=>Yl.not (h _ _ rfl)) ?_);refine C 1 rfl (Kb (c:= !aw) (i:=23) rfl (λc1=>?_) (λc1=>?_))
      ·refine Am (v:= .int .i32 (old:M4).num) rfl (λρ h=>Yl.move (h _ _ rfl)) (Am (v:=CQ (BE old&&& 2)) rfl (λρ h=>Ep (c:=2) a2 (h _ _ rfl) (h _ _ rfl) (by decide)) ?_);refine C 3 rfl (Ly (q:=((BE old&&& 2:Nat):Int)=0) (i:=28) rfl (λc2=>?_) (λc2=>?_))
       ·refine Am (v:= .int .i32 (old:M4).num) rfl (λρ h=>Yl.move (h _ _ rfl)) (Am (v:=CQ old.w) rfl (λρ h=>Iz a2 (h _ _ rfl) (h _ _ rfl)) ?_);refine C 3 rfl (Ly (q:=(old.w:Int)≠0) (i:=33) rfl (λc3=>?_) (λc3=>?_))
        ·have ct:aw=false:=by simpa using c1
         subst ct;have ca:=(PU old).1 c2;have cb:old.w≠0:=by omega
         refine C 2 rfl (JL.uA rfl rfl ?_);refine C 2 rfl (Am (v:= .int .i32 ({old with k:=true}:M4).num) rfl (λρ h=>Nh (c:=2) a2 (by decide) (Qc old) rfl (h _ _ rfl) (h _ _ rfl)) ?_);refine Ro (kk:=kk) (p:= .Cj sv false it old) (old:=old) (nw:={old with k:=true}) bZ Z rfl rfl rfl rfl rfl Ny rfl rfl rfl (λq a4=>⟨some (.Eg sv true (it+1)),X2 a3 b1 ca cb,?_⟩) (λm q hm a4=>⟨some (.Eg sv false (it+1)),X8 a3 b1 ca cb hm,?_⟩)
         ·refine Am (v:= .bool true) rfl (λρ h=>LB (h _ _ rfl) (h _ _ rfl)) (C 7 rfl ?_);refine JL.ext (v:= .tuple #[]) rfl rfl rfl LG rfl rfl (C 4 rfl ?_);refine Am (v:=iV ((it+1:Nat):Int)) rfl (λρ h=>EZ (h _ _ rfl) (h _ _ rfl) (by unfold Av;rw [if_pos (by omega)];congr 1)) (C 6 rfl ?_);refine JL.uA rfl rfl (GW (kk:=kk) (p:= .Eg sv true (it+1)) bZ Z rfl rfl rfl rfl rfl GO Ib rfl λa7 cc bo=>⟨some (.Cj sv true (it+1) a7),List.mem_singleton.2 rfl,?_⟩);refine C 3 rfl (JL.again ?_);rw [← a6];exact Ek [(0,.pointer (some F.uA)),(2,iV wt),(3,.bool sv),(4,.bool true),(5,iV ((it+1:Nat):Int)),(6,.int .i32 (a7:M4).num)] rfl (b0 (sv,true,it+1,a7,wt) (by show 4 - (it+1)<N;omega) ⟨bo.2.2.2,(by show it+1<=4;omega),bo.2.2.1⟩)
         ·refine Am (v:= .bool false) rfl (λρ h=>LB (h _ _ rfl) (h _ _ rfl)) (C 5 rfl ?_);refine JL.ext (v:= .tuple #[]) rfl rfl rfl LG rfl rfl (C 4 rfl ?_);refine Am (v:=iV ((it+1:Nat):Int)) rfl (λρ h=>EZ (h _ _ rfl) (h _ _ rfl) (by unfold Av;rw [if_pos (by omega)];congr 1)) (C 6 rfl ?_);refine JL.uA rfl rfl (GW (kk:=kk) (p:= .Eg sv false (it+1)) bZ Z rfl rfl rfl rfl rfl GO Ib rfl λa7 cc bo=>⟨some (.Cj sv false (it+1) a7),List.mem_singleton.2 rfl,?_⟩);refine C 3 rfl (JL.again ?_);rw [← a6];exact Ek [(0,.pointer (some F.uA)),(2,iV wt),(3,.bool sv),(4,.bool false),(5,iV ((it+1:Nat):Int)),(6,.int .i32 (a7:M4).num)] rfl (b0 (sv,false,it+1,a7,wt) (by show 4 - (it+1)<N;omega) ⟨bo.2.2.2,(by show it+1<=4;omega),bo.2.2.1⟩)
        ·refine Ih rfl rfl rfl (C 12 rfl ?_);refine JL.ext (v:= .tuple #[]) rfl rfl rfl LG rfl rfl (C 4 rfl ?_);refine Am (v:=iV ((it+1:Nat):Int)) rfl (λρ h=>EZ (h _ _ rfl) (h _ _ rfl) (by unfold Av;rw [if_pos (by omega)];congr 1)) (C 6 rfl ?_);refine JL.uA rfl rfl (GW (kk:=kk) (p:= .Cj sv aw it old) bZ Z rfl rfl rfl rfl rfl GO Ib rfl λm q a4=>⟨some (.Cj sv aw (it+1) m),ON a3 b1 (λe=>c3 (by omega)),?_⟩);refine C 3 rfl (JL.again ?_);rw [← a6];exact Ek [(0,.pointer (some F.uA)),(2,iV wt),(3,.bool sv),(4,.bool aw),(5,iV ((it+1:Nat):Int)),(6,.int .i32 (m:M4).num)] rfl (b0 (sv,aw,it+1,m,wt) (by show 4 - (it+1)<N;omega) ⟨a4.2.2.2.2.2,(by show it+1<=4;omega),a4.2.2.2.2.1⟩)
       ·refine Ih rfl rfl rfl (C 17 rfl ?_);refine JL.ext (v:= .tuple #[]) rfl rfl rfl LG rfl rfl (C 4 rfl ?_);refine Am (v:=iV ((it+1:Nat):Int)) rfl (λρ h=>EZ (h _ _ rfl) (h _ _ rfl) (by unfold Av;rw [if_pos (by omega)];congr 1)) (C 6 rfl ?_);refine JL.uA rfl rfl (GW (kk:=kk) (p:= .Cj sv aw it old) bZ Z rfl rfl rfl rfl rfl GO Ib rfl λm q a4=>⟨some (.Cj sv aw (it+1) m),ON a3 b1 (λe=>c2 ((PU old).2 e.2.1)),?_⟩);refine C 3 rfl (JL.again ?_);rw [← a6];exact Ek [(0,.pointer (some F.uA)),(2,iV wt),(3,.bool sv),(4,.bool aw),(5,iV ((it+1:Nat):Int)),(6,.int .i32 (m:M4).num)] rfl (b0 (sv,aw,it+1,m,wt) (by show 4 - (it+1)<N;omega) ⟨a4.2.2.2.2.2,(by show it+1<=4;omega),a4.2.2.2.2.1⟩)
      ·refine Ih rfl rfl rfl (C 22 rfl ?_);refine JL.ext (v:= .tuple #[]) rfl rfl rfl LG rfl rfl (C 4 rfl ?_);refine Am (v:=iV ((it+1:Nat):Int)) rfl (λρ h=>EZ (h _ _ rfl) (h _ _ rfl) (by unfold Av;rw [if_pos (by omega)];congr 1)) (C 6 rfl ?_);refine JL.uA rfl rfl (GW (kk:=kk) (p:= .Cj sv aw it old) bZ Z rfl rfl rfl rfl rfl GO Ib rfl λm q a4=>⟨some (.Cj sv aw (it+1) m),ON a3 b1 (λe=>by rw [e.1] at c1;cases c1),?_⟩);refine C 3 rfl (JL.again ?_);rw [← a6];exact Ek [(0,.pointer (some F.uA)),(2,iV wt),(3,.bool sv),(4,.bool aw),(5,iV ((it+1:Nat):Int)),(6,.int .i32 (m:M4).num)] rfl (b0 (sv,aw,it+1,m,wt) (by show 4 - (it+1)<N;omega) ⟨a4.2.2.2.2.2,(by show it+1<=4;omega),a4.2.2.2.2.1⟩)
     ·refine Am (v:= .bool false) rfl (λρ h=>LB (h _ _ rfl) (h _ _ rfl)) (C 3 rfl ?_);exact Az (az _ _ ⟨rfl,rfl⟩) rfl
    ·refine Ih rfl rfl rfl (C 5 rfl ?_);exact Az (az _ _ ⟨rfl,rfl⟩) rfl
   rintro _ _ ⟨rfl,rfl⟩;refine C 6 rfl (Bu (λL s'=>s=s'/\L= [(0,.pointer (some F.uA)),(2,iV wt),(3,.bool sv),(4,.bool aw),(5,iV (it:Int)),(6,.int .i32 (old:M4).num),(7,.int .i32 ({old with l:=old.l || !old.s}:M4).num)]) ?_ ?_)
   rotate_left
   ·intro az;refine C 3 rfl (Am (v:=CQ (BE old&&& 4)) rfl (λρ h=>Ep (c:=4) a2 (h _ _ rfl) (h _ _ rfl) (by decide)) ?_);refine C 2 rfl (FN (p:=((BE old&&& 4:Nat):Int)=0) rfl (λc=>?_) (λc=>?_))
    ·refine JL.region (C 1 rfl ?_);refine Am (v:= .int .i32 ({old with l:=true}:M4).num) rfl (λρ h=>Nh (c:=1) a2 (by decide) (bO old) rfl (h _ _ rfl) (h _ _ rfl)) (C 2 rfl ?_);refine EO ?_ (az _ _ ⟨rfl,rfl⟩);exact⟨rfl,rfl,rfl,rfl,rfl,rfl,congrArg (λm:M4=>some (Value.int .i32 m.num)) (by rw [(HA old).1 c];simp),trivial⟩
    ·refine JL.skip (EO ?_ (az _ _ ⟨rfl,rfl⟩));exact⟨rfl,rfl,rfl,rfl,rfl,rfl,congrArg (λm:M4=>some (Value.int .i32 m.num)) ((Bool.eq_false_or_eq_true old.s).elim (GH old) (λhh=>absurd ((HA old).2 hh) c)),trivial⟩
   rintro _ _ ⟨rfl,rfl⟩;have cC:Ck {old with l:=old.l || !old.s}:=a2;refine JL.seq (Bu (λL s'=>s=s'/\L= [(0,.pointer (some F.uA)),(2,iV wt),(3,.bool sv),(4,.bool aw),(5,iV (it:Int)),(6,.int .i32 (old:M4).num),(7,.int .i32 ({old with l:=old.l || !old.s,w:=if old.l=true∨old.s=true then old.w+1 else old.w}:M4).num)]) ?_ ?_)
   rotate_left
   ·intro az;refine C 3 rfl (Am (v:=CQ (BE old&&& 5)) rfl (λρ h=>Ep (c:=5) a2 (h _ _ rfl) (h _ _ rfl) (by decide)) ?_);refine C 2 rfl (FN (p:=((BE old&&& 5:Nat):Int)≠0) rfl (λc=>?_) (λc=>?_))
    ·refine JL.region (C 1 rfl ?_);refine Am (v:= .int .i32 ({old with l:=old.l || !old.s,w:=old.w+1}:M4).num) rfl (λρ h=>Yt (m:={old with l:=old.l || !old.s}) b6 (h _ _ rfl) (h _ _ rfl)) (C 2 rfl ?_);refine EO ?_ (az _ _ ⟨rfl,rfl⟩);exact⟨rfl,rfl,rfl,rfl,rfl,rfl,congrArg (λm:M4=>some (Value.int .i32 m.num)) (by rw [if_pos (by have:=λe=>c ((L9 old).2 e);cases cD:old.l <;> cases cE:old.s <;> simp_all)]),trivial⟩
    ·refine JL.skip (EO ?_ (az _ _ ⟨rfl,rfl⟩));exact⟨rfl,rfl,rfl,rfl,rfl,rfl,congrArg (λm:M4=>some (Value.int .i32 m.num)) (by rw [if_neg (by have:=(L9 old).1 (Decidable.not_not.1 c);rw [this.1,this.2];simp)]),trivial⟩
   rintro _ _ ⟨rfl,rfl⟩;have cd:Ck ({old with l:=old.l || !old.s,w:=if old.l=true∨old.s=true then old.w+1 else old.w}:M4):=by unfold C9 at b6;unfold Ck;simp only;split <;> omega
   refine JL.seq (Bu (λL s'=>s=s'/\L= [(0,.pointer (some F.uA)),(2,iV wt),(3,.bool sv),(4,.bool aw),(5,iV (it:Int)),(6,.int .i32 (old:M4).num),(7,.int .i32 ({old with l:=old.l || !old.s,s:=old.s || (sv&&old.l),w:=if old.l=true∨old.s=true then old.w+1 else old.w}:M4).num)]) ?_ ?_)
   rotate_left
   ·intro az;refine C 4 rfl (Kb (c:=sv) (i:=61) rfl (λc1=>?_) (λc1=>?_))
    ·refine Am (v:= .int .i32 (old:M4).num) rfl (λρ h=>Yl.move (h _ _ rfl)) (Am (v:=CQ (BE old&&& 1)) rfl (λρ h=>Ep (c:=1) a2 (h _ _ rfl) (h _ _ rfl) (by decide)) ?_);refine C 3 rfl (FN (p:=((BE old&&& 1:Nat):Int)≠0) rfl (λc=>?_) (λc=>?_))
     ·refine JL.region (C 1 rfl ?_);refine Am (v:= .int .i32 ({old with s:=true,l:=old.l || !old.s,w:=if old.l=true∨old.s=true then old.w+1 else old.w}:M4).num) rfl (λρ h=>Nh (c:=4) (m:={old with l:=old.l || !old.s,w:=if old.l=true∨old.s=true then old.w+1 else old.w}) cd (by decide) (bU _) rfl (h _ _ rfl) (h _ _ rfl)) ?_
      refine C 2 rfl (EO ?_ (az _ _ ⟨rfl,rfl⟩));exact⟨rfl,rfl,rfl,rfl,rfl,rfl,congrArg (λm:M4=>some (Value.int .i32 m.num)) (by rcases Bool.eq_false_or_eq_true old.l with hh | hh <;> first | exact absurd ((PF old).2 hh) c | (rw [c1,hh];simp)),trivial⟩
     ·refine JL.skip (EO ?_ (az _ _ ⟨rfl,rfl⟩));exact⟨rfl,rfl,rfl,rfl,rfl,rfl,congrArg (λm:M4=>some (Value.int .i32 m.num)) (by have:=(PF old).1 (Decidable.not_not.1 c);rw [this];simp),trivial⟩
    ·refine Ih rfl rfl rfl (C 6 rfl ?_);refine EO ?_ (az _ _ ⟨rfl,rfl⟩);exact⟨rfl,rfl,rfl,rfl,rfl,rfl,congrArg (λm:M4=>some (Value.int .i32 m.num)) (by rw [c1];simp),trivial⟩
   rintro _ _ ⟨rfl,rfl⟩;have ce:Ck ({old with l:=old.l || !old.s,s:=old.s || (sv&&old.l),w:=if old.l=true∨old.s=true then old.w+1 else old.w}:M4):=cd
   refine JL.seq (Bu (λL s'=>s=s'/\L= [(0,.pointer (some F.uA)),(2,iV wt),(3,.bool sv),(4,.bool aw),(5,iV (it:Int)),(6,.int .i32 (old:M4).num),(7,.int .i32 (mN sv aw old:M4).num)]) ?_ ?_)
   rotate_left
   ·intro az;refine C 4 rfl (Oz (t:=aw) rfl (λc=>?_) (λc=>?_))
    ·have cf:old.k=true:=cr c;refine C 4 rfl ?_;refine Am (v:=CQ (BE ({old with l:=old.l || !old.s,s:=old.s || (sv&&old.l),w:=if old.l=true∨old.s=true then old.w+1 else old.w}:M4)&&& 2)) rfl (λρ h=>Ep (c:=2) (m:={old with l:=old.l || !old.s,s:=old.s || (sv&&old.l),w:=if old.l=true∨old.s=true then old.w+1 else old.w}) ce (h _ _ rfl) (h _ _ rfl) (by decide)) ?_
     refine Am (v:= .bool false) rfl (λρ h=>Yl.to (Yl.eql (h _ _ rfl) (h _ _ rfl)) (by rw [decide_eq_false (λe=>by have q:=(PU _).1 e;simp only at q;rw [cf] at q;cases q)])) (C 5 rfl ?_);refine Am (v:= .int .i32 ({old with k:=false,l:=old.l || !old.s,s:=old.s || (sv&&old.l),w:=if old.l=true∨old.s=true then old.w+1 else old.w}:M4).num) rfl (λρ h=>Yl.OS (m:={old with l:=old.l || !old.s,s:=old.s || (sv&&old.l),w:=if old.l=true∨old.s=true then old.w+1 else old.w}) ce cf (h _ _ rfl) (h _ _ rfl)) ?_
     refine C 2 rfl (EO ?_ (az _ _ ⟨rfl,rfl⟩));exact⟨rfl,rfl,rfl,rfl,rfl,rfl,congrArg (λm:M4=>some (Value.int .i32 m.num)) (by simp [mN,c]),trivial⟩
    ·refine JL.skip (EO ?_ (az _ _ ⟨rfl,rfl⟩));exact⟨rfl,rfl,rfl,rfl,rfl,rfl,congrArg (λm:M4=>some (Value.int .i32 m.num)) (by simp [mN,c]),trivial⟩
   rintro _ _ ⟨rfl,rfl⟩;refine C 4 rfl (JL.uA rfl rfl ?_);refine C 2 rfl (λT cu=>(AY Tryz.prog false).stop (hC (sv,aw,it,old,wt) _ bY λX cF cv O ay b2=>?_));refine OH (kk:=kk) (p:= .Cj sv aw it old) (old:=old) (nw:=mN sv aw old) cv Z rfl rfl rfl rfl rfl Ny rfl rfl rfl (λq a4=>?_) (λm q hm a4=>⟨some (.Eg sv aw it),W5 hm,?_⟩) T cu
   ·by_cases a3:old.l=false/\old.s=false
    ·refine⟨some .len,XM a3,?_⟩;refine C 6 rfl (Am (v:=CQ (BE old&&& 5)) rfl (λρ h=>Ep (c:=5) a2 (h _ _ rfl) (h _ _ rfl) (by decide)) ?_);refine Am (v:= .bool true) rfl (λρ h=>Yl.to (Yl.eql (h _ _ rfl) (h _ _ rfl)) (by rw [decide_eq_true ((L9 old).2 a3)])) (C 3 rfl ?_);exact a1 X O ay _ rfl
    ·by_cases cg:wt=0
     ·refine⟨some ((.Ic sv)),Rm a3 _ (.inl rfl),?_⟩;refine C 6 rfl (Am (v:=CQ (BE old&&& 5)) rfl (λρ h=>Ep (c:=5) a2 (h _ _ rfl) (h _ _ rfl) (by decide)) ?_);refine Am (v:= .bool false) rfl (λρ h=>Yl.to (Yl.eql (h _ _ rfl) (h _ _ rfl)) (by rw [decide_eq_false (λe=>a3 ((L9 old).1 e))])) ?_;refine C 13 rfl (Am (v:= .bool true) rfl (λρ h=>Yl.to (Yl.eql (h _ _ rfl) (h _ _ rfl)) (by rw [decide_eq_true cg])) ?_);refine C 3 rfl (On (kk:=kk) (p:= .Ic sv) O Z rfl rfl rfl rfl rfl Ps PQ λm a5 v ag=>⟨some (.Cv sv),List.mem_singleton.2 rfl,?_⟩);refine C 6 rfl (Am (v:= .pointer (some F.qA)) rfl (λρ h=>I2 (a:=F.uA) 0 1 Tryz.underlying136 Mw rfl rfl rfl (h _ _ rfl)) ?_);refine C 1 rfl (QQ (kk:=kk) (sv:=sv) O Z rfl rfl rfl rfl TK rfl rfl ?_);refine JL.done ?_;cases sv
      ·rw [if_neg (by decide)];refine C 4 rfl (On (kk:=kk) (p:= .FP) O Z rfl rfl rfl rfl rfl Ps PQ λcw cy v2 cz=>⟨some (.Es (decide (IntKind.i64.wrap (v2 - v)>1000000))),by (cases decide (IntKind.i64.wrap (v2 - v)>1000000) <;> simp [Fam.BX]),?_⟩);refine C 1 rfl (Am (v:= .int .i64 (IntKind.i64.wrap (v2 - v))) rfl (λρ h=>Yl.sub (h _ _ rfl) (h _ _ rfl)) ?_);refine C 4 rfl ?_;generalize decide (IntKind.i64.wrap (v2 - v)>1000000)=aq;refine C 4 rfl (JL.uA rfl rfl ?_);refine GW (kk:=kk) (p:= .Es aq) O Z rfl rfl rfl rfl rfl GO Ib rfl ?_;intro m b7 a0;have a8:C9 m:=a0.2.2;have al:Ck m:=a8.Ck;by_cases ac:m.s=true
       ·refine⟨some (.Ee (!aq || m.w==1)),by simp [Fam.BX,ac],?_⟩;refine C 2 rfl ?_;obtain⟨bv,bw,bx⟩:=a0.1 ac;refine C 4 rfl (Am (v:=CQ (BE m&&& 4)) rfl (λρ h=>Ep (c:=4) al (h _ _ rfl) (h _ _ rfl) (by decide)) ?_);refine Am (v:= .bool true) rfl (λρ h=>Yl.to (Hq (h _ _ rfl) (h _ _ rfl)) (by have bz:(((BE m&&& 4:Nat):Int)≠0):=(λe=>by rw [(HA m).1 e] at ac;cases ac);rw [decide_eq_true bz])) ?_;refine C 6 rfl (Am (v:=CQ (BE m&&& 3)) rfl (λρ h=>Ep (c:=3) al (h _ _ rfl) (h _ _ rfl) (by decide)) ?_);refine Am (v:= .bool false) rfl (λρ h=>Yl.to (Hq (h _ _ rfl) (h _ _ rfl)) (by rw [(Nu m).2 ⟨bv,bw⟩];rfl)) (C 2 rfl ?_);refine Am (v:=CQ m.w) rfl (λρ h=>Iz al (h _ _ rfl) (h _ _ rfl)) (Am (v:= .bool false) rfl (λρ h=>Yl.to (Yl.eql (h _ _ rfl) (h _ _ rfl)) (by rw [decide_eq_false (λe=>bx (by omega))])) ?_);refine C 12 rfl (Am (v:= .bool (!aq)) rfl (λρ h=>Yl.not (h _ _ rfl)) ?_);refine C 1 rfl (Kb (c:= !aq) (i:=119) rfl (λd1=>?_) (λd1=>?_))
        ·refine Ih rfl rfl rfl (C 5 rfl ?_);have hex:(!aq || m.w==1)=true:=by rw [d1];simp
         rw [hex];refine C 2 rfl (Am (v:= .int .i32 (-11)) rfl (λρ h=>Yl.to (Yl.sub (h _ _ rfl) (h _ _ rfl)) rfl) ?_);refine C 6 rfl (JL.uA rfl rfl ?_);refine C 1 rfl (GU (kk:=kk) (p:= .Ee true) (dl:= -11) O Z rfl rfl rfl rfl rfl G3 rfl rfl λK a5 ag=>⟨⟨true,K.k,false,K.w - 1⟩,some .len,?_,List.mem_singleton.2 rfl,?_⟩)
         ·obtain⟨a9,bb,bd,w3⟩:=K;obtain⟨U,g2,V,am,be,ap⟩:=ag;simp only at U g2 V am;subst U g2 V;have bi:w3<134217728:=ap;have e:(⟨false,false,true,w3⟩:M4).num+(-11)=((8*(w3 - 1)+1:Nat):Int):=by simp only [M4.num,Bool.toNat_true,Bool.toNat_false];omega
          rw [e,Fo (by omega)];simp only [M4.num,Bool.toNat_true,Bool.toNat_false];omega
         exact C 2 rfl (a1 X O ay _ rfl)
        ·refine Am (v:= .int .i32 (m:M4).num) rfl (λρ h=>Yl.move (h _ _ rfl)) (Am (v:=CQ m.w) rfl (λρ h=>Iz al (h _ _ rfl) (h _ _ rfl)) ?_);refine C 3 rfl (FN (p:=(m.w:Int)=1) rfl (λd2=>?_) (λd2=>?_))
         ·have hex:(!aq || m.w==1)=true:=by rw [d1];simp;omega
          rw [hex];refine C 2 rfl (Am (v:= .int .i32 (-11)) rfl (λρ h=>Yl.to (Yl.sub (h _ _ rfl) (h _ _ rfl)) rfl) ?_);refine C 6 rfl (JL.uA rfl rfl ?_);refine C 1 rfl (GU (kk:=kk) (p:= .Ee true) (dl:= -11) O Z rfl rfl rfl rfl rfl G3 rfl rfl λK a5 ag=>⟨⟨true,K.k,false,K.w - 1⟩,some .len,?_,List.mem_singleton.2 rfl,?_⟩)
          ·obtain⟨a9,bb,bd,w3⟩:=K;obtain⟨U,g2,V,am,be,ap⟩:=ag;simp only at U g2 V am;subst U g2 V;have bi:w3<134217728:=ap;have e:(⟨false,false,true,w3⟩:M4).num+(-11)=((8*(w3 - 1)+1:Nat):Int):=by simp only [M4.num,Bool.toNat_true,Bool.toNat_false];omega
           rw [e,Fo (by omega)];simp only [M4.num,Bool.toNat_true,Bool.toNat_false];omega
          exact C 2 rfl (a1 X O ay _ rfl)
         ·have hex:(!aq || m.w==1)=false:=by rw [d1];simp;omega
          rw [hex];refine C 5 rfl (JL.uA rfl rfl ?_);refine C 1 rfl (GU (kk:=kk) (p:= .Ee false) (dl:= -7) O Z rfl rfl rfl rfl rfl G3 rfl rfl λK a5 ag=>⟨⟨true,K.k,true,K.w - 1⟩,some .len,?_,List.mem_singleton.2 rfl,?_⟩)
          ·obtain⟨a9,bb,bd,w3⟩:=K;obtain⟨U,g2,V,am,be,ap⟩:=ag;simp only at U g2 V am;subst U g2 V;have bi:w3<134217728:=ap;have e:(⟨false,false,true,w3⟩:M4).num+(-7)=((8*(w3 - 1)+5:Nat):Int):=by simp only [M4.num,Bool.toNat_true,Bool.toNat_false];omega
           rw [e,Fo (by omega)];simp only [M4.num,Bool.toNat_true,Bool.toNat_false];omega
          exact C 2 rfl (a1 X O ay _ rfl)
       ·refine⟨some (.Cj aq true 0 m),by simp [Fam.BX,ac],?_⟩;refine C 2 rfl ?_;have bn:m.s=false:=by simpa using ac
        refine C 4 rfl (Am (v:=CQ (BE m&&& 4)) rfl (λρ h=>Ep (c:=4) al (h _ _ rfl) (h _ _ rfl) (by decide)) ?_);refine Am (v:= .bool false) rfl (λρ h=>Yl.to (Hq (h _ _ rfl) (h _ _ rfl)) (by rw [(HA m).2 bn];rfl)) (C 11 rfl ?_);refine JL.again ?_;rw [← a6];exact Ek [(0,.pointer (some F.uA)),(2,iV v),(3,.bool aq),(4,.bool true),(5,iV ((0:Nat):Int)),(6,.int .i32 (m:M4).num)] rfl (b2 (aq,true,0,m,v) ⟨λ_=>a0.2.1 bn,Nat.zero_le _,a8⟩)
      ·rw [if_pos rfl];refine C 15 rfl (JL.uA rfl rfl ?_);refine GW (kk:=kk) (p:= .Es true) O Z rfl rfl rfl rfl rfl GO Ib rfl ?_;intro m b7 a0;have a8:C9 m:=a0.2.2;have al:Ck m:=a8.Ck;by_cases ac:m.s=true
       ·refine⟨some (.Ee (!true || m.w==1)),by simp [Fam.BX,ac],?_⟩;refine C 2 rfl ?_;obtain⟨bv,bw,bx⟩:=a0.1 ac;refine C 4 rfl (Am (v:=CQ (BE m&&& 4)) rfl (λρ h=>Ep (c:=4) al (h _ _ rfl) (h _ _ rfl) (by decide)) ?_);refine Am (v:= .bool true) rfl (λρ h=>Yl.to (Hq (h _ _ rfl) (h _ _ rfl)) (by have bz:(((BE m&&& 4:Nat):Int)≠0):=(λe=>by rw [(HA m).1 e] at ac;cases ac);rw [decide_eq_true bz])) ?_;refine C 6 rfl (Am (v:=CQ (BE m&&& 3)) rfl (λρ h=>Ep (c:=3) al (h _ _ rfl) (h _ _ rfl) (by decide)) ?_);refine Am (v:= .bool false) rfl (λρ h=>Yl.to (Hq (h _ _ rfl) (h _ _ rfl)) (by rw [(Nu m).2 ⟨bv,bw⟩];rfl)) (C 2 rfl ?_);refine Am (v:=CQ m.w) rfl (λρ h=>Iz al (h _ _ rfl) (h _ _ rfl)) (Am (v:= .bool false) rfl (λρ h=>Yl.to (Yl.eql (h _ _ rfl) (h _ _ rfl)) (by rw [decide_eq_false (λe=>bx (by omega))])) ?_);refine C 12 rfl (Am (v:= .bool (!true)) rfl (λρ h=>Yl.not (h _ _ rfl)) ?_);refine C 1 rfl (Kb (c:= !true) (i:=119) rfl (λd1=>?_) (λd1=>?_))
        ·refine Ih rfl rfl rfl (C 5 rfl ?_);have hex:(!true || m.w==1)=true:=by rw [d1];simp
         rw [hex];refine C 2 rfl (Am (v:= .int .i32 (-11)) rfl (λρ h=>Yl.to (Yl.sub (h _ _ rfl) (h _ _ rfl)) rfl) ?_);refine C 6 rfl (JL.uA rfl rfl ?_);refine C 1 rfl (GU (kk:=kk) (p:= .Ee true) (dl:= -11) O Z rfl rfl rfl rfl rfl G3 rfl rfl λK a5 ag=>⟨⟨true,K.k,false,K.w - 1⟩,some .len,?_,List.mem_singleton.2 rfl,?_⟩)
         ·obtain⟨a9,bb,bd,w3⟩:=K;obtain⟨U,g2,V,am,be,ap⟩:=ag;simp only at U g2 V am;subst U g2 V;have bi:w3<134217728:=ap;have e:(⟨false,false,true,w3⟩:M4).num+(-11)=((8*(w3 - 1)+1:Nat):Int):=by simp only [M4.num,Bool.toNat_true,Bool.toNat_false];omega
          rw [e,Fo (by omega)];simp only [M4.num,Bool.toNat_true,Bool.toNat_false];omega
         exact C 2 rfl (a1 X O ay _ rfl)
        ·refine Am (v:= .int .i32 (m:M4).num) rfl (λρ h=>Yl.move (h _ _ rfl)) (Am (v:=CQ m.w) rfl (λρ h=>Iz al (h _ _ rfl) (h _ _ rfl)) ?_);refine C 3 rfl (FN (p:=(m.w:Int)=1) rfl (λd2=>?_) (λd2=>?_))
         ·have hex:(!true || m.w==1)=true:=by rw [d1];simp;omega
          rw [hex];refine C 2 rfl (Am (v:= .int .i32 (-11)) rfl (λρ h=>Yl.to (Yl.sub (h _ _ rfl) (h _ _ rfl)) rfl) ?_);refine C 6 rfl (JL.uA rfl rfl ?_);refine C 1 rfl (GU (kk:=kk) (p:= .Ee true) (dl:= -11) O Z rfl rfl rfl rfl rfl G3 rfl rfl λK a5 ag=>⟨⟨true,K.k,false,K.w - 1⟩,some .len,?_,List.mem_singleton.2 rfl,?_⟩)
          ·obtain⟨a9,bb,bd,w3⟩:=K;obtain⟨U,g2,V,am,be,ap⟩:=ag;simp only at U g2 V am;subst U g2 V;have bi:w3<134217728:=ap;have e:(⟨false,false,true,w3⟩:M4).num+(-11)=((8*(w3 - 1)+1:Nat):Int):=by simp only [M4.num,Bool.toNat_true,Bool.toNat_false];omega
           rw [e,Fo (by omega)];simp only [M4.num,Bool.toNat_true,Bool.toNat_false];omega
          exact C 2 rfl (a1 X O ay _ rfl)
         ·have hex:(!true || m.w==1)=false:=by rw [d1];simp;omega
          rw [hex];refine C 5 rfl (JL.uA rfl rfl ?_);refine C 1 rfl (GU (kk:=kk) (p:= .Ee false) (dl:= -7) O Z rfl rfl rfl rfl rfl G3 rfl rfl λK a5 ag=>⟨⟨true,K.k,true,K.w - 1⟩,some .len,?_,List.mem_singleton.2 rfl,?_⟩)
          ·obtain⟨a9,bb,bd,w3⟩:=K;obtain⟨U,g2,V,am,be,ap⟩:=ag;simp only at U g2 V am;subst U g2 V;have bi:w3<134217728:=ap;have e:(⟨false,false,true,w3⟩:M4).num+(-7)=((8*(w3 - 1)+5:Nat):Int):=by simp only [M4.num,Bool.toNat_true,Bool.toNat_false];omega
           rw [e,Fo (by omega)];simp only [M4.num,Bool.toNat_true,Bool.toNat_false];omega
          exact C 2 rfl (a1 X O ay _ rfl)
       ·refine⟨some (.Cj true true 0 m),by simp [Fam.BX,ac],?_⟩;refine C 2 rfl ?_;have bn:m.s=false:=by simpa using ac
        refine C 4 rfl (Am (v:=CQ (BE m&&& 4)) rfl (λρ h=>Ep (c:=4) al (h _ _ rfl) (h _ _ rfl) (by decide)) ?_);refine Am (v:= .bool false) rfl (λρ h=>Yl.to (Hq (h _ _ rfl) (h _ _ rfl)) (by rw [(HA m).2 bn];rfl)) (C 11 rfl ?_);refine JL.again ?_;rw [← a6];exact Ek [(0,.pointer (some F.uA)),(2,iV v),(3,.bool true),(4,.bool true),(5,iV ((0:Nat):Int)),(6,.int .i32 (m:M4).num)] rfl (b2 (true,true,0,m,v) ⟨λ_=>a0.2.1 bn,Nat.zero_le _,a8⟩)
     ·refine⟨some ((.Cv sv)),Rm a3 _ (.inr rfl),?_⟩;refine C 6 rfl (Am (v:=CQ (BE old&&& 5)) rfl (λρ h=>Ep (c:=5) a2 (h _ _ rfl) (h _ _ rfl) (by decide)) ?_);refine Am (v:= .bool false) rfl (λρ h=>Yl.to (Yl.eql (h _ _ rfl) (h _ _ rfl)) (by rw [decide_eq_false (λe=>a3 ((L9 old).1 e))])) ?_;refine C 13 rfl (Am (v:= .bool false) rfl (λρ h=>Yl.to (Yl.eql (h _ _ rfl) (h _ _ rfl)) (by rw [decide_eq_false cg])) ?_);refine C 7 rfl (Am (v:= .pointer (some F.qA)) rfl (λρ h=>I2 (a:=F.uA) 0 1 Tryz.underlying136 Mw rfl rfl rfl (h _ _ rfl)) ?_);refine C 1 rfl (QQ (kk:=kk) (sv:=sv) O Z rfl rfl rfl rfl TK rfl rfl ?_);refine JL.done ?_;cases sv
      ·rw [if_neg (by decide)];refine C 4 rfl (On (kk:=kk) (p:= .FP) O Z rfl rfl rfl rfl rfl Ps PQ λcw cy v2 cz=>⟨some (.Es (decide (IntKind.i64.wrap (v2 - wt)>1000000))),by (cases decide (IntKind.i64.wrap (v2 - wt)>1000000) <;> simp [Fam.BX]),?_⟩);refine C 1 rfl (Am (v:= .int .i64 (IntKind.i64.wrap (v2 - wt))) rfl (λρ h=>Yl.sub (h _ _ rfl) (h _ _ rfl)) ?_);refine C 4 rfl ?_;generalize decide (IntKind.i64.wrap (v2 - wt)>1000000)=aq;refine C 4 rfl (JL.uA rfl rfl ?_);refine GW (kk:=kk) (p:= .Es aq) O Z rfl rfl rfl rfl rfl GO Ib rfl ?_;intro m b7 a0;have a8:C9 m:=a0.2.2;have al:Ck m:=a8.Ck;by_cases ac:m.s=true
       ·refine⟨some (.Ee (!aq || m.w==1)),by simp [Fam.BX,ac],?_⟩;refine C 2 rfl ?_;obtain⟨bv,bw,bx⟩:=a0.1 ac;refine C 4 rfl (Am (v:=CQ (BE m&&& 4)) rfl (λρ h=>Ep (c:=4) al (h _ _ rfl) (h _ _ rfl) (by decide)) ?_);refine Am (v:= .bool true) rfl (λρ h=>Yl.to (Hq (h _ _ rfl) (h _ _ rfl)) (by have bz:(((BE m&&& 4:Nat):Int)≠0):=(λe=>by rw [(HA m).1 e] at ac;cases ac);rw [decide_eq_true bz])) ?_;refine C 6 rfl (Am (v:=CQ (BE m&&& 3)) rfl (λρ h=>Ep (c:=3) al (h _ _ rfl) (h _ _ rfl) (by decide)) ?_);refine Am (v:= .bool false) rfl (λρ h=>Yl.to (Hq (h _ _ rfl) (h _ _ rfl)) (by rw [(Nu m).2 ⟨bv,bw⟩];rfl)) (C 2 rfl ?_);refine Am (v:=CQ m.w) rfl (λρ h=>Iz al (h _ _ rfl) (h _ _ rfl)) (Am (v:= .bool false) rfl (λρ h=>Yl.to (Yl.eql (h _ _ rfl) (h _ _ rfl)) (by rw [decide_eq_false (λe=>bx (by omega))])) ?_);refine C 12 rfl (Am (v:= .bool (!aq)) rfl (λρ h=>Yl.not (h _ _ rfl)) ?_);refine C 1 rfl (Kb (c:= !aq) (i:=119) rfl (λd1=>?_) (λd1=>?_))
        ·refine Ih rfl rfl rfl (C 5 rfl ?_);have hex:(!aq || m.w==1)=true:=by rw [d1];simp
         rw [hex];refine C 2 rfl (Am (v:= .int .i32 (-11)) rfl (λρ h=>Yl.to (Yl.sub (h _ _ rfl) (h _ _ rfl)) rfl) ?_);refine C 6 rfl (JL.uA rfl rfl ?_);refine C 1 rfl (GU (kk:=kk) (p:= .Ee true) (dl:= -11) O Z rfl rfl rfl rfl rfl G3 rfl rfl λK a5 ag=>⟨⟨true,K.k,false,K.w - 1⟩,some .len,?_,List.mem_singleton.2 rfl,?_⟩)
         ·obtain⟨a9,bb,bd,w3⟩:=K;obtain⟨U,g2,V,am,be,ap⟩:=ag;simp only at U g2 V am;subst U g2 V;have bi:w3<134217728:=ap;have e:(⟨false,false,true,w3⟩:M4).num+(-11)=((8*(w3 - 1)+1:Nat):Int):=by simp only [M4.num,Bool.toNat_true,Bool.toNat_false];omega
          rw [e,Fo (by omega)];simp only [M4.num,Bool.toNat_true,Bool.toNat_false];omega
         exact C 2 rfl (a1 X O ay _ rfl)
        ·refine Am (v:= .int .i32 (m:M4).num) rfl (λρ h=>Yl.move (h _ _ rfl)) (Am (v:=CQ m.w) rfl (λρ h=>Iz al (h _ _ rfl) (h _ _ rfl)) ?_);refine C 3 rfl (FN (p:=(m.w:Int)=1) rfl (λd2=>?_) (λd2=>?_))
         ·have hex:(!aq || m.w==1)=true:=by rw [d1];simp;omega
          rw [hex];refine C 2 rfl (Am (v:= .int .i32 (-11)) rfl (λρ h=>Yl.to (Yl.sub (h _ _ rfl) (h _ _ rfl)) rfl) ?_);refine C 6 rfl (JL.uA rfl rfl ?_);refine C 1 rfl (GU (kk:=kk) (p:= .Ee true) (dl:= -11) O Z rfl rfl rfl rfl rfl G3 rfl rfl λK a5 ag=>⟨⟨true,K.k,false,K.w - 1⟩,some .len,?_,List.mem_singleton.2 rfl,?_⟩)
          ·obtain⟨a9,bb,bd,w3⟩:=K;obtain⟨U,g2,V,am,be,ap⟩:=ag;simp only at U g2 V am;subst U g2 V;have bi:w3<134217728:=ap;have e:(⟨false,false,true,w3⟩:M4).num+(-11)=((8*(w3 - 1)+1:Nat):Int):=by simp only [M4.num,Bool.toNat_true,Bool.toNat_false];omega
           rw [e,Fo (by omega)];simp only [M4.num,Bool.toNat_true,Bool.toNat_false];omega
          exact C 2 rfl (a1 X O ay _ rfl)
         ·have hex:(!aq || m.w==1)=false:=by rw [d1];simp;omega
          rw [hex];refine C 5 rfl (JL.uA rfl rfl ?_);refine C 1 rfl (GU (kk:=kk) (p:= .Ee false) (dl:= -7) O Z rfl rfl rfl rfl rfl G3 rfl rfl λK a5 ag=>⟨⟨true,K.k,true,K.w - 1⟩,some .len,?_,List.mem_singleton.2 rfl,?_⟩)
          ·obtain⟨a9,bb,bd,w3⟩:=K;obtain⟨U,g2,V,am,be,ap⟩:=ag;simp only at U g2 V am;subst U g2 V;have bi:w3<134217728:=ap;have e:(⟨false,false,true,w3⟩:M4).num+(-7)=((8*(w3 - 1)+5:Nat):Int):=by simp only [M4.num,Bool.toNat_true,Bool.toNat_false];omega
           rw [e,Fo (by omega)];simp only [M4.num,Bool.toNat_true,Bool.toNat_false];omega
          exact C 2 rfl (a1 X O ay _ rfl)
       ·refine⟨some (.Cj aq true 0 m),by simp [Fam.BX,ac],?_⟩;refine C 2 rfl ?_;have bn:m.s=false:=by simpa using ac
        refine C 4 rfl (Am (v:=CQ (BE m&&& 4)) rfl (λρ h=>Ep (c:=4) al (h _ _ rfl) (h _ _ rfl) (by decide)) ?_);refine Am (v:= .bool false) rfl (λρ h=>Yl.to (Hq (h _ _ rfl) (h _ _ rfl)) (by rw [(HA m).2 bn];rfl)) (C 11 rfl ?_);refine JL.again ?_;rw [← a6];exact Ek [(0,.pointer (some F.uA)),(2,iV wt),(3,.bool aq),(4,.bool true),(5,iV ((0:Nat):Int)),(6,.int .i32 (m:M4).num)] rfl (b2 (aq,true,0,m,wt) ⟨λ_=>a0.2.1 bn,Nat.zero_le _,a8⟩)
      ·rw [if_pos rfl];refine C 15 rfl (JL.uA rfl rfl ?_);refine GW (kk:=kk) (p:= .Es true) O Z rfl rfl rfl rfl rfl GO Ib rfl ?_;intro m b7 a0;have a8:C9 m:=a0.2.2;have al:Ck m:=a8.Ck;by_cases ac:m.s=true
       ·refine⟨some (.Ee (!true || m.w==1)),by simp [Fam.BX,ac],?_⟩;refine C 2 rfl ?_;obtain⟨bv,bw,bx⟩:=a0.1 ac;refine C 4 rfl (Am (v:=CQ (BE m&&& 4)) rfl (λρ h=>Ep (c:=4) al (h _ _ rfl) (h _ _ rfl) (by decide)) ?_);refine Am (v:= .bool true) rfl (λρ h=>Yl.to (Hq (h _ _ rfl) (h _ _ rfl)) (by have bz:(((BE m&&& 4:Nat):Int)≠0):=(λe=>by rw [(HA m).1 e] at ac;cases ac);rw [decide_eq_true bz])) ?_;refine C 6 rfl (Am (v:=CQ (BE m&&& 3)) rfl (λρ h=>Ep (c:=3) al (h _ _ rfl) (h _ _ rfl) (by decide)) ?_);refine Am (v:= .bool false) rfl (λρ h=>Yl.to (Hq (h _ _ rfl) (h _ _ rfl)) (by rw [(Nu m).2 ⟨bv,bw⟩];rfl)) (C 2 rfl ?_);refine Am (v:=CQ m.w) rfl (λρ h=>Iz al (h _ _ rfl) (h _ _ rfl)) (Am (v:= .bool false) rfl (λρ h=>Yl.to (Yl.eql (h _ _ rfl) (h _ _ rfl)) (by rw [decide_eq_false (λe=>bx (by omega))])) ?_);refine C 12 rfl (Am (v:= .bool (!true)) rfl (λρ h=>Yl.not (h _ _ rfl)) ?_);refine C 1 rfl (Kb (c:= !true) (i:=119) rfl (λd1=>?_) (λd1=>?_))
        ·refine Ih rfl rfl rfl (C 5 rfl ?_);have hex:(!true || m.w==1)=true:=by rw [d1];simp
         rw [hex];refine C 2 rfl (Am (v:= .int .i32 (-11)) rfl (λρ h=>Yl.to (Yl.sub (h _ _ rfl) (h _ _ rfl)) rfl) ?_);refine C 6 rfl (JL.uA rfl rfl ?_);refine C 1 rfl (GU (kk:=kk) (p:= .Ee true) (dl:= -11) O Z rfl rfl rfl rfl rfl G3 rfl rfl λK a5 ag=>⟨⟨true,K.k,false,K.w - 1⟩,some .len,?_,List.mem_singleton.2 rfl,?_⟩)
         ·obtain⟨a9,bb,bd,w3⟩:=K;obtain⟨U,g2,V,am,be,ap⟩:=ag;simp only at U g2 V am;subst U g2 V;have bi:w3<134217728:=ap;have e:(⟨false,false,true,w3⟩:M4).num+(-11)=((8*(w3 - 1)+1:Nat):Int):=by simp only [M4.num,Bool.toNat_true,Bool.toNat_false];omega
          rw [e,Fo (by omega)];simp only [M4.num,Bool.toNat_true,Bool.toNat_false];omega
         exact C 2 rfl (a1 X O ay _ rfl)
        ·refine Am (v:= .int .i32 (m:M4).num) rfl (λρ h=>Yl.move (h _ _ rfl)) (Am (v:=CQ m.w) rfl (λρ h=>Iz al (h _ _ rfl) (h _ _ rfl)) ?_);refine C 3 rfl (FN (p:=(m.w:Int)=1) rfl (λd2=>?_) (λd2=>?_))
         ·have hex:(!true || m.w==1)=true:=by rw [d1];simp;omega
          rw [hex];refine C 2 rfl (Am (v:= .int .i32 (-11)) rfl (λρ h=>Yl.to (Yl.sub (h _ _ rfl) (h _ _ rfl)) rfl) ?_);refine C 6 rfl (JL.uA rfl rfl ?_);refine C 1 rfl (GU (kk:=kk) (p:= .Ee true) (dl:= -11) O Z rfl rfl rfl rfl rfl G3 rfl rfl λK a5 ag=>⟨⟨true,K.k,false,K.w - 1⟩,some .len,?_,List.mem_singleton.2 rfl,?_⟩)
          ·obtain⟨a9,bb,bd,w3⟩:=K;obtain⟨U,g2,V,am,be,ap⟩:=ag;simp only at U g2 V am;subst U g2 V;have bi:w3<134217728:=ap;have e:(⟨false,false,true,w3⟩:M4).num+(-11)=((8*(w3 - 1)+1:Nat):Int):=by simp only [M4.num,Bool.toNat_true,Bool.toNat_false];omega
           rw [e,Fo (by omega)];simp only [M4.num,Bool.toNat_true,Bool.toNat_false];omega
          exact C 2 rfl (a1 X O ay _ rfl)
         ·have hex:(!true || m.w==1)=false:=by rw [d1];simp;omega
          rw [hex];refine C 5 rfl (JL.uA rfl rfl ?_);refine C 1 rfl (GU (kk:=kk) (p:= .Ee false) (dl:= -7) O Z rfl rfl rfl rfl rfl G3 rfl rfl λK a5 ag=>⟨⟨true,K.k,true,K.w - 1⟩,some .len,?_,List.mem_singleton.2 rfl,?_⟩)
          ·obtain⟨a9,bb,bd,w3⟩:=K;obtain⟨U,g2,V,am,be,ap⟩:=ag;simp only at U g2 V am;subst U g2 V;have bi:w3<134217728:=ap;have e:(⟨false,false,true,w3⟩:M4).num+(-7)=((8*(w3 - 1)+5:Nat):Int):=by simp only [M4.num,Bool.toNat_true,Bool.toNat_false];omega
           rw [e,Fo (by omega)];simp only [M4.num,Bool.toNat_true,Bool.toNat_false];omega
          exact C 2 rfl (a1 X O ay _ rfl)
       ·refine⟨some (.Cj true true 0 m),by simp [Fam.BX,ac],?_⟩;refine C 2 rfl ?_;have bn:m.s=false:=by simpa using ac
        refine C 4 rfl (Am (v:=CQ (BE m&&& 4)) rfl (λρ h=>Ep (c:=4) al (h _ _ rfl) (h _ _ rfl) (by decide)) ?_);refine Am (v:= .bool false) rfl (λρ h=>Yl.to (Hq (h _ _ rfl) (h _ _ rfl)) (by rw [(HA m).2 bn];rfl)) (C 11 rfl ?_);refine JL.again ?_;rw [← a6];exact Ek [(0,.pointer (some F.uA)),(2,iV wt),(3,.bool true),(4,.bool true),(5,iV ((0:Nat):Int)),(6,.int .i32 (m:M4).num)] rfl (b2 (true,true,0,m,wt) ⟨λ_=>a0.2.1 bn,Nat.zero_le _,a8⟩)
   ·refine JL.done (C 4 rfl ?_);refine JL.uA rfl rfl (GW (kk:=kk) (p:= .Eg sv aw it) O Z rfl rfl rfl rfl rfl GO Ib rfl λa7 cc bo=>⟨some (.Cj sv aw it a7),List.mem_singleton.2 rfl,?_⟩);refine C 3 rfl (JL.again ?_);rw [← a6];exact Ek [(0,.pointer (some F.uA)),(2,iV wt),(3,.bool sv),(4,.bool aw),(5,iV (it:Int)),(6,.int .i32 (a7:M4).num)] rfl (b2 (sv,aw,it,a7,wt) ⟨bo.2.2.2,bY.2.1,bo.2.2.1⟩)
 exact λa b8=>key 5 a (by omega) b8
set_option maxHeartbeats 4000000 in
theorem VA{F:Fam}{n:Nat}{L:Env}{ds:Ld_}{k:Li_}{cs:Lf_}{s:St}{b:Frame}{ops:Ao_}{i:Nat}{rest:List Nat}{d:Option Tmp}{x:Operand}{ats:Array TypeId}{ty:TypeId}{pp:String}{af:Ae_}{g:On_}{kk:Nat}(K:s.q=false)(O:ops[i]? =some ⟨d,.call ⟨.value (.func 135),#[x],ats⟩,ty,pp,af,g⟩)(hw:AR L ops ⟨d,.call ⟨.value (.func 135),#[x],ats⟩,ty,pp,af,g⟩=some true)(U:((b.kind != .early)&&Bg n d)=true)(V:ev L x=some (.pointer (some F.uA)))
  (h:JL (AY Tryz.prog false) (Stop Tryz.prog F (.lk kk .Fu)) b n (As L d (.tuple #[])) ds (.inRegion ops rest::k) cs s):
  JL (AY Tryz.prog false) (Stop Tryz.prog F (.lk kk .FT)) b n L ds (.inRegion ops (i::rest)::k) cs s:=by
 refine GX (vs:= [.pointer (some F.uA)]) O hw U Tryz.func135 (by decide+kernel) rfl (by simp [evs,V]) (Nat.le_of_ble_eq_true rfl) λZ back=>C 2 rfl (KT (kk:=kk) (p:= .FT) CY.stop K rfl (λ_ _=>rfl) rfl rfl rfl rfl (by simp) TT ?_);refine C 6 rfl (JL.uA rfl rfl ?_);refine Ro (kk:=kk) (p:= .G4) (old:=M4.zero) (nw:=⟨true,false,false,0⟩) CY.stop K rfl rfl rfl rfl rfl Ny rfl rfl rfl (λq Y=>⟨some .len,by simp [Fam.BX],?_⟩) (λm q hm Y=>⟨some (.Eg false false 0),by simp [Fam.BX,hm],?_⟩)
 ·refine JL.done (C 5 rfl ?_);refine KT (kk:=kk) (p:= .len) CY.stop K rfl (λ_ _=>rfl) rfl rfl rfl rfl (by simp) NK (C 3 rfl ?_);refine Ok (kk:=kk) (p:= .Ky) CY.stop K rfl (λ_ _=>rfl) rfl rfl rfl rfl Tryz.underlying247 Tryz.underlying174 OO rfl (O0 (kk:=kk) (p:= .JH) (ad:=F.uA) CY.stop K rfl (λ_ _=>rfl) rfl rfl rfl rfl (by simp) T9 rfl rfl ?_);exact JL.done (JL.ret rfl rfl (BB.none Tryz.func135 rfl) (back _ _ _ _ h))
 ·refine JL.done (C 4 rfl ?_);refine Wd (kk:=kk) K rfl rfl rfl rfl (JL.done ?_);exact JL.fin rfl rfl (BB.none Tryz.func135 rfl) (back _ _ _ _ h)
set_option maxHeartbeats 4000000 in
theorem Wu{F:Fam}{n:Nat}{L:Env}{ds:Ld_}{k:Li_}{cs:Lf_}{s:St}{b:Frame}{ops:Ao_}{i:Nat}{rest:List Nat}{d:Option Tmp}{x:Operand}{ats:Array TypeId}{ty:TypeId}{pp:String}{af:Ae_}{g:On_}{kk:Nat}(K:s.q=false)(O:ops[i]? =some ⟨d,.call ⟨.value (.func 98),#[x],ats⟩,ty,pp,af,g⟩)(hw:AR L ops ⟨d,.call ⟨.value (.func 98),#[x],ats⟩,ty,pp,af,g⟩=some true)(U:((b.kind != .early)&&Bg n d)=true)(V:ev L x=some (.pointer (some F.uA)))
  (h:JL (AY Tryz.prog false) (Stop Tryz.prog F (.lk kk .Fu)) b n (As L d (.tuple #[])) ds (.inRegion ops rest::k) cs s):
  JL (AY Tryz.prog false) (Stop Tryz.prog F (.lk kk .FT)) b n L ds (.inRegion ops (i::rest)::k) cs s:=by
 refine GX (vs:= [.pointer (some F.uA)]) O hw U Tryz.func98 (by decide+kernel) rfl (by simp [evs,V]) (Nat.le_of_ble_eq_true rfl) λY back=>C 3 rfl (Am (v:= .pointer (some F.uA)) rfl (λρ h=>I2 (a:=F.uA) 1 0 Tryz.underlying138 (AJ Tryz.type136) rfl rfl rfl (h _ _ rfl)) ?_);refine VA (kk:=kk) K rfl rfl rfl rfl (JL.done ?_);exact JL.fin rfl rfl (BB.none Tryz.func98 rfl) (back _ _ _ _ h)
def Ip(m:M4):LP:=if m.l=false/\m.k=false/\m.s=false/\m.w≠0 then .EC m else .EU
def P1(m:M4):LP:=if m.s=true then .ER true else if m.k=false/\m.w≠0 then .EC {m with l:=false} else .EU
set_option maxHeartbeats 4000000 in
theorem Vy{F:Fam}{n:Nat}{L:Env}{ds:Ld_}{k:Li_}{cs:Lf_}{s:St}{b:Frame}{ops:Ao_}{i:Nat}{rest:List Nat}{d:Option Tmp}{x V:Operand}{nw:M4}{ats:Array TypeId}{ty:TypeId}{pp:String}{af:Ae_}{g:On_}{kk:Nat}(U:s.q=false)(a3:ops[i]? =some ⟨d,.call ⟨.value (.func 170),#[x,V],ats⟩,ty,pp,af,g⟩)(hw:AR L ops ⟨d,.call ⟨.value (.func 170),#[x,V],ats⟩,ty,pp,af,g⟩=some true)(a4:((b.kind != .early)&&Bg n d)=true)(a5:ev L x=some (.pointer (some F.uA)))(a6:ev L V=some (.int .i32 nw.num))(ag:nw.l=false)(a7:C9 nw)(Z:Ck nw)
  (h:JL (AY Tryz.prog false) (Stop Tryz.prog F (.lk kk .EU)) b n (As L d (.tuple #[])) ds (.inRegion ops rest::k) cs s):
  JL (AY Tryz.prog false) (Stop Tryz.prog F (.lk kk (if nw.s=true then .ER true else if nw.k=false/\nw.w≠0 then .EC nw else .EU))) b n L ds (.inRegion ops (i::rest)::k) cs s:=by
 refine GX (vs:= [.pointer (some F.uA),.int .i32 nw.num]) a3 hw a4 Tryz.func170 (by decide+kernel) rfl (by simp [evs,a5,a6]) (Nat.le_of_ble_eq_true rfl) λal back=>C 4 rfl (Am (v:= .int .i32 ({nw with l:=true}:M4).num) rfl (λρ h=>Ye Z ag (h _ _ rfl) (h _ _ rfl)) ?_);refine Am (v:=CQ (BE ({nw with l:=true}:M4)&&& 1)) rfl (λρ h=>Ep (c:=1) (m:={nw with l:=true}) Z (h _ _ rfl) (h _ _ rfl) (by decide)) (Am (v:= .bool false) rfl (λρ h=>Yl.to (Yl.eql (h _ _ rfl) (h _ _ rfl)) (by rw [decide_eq_false (λe=>by have q:=(PF _).1 e;cases q)])) ?_);refine C 6 rfl (Am (v:=CQ (BE nw&&& 4)) rfl (λρ h=>Ep (c:=4) Z (h _ _ rfl) (h _ _ rfl) (by decide)) ?_);refine C 2 rfl (FN (p:=((BE nw&&& 4:Nat):Int)=0) rfl (λc=>?_) (λc=>?_))
 ·have am:=(HA nw).1 c;rw [if_neg (by rw [am];exact Bool.false_ne_true)];refine C 6 rfl ?_;refine HX ?_;refine Ek [(0,.pointer (some F.uA)),(4,.int .i32 nw.num)] rfl ?_;refine Ub λap aq=>?_;have a8:(if nw.k=false/\nw.w≠0 then LP.EC nw else .EU)=Ip nw:=by unfold Ip;rw [ag,am];simp
  rw [a8];refine SZ (P:=Tryz.prog) (F:=F) (s:=s) (kk:=kk) (ph:=λm=>LP.EC m) (ok:=C9) (head:=λ(X:Ph->GP) (a:M4)=>JL (AY Tryz.prog false) (X (.lk kk (Ip a))) (base 170) Tryz.f170.ntmps ([(0,.pointer (some F.uA)),(4,.int .i32 (a:M4).num)]) [] ap (al::cs) s) ?_ nw a7;intro Y bw aw hC old ay;have K:Ck old:=ay.Ck;show JL (AY Tryz.prog false) (Y (.lk kk (Ip old))) (base 170) Tryz.f170.ntmps [(0,.pointer (some F.uA)),(4,.int .i32 old.num)] [] ap (al::cs) s;rw [aq];refine C 5 rfl (Am (v:=CQ old.w) rfl (λρ h=>Iz K (h _ _ rfl) (h _ _ rfl)) ?_);refine C 2 rfl (Ly (q:=(old.w:Int)=0) (i:=17) rfl (λc2=>?_) (λc2=>?_))
  ·have O:Ip old= .EU:=by unfold Ip;rw [if_neg (λe=>e.2.2.2 (by omega))]
   refine C 6 rfl ?_;rw [O];exact JL.ret rfl rfl (BB.none Tryz.func170 rfl) (back _ _ _ _ (MP (λg s=>aw _ g s) h))
  ·refine Am (v:= .int .i32 (old:M4).num) rfl (λρ h=>Yl.move (h _ _ rfl)) (Am (v:=CQ (BE old&&& 7)) rfl (λρ h=>Ep (c:=7) K (h _ _ rfl) (h _ _ rfl) (by decide)) ?_);refine C 3 rfl (FN (p:=((BE old&&& 7:Nat):Int)≠0) rfl (λc3=>?_) (λc3=>?_))
   ·have O:Ip old= .EU:=by unfold Ip;rw [if_neg (λe=>c3 ((TZ old).2 ⟨e.1,e.2.1,e.2.2.1⟩))]
    rw [O];exact JL.ret rfl rfl (BB.none Tryz.func170 rfl) (back _ _ _ _ (MP (λg s=>aw _ g s) h))
   ·have a9:=(TZ old).1 (Decidable.not_not.1 c3);obtain⟨l0,bx,bz,w0⟩:=old;obtain⟨z1,az,a0⟩:=a9;simp only at z1 az a0 c2;subst z1 az a0;have a1:w0≠0:=by omega
    have O:Ip ⟨false,false,false,w0⟩= .EC ⟨false,false,false,w0⟩:=by unfold Ip;rw [if_pos ⟨rfl,rfl,rfl,a1⟩]
    rw [O];refine C 4 rfl (Am (v:= .int .i32 (⟨false,false,false,w0 - 1⟩:M4).num) rfl (λρ h=>XX (m:=⟨false,false,false,w0⟩) K a1 (h _ _ rfl) (h _ _ rfl)) ?_);refine Am (v:= .int .i32 (⟨false,true,false,w0 - 1⟩:M4).num) rfl (λρ h=>Nh (c:=2) (m:=⟨false,false,false,w0 - 1⟩) (by unfold Ck at K ⊢;simp only at K ⊢;omega) (by decide) (Qc _) rfl (h _ _ rfl) (h _ _ rfl)) (C 7 rfl ?_);refine JL.uA rfl rfl (C 2 rfl ?_);refine λT bb=>(AY Tryz.prog false).stop (hC ⟨false,false,false,w0⟩ _ ay λX bY bd a2 be bi=>?_);refine OH (kk:=kk) (p:= .EC ⟨false,false,false,w0⟩) (old:=⟨false,false,false,w0⟩) (nw:=⟨false,true,false,w0 - 1⟩) bd U rfl rfl rfl rfl rfl Ny rfl rfl rfl (λq bn=>⟨some (.ER false),by simp [Fam.BX],?_⟩) (λm q hm bn=>⟨some .G6,by simp [Fam.BX,hm],?_⟩) T bb
    ·refine JL.done (C 5 rfl ?_);refine Am (v:= .pointer (some F.qA)) rfl (λρ h=>I2 (a:=F.uA) 0 1 Tryz.underlying136 Mw rfl rfl rfl (h _ _ rfl)) (Q9 (kk:=kk) (st:=false) a2 U rfl rfl rfl rfl Tj rfl rfl ?_);exact JL.done (JL.ret rfl rfl (BB.none Tryz.func170 rfl) (back _ _ _ _ (MP (λg s=>be _ g s) h)))
    ·refine JL.done (C 5 rfl ?_);refine JL.uA rfl rfl (GW (kk:=kk) (p:= .G6) a2 U rfl rfl rfl rfl rfl GO bE rfl λac bZ bo=>⟨some (Ip ac),List.mem_singleton.2 rfl,?_⟩);refine C 3 rfl (JL.again ?_);rw [← aq];exact Ek [(0,.pointer (some F.uA)),(4,.int .i32 ac.num)] rfl (bi ac bo)
 ·have bv:nw.s=true:=by rcases Bool.eq_false_or_eq_true nw.s with hh | hh;exact hh;exact absurd ((HA nw).2 hh) c
  rw [if_pos bv];refine C 3 rfl (Am (v:= .pointer (some F.qA)) rfl (λρ h=>I2 (a:=F.uA) 0 1 Tryz.underlying136 Mw rfl rfl rfl (h _ _ rfl)) ?_);refine Q9 (kk:=kk) (st:=true) CY.stop U rfl rfl rfl rfl Tj rfl rfl (JL.done ?_);exact JL.fin rfl rfl (BB.none Tryz.func170 rfl) (back _ _ _ _ h)
set_option maxHeartbeats 4000000 in
theorem UW{F:Fam}{n:Nat}{L:Env}{ds:Ld_}{k:Li_}{cs:Lf_}{s:St}{b:Frame}{ops:Ao_}{i:Nat}{rest:List Nat}{d:Option Tmp}{x:Operand}{ats:Array TypeId}{ty:TypeId}{pp:String}{af:Ae_}{g:On_}{kk:Nat}(K:s.q=false)(ag:ops[i]? =some ⟨d,.call ⟨.value (.func 136),#[x],ats⟩,ty,pp,af,g⟩)(hw:AR L ops ⟨d,.call ⟨.value (.func 136),#[x],ats⟩,ty,pp,af,g⟩=some true)(al:((b.kind != .early)&&Bg n d)=true)(am:ev L x=some (.pointer (some F.uA)))
  (h:JL (AY Tryz.prog false) (Stop Tryz.prog F .HK) b n (As L d (.tuple #[])) ds (.inRegion ops rest::k) cs s):
  JL (AY Tryz.prog false) (Stop Tryz.prog F (.lk kk .Gr)) b n L ds (.inRegion ops (i::rest)::k) cs s:=by
 refine GX (vs:= [.pointer (some F.uA)]) ag hw al Tryz.func136 (by decide+kernel) rfl (by simp [evs,am]) (Nat.le_of_ble_eq_true rfl) λa0 back=>C 6 rfl (JL.uA rfl rfl ?_);refine GW (kk:=kk) (p:= .Gr) CY.stop K rfl rfl rfl rfl rfl GO bu rfl λa1 a2 a3=>⟨some .JX,List.mem_singleton.2 rfl,?_⟩;refine C 4 rfl (Ok (kk:=kk) (p:= .JX) CY.stop K rfl (λ_ _=>rfl) rfl rfl rfl rfl Tryz.underlying247 Tryz.underlying174 OO rfl ?_);refine O0 (kk:=kk) (p:= .JY) (ad:=F.uA) CY.stop K rfl (λ_ _=>rfl) rfl rfl rfl rfl (by simp) bJ rfl rfl (C 2 rfl ?_);refine KT (kk:=kk) (p:= .JK) CY.stop K rfl (λ_ _=>rfl) rfl rfl rfl rfl (by simp) TT (C 5 rfl ?_);refine JL.uA rfl rfl (GU (kk:=kk) (p:= .HI) (dl:= -1) CY.stop K rfl rfl rfl rfl rfl G3 rfl rfl λm q V=>⟨{m with l:=false},some (P1 m),?_,List.mem_singleton.2 rfl,?_⟩)
 ·obtain⟨ap,O,U,w3⟩:=m;obtain⟨Y,aq⟩:=V;simp only at Y;subst Y;have a4:w3<134217728:=aq;have a5:=Bool.toNat_le O;have a6:=Bool.toNat_le U;have e:(⟨true,O,U,w3⟩:M4).num+(-1)=((2*O.toNat+4*U.toNat+8*w3:Nat):Int):=by simp only [M4.num,Bool.toNat_true];omega
  rw [e,Fo (by omega)];simp only [M4.num,Bool.toNat_false];omega
 ·have Z:C9 m:=V.2;have aw:Ck ({m with l:=false}:M4):=(show C9 ({m with l:=false}:M4) from Z).Ck;refine C 8 rfl ?_;refine FN (p:=({m with l:=false}:M4).num≠0) rfl (λc=>?_) (λc=>?_)
  ·refine JL.region (C 2 rfl ?_);refine Vy (kk:=kk) (nw:={m with l:=false}) K rfl rfl rfl rfl rfl rfl Z aw (C 2 rfl ?_);refine KT (kk:=kk) (p:= .EU) CY.stop K rfl (λ_ _=>rfl) rfl rfl rfl rfl (by simp) NK (JL.done ?_);exact JL.fin rfl rfl (BB.none Tryz.func136 rfl) (back _ _ _ _ h)
  ·have ay:({m with l:=false}:M4).num=0:=Decidable.not_not.1 c;have ac:m.k=false/\m.s=false/\m.w=0:=by
    obtain⟨ap,O,U,w3⟩:=m;cases O <;> cases U <;> simp [M4.num] at ay ⊢ <;> omega
   have az:P1 m= .EU:=by unfold P1;rw [if_neg (by rw [ac.2.1];exact Bool.false_ne_true),if_neg (λe=>e.2 ac.2.2)]
   rw [az];refine C 2 rfl (KT (kk:=kk) (p:= .EU) CY.stop K rfl (λ_ _=>rfl) rfl rfl rfl rfl (by simp) NK ?_);exact JL.done (JL.fin rfl rfl (BB.none Tryz.func136 rfl) (back _ _ _ _ h))
theorem JO.Ys{F:Fam}{n:Nat}{M:Env}{ds:Ld_}{cs:Lf_}{s:St}{b:Frame}{kk:Nat}(K:b.roundOf=none)(O:s.q=false)(h:JO (AY Tryz.prog false) (Stop Tryz.prog F .HK) b n M ds cs s):
  JO (AY Tryz.prog false) (Stop Tryz.prog F (.lk kk .Gr)) b n M (dcall 99 #[.pointer (some F.uA)]::ds) cs s:=by
 refine JO.enter (vs:= [.pointer (some F.uA)]) K Tryz.func99 (by decide+kernel) V (Nat.le_of_ble_eq_true V) λT U todo=>C 3 V (Am (v:= .pointer (some F.uA)) V (λρ h=>I2 (a:=F.uA) 1 0 Tryz.underlying138 (AJ Tryz.type136) V V V (h _ _ V)) ?_);refine UW (kk:=kk) O V V V V (JL.done ?_);exact JL.out V (JO.leaveD V Tryz.func99 V (.inl V) (h T U todo))
end Pal
namespace Pal
open Go Go.Conc
open Go.ConcN (upd)
variable {ops:Ao_}{i:Nat}{rest:List Nat}{f:FuncId}{x:Operand}{ats:Array TypeId}{ty t u:TypeId}{pp:String}{af:Ae_}{g:On_}{kk:Nat}
section
variable {P:Program}{F:Fam}{n:Nat}{L L':Env}{ds:Ld_}{k:Li_}{cs:Lf_}{s s':St}{b:Frame}
variable {d:Option Tmp}{y z:Operand}{tw:TypeId}
theorem U8{m:Nat}(h:Bo P t=some m)(w:World):(Go.sizeOf t).run P w= .ok m w:=by
 unfold Bo at h;simp only [Go.sizeOf,typeInfo,bind,Sem.bind,program,Sem.run];cases hi:P.info? t with
 | none=>rw [hi] at h;cases h
 | some j=>rw [hi] at h;simp at h;subst h;rfl
theorem X1{w:World}{K:Nat->Value}(h:F.FD w K)(O:kk<F.n):w.cell? ⟨F.fd,kk,none⟩=some (K kk)/\w.frozen? ⟨F.fd,kk,none⟩=false:=by
 unfold Fam.FD Fam.Iq at h;constructor
 ·simp [World.cell?,h,O]
 ·simp [World.frozen?,h]
theorem Vl{w:World}{O:Nat->Value}{v:Value}(h:F.FD w O)(Z:kk<F.n):w.setCell ⟨F.fd,kk,none⟩ v=F.G5 w (upd O kk v):=by
 unfold Fam.G5 World.setCell;congr 1;apply Array.ext_getElem?;intro i;unfold Fam.FD Fam.Iq at h;rw [Array.getElem?_modify];have U:F.fd<w.heap.size:=by
  rcases Nat.lt_or_ge F.fd w.heap.size with K | K
  ·exact K
  ·simp [Array.getElem?_eq_none K] at h
 by_cases e:F.fd=i
 ·subst e;rw [Array.getElem?_setIfInBounds_self_of_lt U,h];simp only [if_true,Option.map_some,Fam.Iq,Option.some.injEq,Obj.cells.injEq,and_true];apply Array.ext
  ·simp
  ·intro j ac V;by_cases e2:kk=j
   ·subst e2;simp [upd]
   ·have Y:¬j=kk:=λe=>e2 e.symm;simp [upd,Y];rw [Array.getElem_setIfInBounds (by simpa using V),if_neg e2];simp
 ·rw [Array.getElem?_setIfInBounds_ne e,if_neg e]
theorem Vt{X:Ph->GP}(aq:CY P F X){a:Option Addr}{l c:Nat}(aw:s.q=false)(V:kk<F.n)
  (ay:ops[i]? =some ⟨d,.store t x y,ty,pp,af,g⟩) (Y:b.roundOf=none) (hw:AR L ops ⟨d,.store t x y,ty,pp,af,g⟩=some true) (U:((b.kind != .early)&&Bg n d)=true)
  (az:Bo P t=some 1) (a0:(P.funcs[b.fn]?).any (·.norace)=false) (a1:ev L x=some (.pointer (some ⟨F.fd,kk,none⟩))) (a2:ev L y=some (.slice a l c)) (hm:F.msg kk (.slice a l c) s.E)
  (h:JL (AY P false) (X (.lk kk .Gr)) b n (As L d undef) ds (.inRegion ops rest::k) cs s):
  JL (AY P false) (X (.lk kk .Fu)) b n L ds (.inRegion ops (i::rest)::k) cs s:=λT K=>by
 simp only [Bool.and_eq_true] at U
 refine(AY P _).stop (aq _ _ _ {
  run:=rfl,offers:=rfl,quiet:=(by simp [Fam.CN]),live:=λ_=>aw,act:=(by simp [Fam.act]),II:=(by simp),ET:=(by simp),go:=(by simp),lk:=λk' l e a3=>by cases e;exact absurd rfl a3
  Cv:=(by simp),store:=λk' e=>?_,fin:=(by simp)})
 cases e
 refine⟨_,hm,G (fr b (CL T d undef) ds (.inRegion ops rest::k)) cs,rfl,λw a4 Z=>?_,h _ (K.put U.2 _)⟩
 obtain⟨c1,c2⟩:=X1 Z V
 have ac:execOp (⟨T,ds⟩:Act).eval ⟨d,.store t x y,ty,pp,af,g⟩=(do Instr.storeAt t (.pointer (some ⟨F.fd,kk,none⟩)) (.slice a l c);pure Next.skip):=by
  rw [KG];simp only [execOp,K.ev a1,K.ev a2]
 have ag:(Value.slice a l c).cells= #[.slice a l c]:=rfl;have al:(Value.slice a l c).oneCell'=true:=rfl;have am:(Addr.add ⟨F.fd,kk,none⟩ 0)=⟨F.fd,kk,none⟩:=by rw [Ei rfl];rfl
 have ap:=U8 (P:=P) az w;have O:=run_store P w ⟨F.fd,kk,none⟩ (.slice a l c) .plain al;rw [c1] at O;simp only [c2,Bool.false_eq_true,if_false] at O;rw [BN Y,BN Y,stepG_none (a:=⟨T,ds⟩) (w':=F.G5 w (upd a4 kk (.slice a l c))) ay (B6 K hw) (by simpa using U.1) (by
  rw [ac]
  simp [Instr.storeAt,Instr.sureAddr,storeVar,ag,ap,storeCells,am,O,Vl Z V,Result.andThen]),DZ]
 have e2:listed P b.fn ⟨T,ds⟩ ⟨d,.store t x y,ty,pp,af,g⟩ w= #[⟨.cell ⟨F.fd,kk,none⟩,true,false⟩]:=by
  unfold listed;rw [ac];have a5:=events_store (P:=P) (w:=w) (es:= #[]) ⟨F.fd,kk,none⟩ (.slice a l c) .plain al;have a6:(do Instr.storeAt t (.pointer (some ⟨F.fd,kk,none⟩)) (.slice a l c);pure Next.skip:Sem Next).events P w #[]= #[⟨.cell ⟨F.fd,kk,none⟩,true,false⟩]:=by
   simp [Instr.storeAt,Instr.sureAddr,storeVar,ag,ap,storeCells,am,O,c1,c2,a5,Result.evThen]
  rw [a6,seen_def];simp [seenStep,a0]
 rw [e2]
end
end Pal
namespace Pal
open Go Go.Conc Go.Proofs
open Go.Proofs.Tryz
open Go.Conc.Lib Go.ConcR.Gen
theorem aC:(Tryz.prog.funcs[94]?).any (·.norace)=false:=by rw [func94];rfl
def Kv(fu_:Nat)(K:AT)(p:Aw)(j:Nat):Option (List Int):=
 (f120 fu_ K).bind λO=>
 (f119 fu_ ([O]:List (List (AK))) ((j:Nat):Int) p ([]:List ((Nat×Bc)×Bool))).bind λU=>
 some U.1
set_option maxHeartbeats 1000000 in
theorem ZW{F:Fam}{j:Nat}{E:LH}{ap a1 am:Ao}{Y c2 aq Z op ac ag al oi kf off:Nat}{p:Aw}{O:AT}(a3:At E Z op [.slice ap p.length Y])(a4:Al Au E ap Y p)(a5:At E ac ag [sV a1 O.1 c2,sV am O.2 aq])(a6:Al (rL rI) E a1 c2 O.1)(a7:Al Au E am aq O.2)(hi:At E al oi [iV ((j:Nat):Int)])(a8:At E kf off [.slice (some ⟨F.fd,0,none⟩) F.n F.n]){fu_:Nat}{r:List Int}(az:Kv fu_ O p j=some r)(a0:j<F.n)(a9:∀E' a c,Le E E'->Al rI E' a c r->(r= []->a=none)->F.msg j (.slice a r.length c) E'):
  Way Tryz.prog false (Stop Tryz.prog F (F.start j)) (born Tryz.prog ⟨.fn (.func 94) [.pointer (some F.sA),Ak Z op,Ak ac ag,Ak al oi,.pointer (some F.uA),Ak kf off].toArray,#[]⟩) ⟨E,λ_=>none,false⟩:=by
 refine Xc (fn:=Tryz.f94) (vs:= [.pointer (some F.sA),Ak Z op,Ak ac ag,Ak al oi,.pointer (some F.uA),Ak kf off]) func94 (by decide+kernel) rfl (by simp) (Nat.le_of_ble_eq_true rfl) ?_;obtain⟨H,bb⟩:∃H:LH,H=λ_=>none:=⟨_,rfl⟩;rw [← bb];have bd:Ap E H []:=trivial;refine(?_:JL (AY Tryz.prog false) (Stop Tryz.prog F (.lk j .FT)) (baseD 94) Tryz.f94.ntmps (F1 0 [.pointer (some F.sA),Ak Z op,Ak ac ag,Ak al oi,.pointer (some F.uA),Ak kf off]) [] [.code _] [K1 Tryz.prog] (Aj E H []));unfold Kv at az;refine C 2 rfl (JL.defer (vs:= [.pointer (some F.sA)]) rfl rfl rfl rfl rfl ?_);refine C 3 rfl (CG 0 a3 BF rfl rfl rfl ?_);refine JS.makeMap rfl rfl rfl bd λr1 be=>Am (v:= .agg #[sV ap p Y,.map (some r1)]) rfl (λρ h=>Ch [(0,1),(1,1)] h (C5 type149) underlying149 ⟨rfl,AJ type96,rfl,AJ type147,trivial⟩ rfl rfl) (JS.box (v:= .agg #[sV ap p Y,.map (some r1)]) rfl rfl rfl be rfl λca bi=>?_);refine C 3 rfl (B7 1 bi rfl λcb K bn bo=>?_);refine DK 5 λaw=>BR 0 aw rfl rfl (H9 1 aw (a5.Ag K) Ew Cr rfl rfl rfl ?_);refine CK 4 aw 0 (hi.Ag K) Bb rfl rfl rfl rfl ?_;obtain⟨a2,bv,bw⟩:=bs az;refine JG.call (i:=2) (vs:= [.agg #[sV a1 O.1 c2,sV am O.2 aq]]) (Y5 (a6.Ag K) (a7.Ag K) bv) (by decide+kernel) rfl rfl rfl (A1 func97 rfl) rfl bo ?_;rintro _ cc _ U ⟨bx,bz,rfl,rfl,bY⟩ bZ;refine JG.one (i:=3) rfl (by decide+kernel) (Take.Co (pp:=(rL (rM rI false rI false))) [sV bx a2 bz] ([a2]:List (List AK)) bZ rfl rfl rfl underlying154 Jh Ms (by decide) rfl rfl rfl ⟨⟨_,_,rfl,bY⟩,trivial⟩ λcd ce b0 b1=>?_);refine Cz [5,6] (Bd 3 b0 b1 rfl λcf V b2 b3=>?_);obtain⟨b4,b5,b6⟩:=bs bw;refine DR 0 (YV b2 (bn.Ag (U.Ad V)) (a4.Ag ((K.Ad U).Ad V)) Bw.nil b5) rfl rfl (A1 func96 rfl) b3 rfl ?_;rintro _ cg _ ay ⟨ci,ck,cm,rfl,rfl,b7,b8,cn⟩ co;refine C 3 rfl ?_;have b9:r=b4.1:=(Option.some.inj b6).symm;subst b9;refine JL.region (Wu (kk:=j) rfl rfl rfl rfl rfl ?_);refine C 3 rfl (JL.defer (vs:= [.pointer (some F.uA)]) rfl rfl rfl rfl rfl ?_);refine C 2 rfl (CG 0 (a8.Ag (((K.Ad U).Ad V).Ad ay)) CJ rfl rfl rfl ?_);refine CG 0 (hi.Ag (((K.Ad U).Ad V).Ad ay)) Bb rfl rfl rfl (C 1 rfl ?_);refine Am (v:= Ak F.fd j) rfl (λρ h=>Yl.to (Fl (xs:=List.replicate F.n ()) (m:=((j:Nat):Int)) (xv:=()) (List.length_replicate) (by simp [ix,a0]) underlying25 De (h _ _ rfl) (h _ _ rfl)) (by show Ak F.fd (j*1)=_;rw [Nat.mul_one])) (Vt (kk:=j) CY.stop rfl a0 rfl rfl rfl rfl De aC rfl rfl (a9 _ _ _ (((K.Ad U).Ad V).Ad ay) b7 b8) ?_);exact JL.done (JL.out rfl (JO.Ys (kk:=j) rfl rfl (JO.aE Tryz.Kj rfl rfl (JO.leaveD rfl func94 rfl (.inr rfl) VF))))
theorem OL.ab{e:TypeId}{E:LH}{r c:Nat}{seg:Seg}{xs:Lv_}(h:OL e rV E (A0 r) c seg xs)(V:c=xs.length):seg= [(r,.cells xs.toArray e (0,0))]:=by
 obtain⟨wss,ac,K,Y⟩:=h;rcases ac with⟨ag,_⟩ | ⟨bk,f,al,e2,Z,am,O⟩
 ·cases ag
 cases al;have hw:wss=xs.map λx=> [x]:=by
  apply List.ext_getElem?;intro i;rw [List.getElem?_map];cases U:xs[i]? with
  | none=>rw [List.getElem?_eq_none (by rw [K];exact List.getElem?_eq_none_iff.1 U)];rfl
  | some x=>
   have hi:i<wss.length:=by rw [K];exact(List.getElem?_eq_some_iff.1 U).1
   have:=(Y i x wss[i] U (List.getElem?_eq_getElem hi)).1;rw [List.getElem?_eq_getElem hi,this];rfl
 have ap:wss.flatten=xs:=by
  rw [hw];clear hw O Y K Z am V
  induction xs with
  | nil=>rfl
  | cons x xs aq=>simp [aq]
 rw [ap] at O;have ay:rV.n=1:=rfl;have aw:f.toList=xs:=by
  rw [O];rw [List.take_of_length_le (by rw [Array.length_toList,Z,V];exact Nat.le_refl _)]
 rw [e2,← aw]
noncomputable def Kt:Code:=match(Tryz.f61.body).bind (I7 0) with | some (.loop c)=>c | _=> .skip
noncomputable def Up:Code:=match(Tryz.f61.body).bind (I7 2) with | some (.loop c)=>c | _=> .skip
set_option maxHeartbeats 1000000 in
theorem Yi{F:Fam}{n:Nat}(aw:F.n=n)(bw:0<n)(bx:n<=1000){E:LH}{ap a1 ag:Ao}{al c2 am:Nat}{p:Aw}{O:AT}(ay:Al Au E ap al p)(az:Al (rL rI) E a1 c2 O.1)(a0:Al Au E ag am O.2)(hlen:p.length=n){V Y kf:Nat}(a2:At E V 0 [.slice ap p.length al])(a3:At E Y 0 [sV a1 O.1 c2,sV ag O.2 am])(a4:At E kf 0 [.slice (some ⟨F.fd,0,none⟩) F.n F.n]){fu_:Nat}{xs:Nat->List Int}(a5:∀j,j<n->Kv fu_ O p j=some (xs j))(a6:∀j,j<n->∀E' a c,Al rI E' a c (xs j)->(xs j= []->a=none)->F.msg j (.slice a (xs j).length c) E'){j:Nat}(Z:j<n){ac H:LH}(hle:Le E ac)(a7:Ap ac H []){k:Li_}{cs:Lf_}
  (h:∀U,Le E U->Ap U H []->JL (AY Tryz.prog true) (Stop Tryz.prog F (F.Eu j)) (base 61) Tryz.f61.ntmps [(2,Ak Y 0),(3,Ak V 0),(6,.pointer (some F.uA)),(7,.pointer (some F.sA)),(8,Ak kf 0),(19,iV (p.length:Int)),(20,iV ((j+1:Nat):Int))] [] (.inLoop Kt::k) cs (Aj U H [])):
  JL (AY Tryz.prog true) (Stop Tryz.prog F (.F3 j)) (base 61) Tryz.f61.ntmps [(2,Ak Y 0),(3,Ak V 0),(6,.pointer (some F.uA)),(7,.pointer (some F.sA)),(8,Ak kf 0),(19,iV (p.length:Int)),(20,iV ((j:Nat):Int))] [] (.code Kt:: .inLoop Kt::k) cs (Aj ac H []):=by
 refine C 2 rfl (Am (v:= .bool true) rfl (λρ h=>Yl.to (Yl.lss (h _ _ rfl) (h _ _ rfl)) (by rw [decide_eq_true (show((j:Nat):Int)<(p.length:Int) by omega)])) ?_);refine C 9 rfl (Bz a7 Bx λrn a8=>?_);refine Bv 0 a8 Ay λa9=>?_;refine B7 0 a9 rfl λU bb bd be=>H2 (S':= []) (by simp) be λbi=>?_;have K:=hle.trans bb;refine C 3 rfl (Wa Tryz.Kj rfl rfl rfl rfl rfl rfl ?_);refine C 2 rfl (Am (v:= .func (.func 94) #[] ([.pointer (some F.sA),Ak V 0,Ak Y 0,Ak rn 0,.pointer (some F.uA),Ak kf 0]:Lv_).toArray) rfl (λρ h=>Jl (by simp) (by simp [h (.tmp 7) _ rfl,h (.tmp 3) _ rfl,h (.tmp 2) _ rfl,h (.tmp 9) _ rfl,h (.tmp 6) _ rfl,h (.tmp 8) _ rfl])) ?_);have aq:=ZW (F:=F) (j:=j) (a2.Ag K) (ay.Ag K) (a3.Ag K) (az.Ag K) (a0.Ag K) bd (a4.Ag K) (a5 j Z) (by rw [aw];exact Z) (λE' a c _ bn bo=>a6 j Z E' a c bn bo);refine YQ (fi:= #[]) rfl rfl rfl rfl rfl rfl rfl (by first | exact aq | (simp only [List.append_toArray,List.nil_append,Array.append_empty,Array.empty_append];exact aq)) ?_
 refine C 3 rfl ?_;have bv:Av (((j:Nat):Int)+1)=some (((j+1:Nat)):Int):=by unfold Av;rw [if_pos (by omega)];simp
 refine Bn bv rfl rfl rfl (C 2 rfl ?_);exact Az (h U K bi) rfl
theorem Vi{F:Fam}{n:Nat}(V:F.n=n)(aw:0<n)(ay:n<=1000){E:LH}{ap a1 ac:Ao}{ag c2 al:Nat}{p:Aw}{O:AT}(az:Al Au E ap ag p)(a0:Al (rL rI) E a1 c2 O.1)(a2:Al Au E ac al O.2)(hlen:p.length=n){Y Z kf:Nat}(a3:At E Y 0 [.slice ap p.length ag])(a4:At E Z 0 [sV a1 O.1 c2,sV ac O.2 al])(a5:At E kf 0 [.slice (some ⟨F.fd,0,none⟩) F.n F.n]){fu_:Nat}{xs:Nat->List Int}(a6:∀j,j<n->Kv fu_ O p j=some (xs j))(a7:∀j,j<n->∀E' a c,Al rI E' a c (xs j)->(xs j= []->a=none)->F.msg j (.slice a (xs j).length c) E'){H:LH}{k:Li_}{cs:Lf_}
  (h:∀K,Le E K->Ap K H []->JL (AY Tryz.prog true) (Stop Tryz.prog F .Dl) (base 61) Tryz.f61.ntmps [(2,Ak Z 0),(3,Ak Y 0),(6,.pointer (some F.uA)),(7,.pointer (some F.sA)),(8,Ak kf 0),(19,iV (p.length:Int)),(20,iV (p.length:Int))] [] (.code Kt:: .inLoop Kt::k) cs (Aj K H [])):
  ∀(m j:Nat),j+m=n->0<m->∀U,Le E U->Ap U H []->JL (AY Tryz.prog true) (Stop Tryz.prog F (.F3 j)) (base 61) Tryz.f61.ntmps [(2,Ak Z 0),(3,Ak Y 0),(6,.pointer (some F.uA)),(7,.pointer (some F.sA)),(8,Ak kf 0),(19,iV (p.length:Int)),(20,iV ((j:Nat):Int))] [] (.code Kt:: .inLoop Kt::k) cs (Aj U H []):=by
 intro m
 induction m with
 | zero=>intro j _ a8;cases a8
 | succ m a9=>
  intro j be _ U hle bb;refine Yi V aw ay az a0 a2 hlen a3 a4 a5 a6 a7 (by omega) hle bb λK am aq=>JL.again ?_;by_cases hm:m=0
  ·subst hm;have bd:j+1=F.n:=by rw [V];omega
   have e:F.Eu j= .Dl:=by unfold Fam.Eu;rw [if_pos bd]
   rw [e];have e2:((j+1:Nat):Int)=(p.length:Int):=by rw [hlen];omega
   rw [e2];exact h K am aq
  ·have e:F.Eu j= .F3 (j+1):=by unfold Fam.Eu;rw [if_neg (by rw [V];omega)]
   rw [e];exact a9 (j+1) (by omega) (by omega) K am aq
def NF(fu_:Nat)(K:AT)(p:Aw)(j:Nat):List Int:=(Kv fu_ K p j).getD []
def LZ(n:Nat)(xs:Nat->List Int):(List Int)×Bool:=match(List.range n).find? (λj=> !(xs j).isEmpty) with | some j=>(xs j,true) | none=>([],false)
def f77(fu_:Nat)(K:AT)(p:Aw):Option ((List Int)×Bool):= if p.length=0 then some ([],true) else if p.length<=1000/\(List.range p.length).all (λj=>(Kv fu_ K p j).isSome)=true then some (LZ p.length (NF fu_ K p)) else none
theorem VJ{n:Nat}{xs:Nat->List Int}{i:Nat}(hi:i<n)(K:xs i≠ [])(O:∀k,k<i->xs k= []):LZ n xs=(xs i,true):=by
 unfold LZ;have:(List.range n).find? (λj=> !(xs j).isEmpty)=some i:=by
  rw [List.find?_range_eq_some];refine⟨by simp [K],by simpa using hi,λj U=>by simp [O j U]⟩
 rw [this]
theorem V0{n:Nat}{xs:Nat->List Int}(K:∀k,k<n->xs k= []):LZ n xs=([],false):=by
 unfold LZ;have:(List.range n).find? (λj=> !(xs j).isEmpty)=none:=by
  rw [List.find?_eq_none];intro j O;simp [K j (List.mem_range.1 O)]
 rw [this]
theorem Yv{E:LH}{a:Ao}{c:Nat}{xs:List Int}(h:Al rI E a c xs)(K:xs≠ []):a.isNone=false:=by
 rcases h.2 with⟨e,_⟩ | ⟨bk,off,e,_⟩
 ·exact absurd e K
 ·rw [e];rfl
set_option maxHeartbeats 1000000 in
theorem Y0{J:Judge Tryz.prog}{Q:Gs_}{V:Frame}{cs:Lf_}{fd n:Nat}{f:Nat->Value}{xs:Nat->List Int}(ay:n<=1000){E H:LH}{k:Li_}(ac:Ap E H [[(fd,.cells (Array.ofFn λi:Fin n=>f i) 22 (0,0))]])(hm:∀k,k<n->∃a c,f k= .slice a (xs k).length c/\Al rI E a c (xs k)/\(xs k= []->a=none))
  (ag:∀i a c L',i<n->xs i≠ []->(∀k,k<i->xs k= [])->Al rI E a c (xs i)->look L' 4=some (.slice a (xs i).length c)->look L' 5=some (.bool true)->∀k',JL J Q (base 61) Tryz.f61.ntmps L' [] (.code .ret::k') (V::cs) (Aj E H [[(fd,.cells (Array.ofFn λi:Fin n=>f i) 22 (0,0))]]))
  (al:(∀k,k<n->xs k= [])->JL J Q (base 61) Tryz.f61.ntmps [] [] k (V::cs) (Aj E H [[(fd,.cells (Array.ofFn λi:Fin n=>f i) 22 (0,0))]])):
  ∀m i,i+m=n->(∀k,k<i->xs k= [])->JL J Q (base 61) Tryz.f61.ntmps [(27,.slice (A0 fd) n n),(28,iV (n:Int)),(29,iV (i:Int))] [] (.code Up:: .inLoop Up:: .inBlock 2::k) (V::cs) (Aj E H [[(fd,.cells (Array.ofFn λi:Fin n=>f i) 22 (0,0))]]):=by
 intro m
 induction m with
 | zero=>
  intro i hi K;refine C 2 rfl (Am (v:= .bool false) rfl (λρ h=>Yl.to (Yl.lss (h _ _ rfl) (h _ _ rfl)) (by rw [decide_eq_false (show ¬((i:Int)<(n:Int)) by omega)])) ?_);refine C 4 rfl (Ek [] rfl ?_);exact al λk az=>K k (by omega)
 | succ m am=>
  intro i hi K;have O:i<n:=by omega
  obtain⟨a,c,ap,Z,aq⟩:=hm i O;refine C 2 rfl (Am (v:= .bool true) rfl (λρ h=>Yl.to (Yl.lss (h _ _ rfl) (h _ _ rfl)) (by rw [decide_eq_true (show(i:Int)<(n:Int) by omega)])) ?_);refine C 8 rfl (Am (v:= Ak fd i) rfl (λρ h=>Yl.to (Fl (xs:=List.replicate n ()) (m:=((i:Nat):Int)) (xv:=()) (List.length_replicate) (by simp [ix,O]) underlying25 De (h _ _ rfl) (h _ _ rfl)) (by show Ak fd (i*1)=_;rw [Nat.mul_one])) ?_);refine Am (v:= .slice a (xs i).length c) rfl (λρ h=>Yl.load It (h _ _ rfl) (BC (j:=0) (off:=i) ac rfl (by simp [O,ap]))) (C 5 rfl ?_);refine Am (v:= .bool (!a.isNone)) rfl (λρ h=>We underlying22 (h _ _ rfl) (h _ _ rfl)) (JL.done ?_);by_cases U:xs i= []
  ·have Y:(!a.isNone)=false:=by rw [aq U];rfl
   rw [Y];refine C 4 rfl ?_;have aw:Av (((i:Nat):Int)+1)=some (((i+1:Nat)):Int):=by unfold Av;rw [if_pos (by omega)];simp
   refine Bn aw rfl rfl rfl ?_;refine C 2 rfl ?_;refine JL.again ?_;refine EO ?_ (am (i+1) (by omega) (λk a0=>by
    by_cases e:k=i
    ·subst e;exact U
    ·exact K k (by omega)))
   exact⟨rfl,rfl,rfl,trivial⟩
  ·have Y:(!a.isNone)=true:=by rw [Yv Z U];rfl
   rw [Y];exact C 7 rfl (ag i a c _ O U K Z rfl rfl _)
set_option maxHeartbeats 2000000 in
theorem Uj{E:LH}{a1:Ao}{c2:Nat}{a8:Ao}{a9:Nat}{ap:Ao}{bb:Nat}{O:AT}{p:Aw}(b5:Al (rL rI) E a1 c2 O.1)(b6:Al Au E a8 a9 O.2)(b7:Al Au E ap bb p){fu_:Nat}{r:(List Int)×Bool}(U:f77 fu_ O p=some r):
  AM (Gi Tryz.prog) 61 [.agg #[sV a1 O.1 c2,sV a8 O.2 a9],sV ap p bb] E [] (λw E' B'=>∃(bd:Ao) (be:Nat),w= .tuple #[sV bd r.1 be,.bool r.2]/\B'= []/\Al rI E' bd be r.1):=by
 refine Kh func61 rfl rfl λQ cJ cs H b8 V=>?_;unfold f77 at U;refine C 2 rfl (CC b8 λb9 cK ca cb cc=>?_);refine CC cc λcd cM bi al ce=>?_;refine H2 (S':= []) (by simp) ce λbn=>?_;have bo:=ca.Ad bi;refine C 6 rfl (CG 0 al BF rfl rfl rfl ?_);refine JL.ln underlying96 rfl rfl rfl (C 2 rfl ?_);refine FN (p:=(p.length:Int)=0) rfl (λcf=>?_) (λcf=>?_)
 ·rw [if_pos (by omega)] at U;have Y:=(Option.some.inj U).symm;subst Y;refine C 5 rfl (AS func61 rfl rfl ?_);exact V _ _ _ _ bo rfl ⟨none,0,rfl,rfl,Al.nil⟩ bn
 rw [if_neg (by omega)] at U;split at U
 rotate_left
 ·cases U
 rename_i hb;obtain⟨bv,cg⟩:=hb;have Y:=(Option.some.inj U).symm;have ac:∀j,j<p.length->Kv fu_ O p j=some (NF fu_ O p j):=λj az=>by
  have am:=List.all_eq_true.1 cg j (List.mem_range.2 az);obtain⟨x,a0⟩:=Option.isSome_iff_exists.1 am;unfold NF;rw [a0];rfl
 generalize cN:NF fu_ O p=xs at ac Y;have bw:0<p.length:=by omega
 refine C 3 rfl (Bz bn (C5 type138) λmu ci=>?_);refine C 3 rfl (Bz ci (C5 type144) λwg ck=>?_);refine JL.done (H2 (S':= [[(mu,.cells #[.int .i32 0,.int .u32 0] 138 (0,0))],[(wg,.cells #[.int .u64 0,.int .u32 0] 144 (0,0))]]) (by simp [Value.cells]) ck λcm=>?_);refine C 2 rfl (CG 0 al BF rfl rfl rfl ?_);refine JL.ln underlying96 rfl rfl rfl ?_;have cn:K2 (p.length:Int) (Value.slice none 0 0)=some (List.replicate p.length nS):=by unfold K2;rw [if_pos (by omega)];simp
 refine JS.make (pp:=rV) cn rfl rfl rfl rfl rfl underlying25 De (Dt type22) (by decide) HT (by decide) ⟨rfl,rfl⟩ cm λfd cO co bx=>?_;have cp:=OL.ab co rfl;subst cp;obtain⟨K,bz⟩:∃K,K=List.replicate p.length (Value.slice none 0 0):=⟨_,rfl⟩;have bY:(List.replicate p.length (Value.slice none 0 0)).length=p.length:=by simp
 rw [← bz] at bx bY ⊢;rw [bY];refine Bz bx (C5 type25) λkf cq=>?_;refine Bv 3 cq Cc λcr=>?_;refine B7 3 cr rfl λZ aq bZ ct=>H2 (S':= [[(mu,.cells #[.int .i32 0,.int .u32 0] 138 (0,0))],[(wg,.cells #[.int .u64 0,.int .u32 0] 144 (0,0))],[(fd,.cells K.toArray 22 (0,0))]]) (by simp) ct λag=>?_;have aw:=bo.Ad aq;refine C 4 rfl (CG 0 (al.Ag aq) BF rfl rfl rfl ?_);refine JL.ln underlying96 rfl rfl rfl (C 3 rfl ?_);refine HX (Ek [(2,Ak b9 0),(3,Ak cd 0),(6,.pointer (some (⟨mu,0,none⟩:Addr))),(7,.pointer (some (⟨wg,0,none⟩:Addr))),(8,Ak kf 0),(19,iV (p.length:Int)),(20,iV ((0:Nat):Int))] rfl ?_);have b0:=Nd.iff.1 ag;intro T cu;let F:Fam:=⟨wg,mu,fd,144,138,22,p.length,λkk v E=>kk<p.length/\∃a c,v= .slice a (xs kk).length c/\Al rI E a c (xs kk)/\(xs kk= []->a=none),λg s=>(Gi Tryz.prog).ok Q g s⟩;have ay:=b0.1;simp only [List.flatten_cons,List.flatten_nil,List.append_nil,List.cons_append,List.nil_append,List.map_cons,List.map_nil,List.nodup_cons,List.mem_cons,List.not_mem_nil,not_or,or_false,not_false_eq_true,and_true,List.nodup_nil] at ay;have cv:(Aj Z H [[(mu,.cells #[.int .i32 0,.int .u32 0] 138 (0,0))],[(wg,.cells #[.int .u64 0,.int .u32 0] 144 (0,0))],[(fd,.cells K.toArray 22 (0,0))]]).H fd=some (F.Iq λ_=> nS):=by
  rw [IE (j:=2) ag rfl];have:(Array.ofFn λ_:Fin p.length=>Value.slice none 0 0)=K.toArray:=by
   rw [bz];apply Array.ext
   ·simp
   ·intro i am b1;simp
  show some (Obj.cells K.toArray 22 (0,0))=some (Obj.cells (Array.ofFn λ_:Fin p.length=>Value.slice none 0 0) 22 (0,0));rw [this]
 refine YN F (f₀:=λ_=> .slice none 0 0) (show 1<=p.length by omega) (show p.length<134217728 by omega) ?_ ay.1.1 (λe=>ay.2 e.symm) (λe=>ay.1.2 e.symm) (IE (j:=1) ag rfl) (IE (j:=0) ag rfl) cv ?_ (λg s h=>h)
 ·rintro kk v cP cQ cw ⟨am,a,c,b1,a2,a3⟩;exact⟨am,a,c,b1,a2.Ag cw,a3⟩
 have cy:=VE ag;show Way Tryz.prog true (Stop Tryz.prog F (.F3 0)) _ (⟨(Aj Z H [[(mu,.cells #[.int .i32 0,.int .u32 0] 138 (0,0))],[(wg,.cells #[.int .u64 0,.int .u32 0] 144 (0,0))],[(fd,.cells K.toArray 22 (0,0))]]).E,Jq (Aj Z H [[(mu,.cells #[.int .i32 0,.int .u32 0] 138 (0,0))],[(wg,.cells #[.int .u64 0,.int .u32 0] 144 (0,0))],[(fd,.cells K.toArray 22 (0,0))]]).H wg mu fd,false⟩:St);rw [show(Aj Z H [[(mu,.cells #[.int .i32 0,.int .u32 0] 138 (0,0))],[(wg,.cells #[.int .u64 0,.int .u32 0] 144 (0,0))],[(fd,.cells K.toArray 22 (0,0))]]).E=Z from rfl,cy];have cz:Ap Z H []:=trivial;have cA:H fd=none:=(b0.2 (fd,.cells K.toArray 22 (0,0)) (by simp)).2;refine Vi (F:=F) (n:=p.length) rfl bw bv (b7.Ag aw) (b5.Ag aw) (b6.Ag aw) rfl (al.Ag aq) (cb.Ag (bi.Ad aq)) bZ ac (λj az E' a c cB cC=>⟨az,a,c,rfl,cB,cC⟩) (λcD b2 cR=>?_) p.length 0 (by omega) bw Z AA cz T cu;refine C 2 rfl ?_;refine Am (v:= .bool false) rfl (λρ h=>Yl.to (Yl.lss (h _ _ rfl) (h _ _ rfl)) (by rw [decide_eq_false (show ¬((p.length:Int)<(p.length:Int)) by omega)])) ?_;refine C 6 rfl ?_;refine JL.wait Tryz.Kj (F:=F) (show p.length<2147483648 by omega) rfl rfl rfl rfl rfl (Q:=Q) (λg s h=>h) λa4 f b3 cE cT cF=>?_;have a5:Ap a4 H [[(fd,F.Iq f)]]:=Nd.iff.2 ⟨by simp,λq ac=>by
  simp at ac;subst ac;exact⟨cE,cA⟩⟩
 have es:(⟨a4,F.Jw (Aj cD H []).H f,false⟩:St)=Aj a4 H [[(fd,F.Iq f)]]:=by
  unfold Aj mk;congr 1
 rw [es];have b4:=(aw.Ad b2).Ad b3;refine C 4 rfl (CG 0 (bZ.Ag (b2.Ad b3)) CJ rfl rfl rfl ?_);refine JL.ln underlying25 rfl rfl rfl (C 3 rfl ?_);refine HX (Ek [(27,.slice (A0 fd) p.length p.length),(28,iV (p.length:Int)),(29,iV ((0:Nat):Int))] rfl ?_);refine Y0 (n:=p.length) (f:=f) (xs:=xs) bv a5 (λk V=>?_) (λi a c L' hi a0 a6 cG a2 a3 k'=>?_) (λa6=>?_) p.length 0 (by omega) (λk V=>absurd V (Nat.not_lt_zero _))
 ·obtain⟨_,a,c,cH,e2,cI⟩:=cF k V;exact⟨a,c,cH,e2,cI⟩
 ·rw [VJ hi a0 a6] at Y;subst Y;exact JL.ret (v:= .tuple #[.slice a (xs i).length c,.bool true]) rfl rfl (BB.list func61 rfl (vs:= [.slice a (xs i).length c,.bool true]) ⟨a2,a3,trivial⟩) (QM a5 λa7=>V _ _ _ _ b4 rfl ⟨a,c,rfl,rfl,cG⟩ a7)
 ·rw [V0 a6] at Y;subst Y;refine C 5 rfl (AS func61 rfl rfl ?_);exact QM a5 λa7=>V _ _ _ _ b4 rfl ⟨none,0,rfl,rfl,Al.nil⟩ a7
end Pal
namespace Pal
open Go Go.Conc Go.Proofs
open Go.Proofs.Tryz
def SY(fu_:Nat)(Y:AT×Int)(O:AZ)(K:Int):Option (Bq Int ((Aw×(List Int)×Int)⊕(Unit))):= if K<(O.length:Int) then((ix O K).bind λU=> (f77 fu_ Y.1 U).bind λV=> if V.2=true then(some (.done (Sum.inl (U,V.1,0)))) else((Av (K+1)).bind λZ=> some (.more Z))) else(some (.done (Sum.inr ())))
def f27(fu_:Nat)(p0:AT):Option (Aw×(List Int)×Int):= (f70 fu_ p0 ([])).bind λK=> if K.2≠0 then(some ([],[],K.2)) else((f71 fu_ K.1 0).bind λO=> (f76 fu_ O).bind λU=> Option.bind (iter (SY fu_ K U) fu_ 0) λV=> Sum.elim (λr=>some r) (λY=> some ([],[],11)) V)
theorem PD{E:LH}{a1:Ao}{c2:Nat}{ag:Ao}{al:Nat}{p0:AT}(b6:Al (rL rI) E a1 c2 p0.1)(b7:Al Au E ag al p0.2){fu_:Nat}{r:Aw×(List Int)×Int}(a8:f27 fu_ p0=some r):AM (Gi Tryz.prog) 24 [.agg #[sV a1 p0.1 c2,sV ag p0.2 al]] E [] (λw E' B'=>∃(a9:Ao) (bb:Nat) (bd:Ao) (be:Nat),w= .tuple #[sV a9 r.1 bb,sV bd r.2.1 be,iV r.2.2]/\B'= []/\Al Au E' a9 bb r.1/\Al rI E' bd be r.2.1):=by
 refine Be func24 λQ c7 cs H b8 a2=>?_;unfold f27 at a8;refine C 2 rfl (CC b8 λb9 c8 V ca cb=>?_);refine C 6 rfl (BT ca Dk BP rfl rfl ?_);obtain⟨K,cc,cd⟩:=bs a8;refine A2 (HD (b6.Ag V) (b7.Ag V) Al.nil cc) rfl rfl Hk cb ?_;rintro _ c9 _ a3 ⟨am,ap,aq,aw,rfl,rfl,bi,bn⟩ ce;refine C 3 rfl (Bz ce FL λbo cf=>?_);refine Bv 3 cf Cr λcg=>?_;refine B7 3 cg rfl λda O bv bw=>C 8 rfl (AU cd (λci ck=>?_) (λci cm=>?_))
 ·refine C 7 rfl ?_;obtain rfl:=oi ck;exact AS func24 rfl rfl (a2 ((V.Ad a3).Ad O) rfl ⟨none,0,none,0,rfl,rfl,Al.nil,Al.nil⟩ bw)
 ·refine C 3 rfl (BT bv Ew Cr rfl rfl ?_);obtain⟨db,cn,co⟩:=bs cm;refine A2 (Nr (bi.Ag O) (bn.Ag O) cn) rfl rfl Lm bw ?_;rintro _ dc dd Y ⟨ay,az,_,rfl,rfl,cp⟩ cq;obtain⟨Z,cr,ct⟩:=bs co;refine C 5 rfl (DR 4 (YW cp cr) rfl rfl (A1 func63 rfl) cq rfl ?_);rintro _ cu cv ac ⟨rfl,cw,a4⟩ cy;refine EO (L':= [(23,.tuple #[]),(0,.agg #[.slice a1 p0.1.length c2,.slice ag p0.2.length al]),(1,Ak b9 0),(2,.slice none 0 0),(3,.slice none 0 0),(4,iV 0),(13,.agg #[.slice a1 p0.1.length c2,.slice ag p0.2.length al]),(14,.tuple #[.agg #[.slice am K.1.1.length ap,.slice aq K.1.2.length aw],iV K.2]),(12,.tuple #[.agg #[.slice am K.1.1.length ap,.slice aq K.1.2.length aw],iV K.2]),(15,.agg #[.slice am K.1.1.length ap,.slice aq K.1.2.length aw]),(16,iV K.2),(5,Ak bo 0),(6,iV K.2),(17,iV K.2),(18,.bool (decide (K.2≠0))),(20,.agg #[.slice am K.1.1.length ap,.slice aq K.1.2.length aw]),(21,.slice ay Z.length az),(7,.slice ay Z.length az),(22,.slice ay Z.length az)]) ⟨rfl,rfl,rfl,rfl,rfl,rfl,rfl,rfl,rfl,rfl,rfl,rfl,rfl,rfl,rfl,rfl,by rw [a4];rfl,by rw [a4];rfl,by rw [a4];rfl,trivial⟩ ?_;refine C 5 rfl (JL.ln underlying91 rfl rfl rfl ?_);obtain⟨bx,cz,bz⟩:=bs ct;refine C 2 rfl (Bu (λL s=>∃(bY:Unit) (bZ:LH),bx=Sum.inr bY/\Jm cu H bZ [] [] L s) ?_ ?_)
  ·rintro _ _ ⟨bY,bZ,rfl,rfl,rfl,cA,cB⟩;have cC:=elim_inr bz;refine C 6 rfl ?_;obtain rfl:=oi cC;exact AS func24 rfl rfl (a2 (((((V.Ad a3).Ad O).Ad Y).Ad ac).Ad cA) rfl ⟨none,0,none,0,rfl,rfl,Al.nil,Al.nil⟩ cB)
  ·intro cD;refine JL.block (Dx cz (λa5=> [cv]) (λa5=> [(5,Ak bo 0),(24,sV ay Z az),(25,iV (Z.length:Int)),(26,iV a5)]) AA cy ?_);rintro a5 cE U a6 b0 ⟨de,a0⟩ cF;have b1:=a0;unfold SY at b1;refine C 5 rfl (AU b1 (λcG cH=>?_) (λcG cI=>?_))
   ·obtain⟨cJ,cK,cM⟩:=bs cH;refine C 5 rfl (KS 0 (cw.Ag U) cK rfl rfl rfl rfl rfl rfl underlying91 Bh ?_);rintro df dg f93 _ cN ⟨b2,b3,rfl,b4⟩ cO dh di dj dk;refine Am (v:= sV b2 cJ b3) rfl (λρ h=>Yl.load BF (h _ _ rfl) (BC (j:=0) a6 cN (cO 0 _ rfl))) (C 4 rfl ?_);refine BT (bv.Ag ((Y.Ad ac).Ad U)) Ew Cr rfl rfl ?_;obtain⟨dm,cP,cQ⟩:=bs cM;refine C 1 rfl (A2 (Uj (bi.Ag (((O.Ad Y).Ad ac).Ad U)) (bn.Ag (((O.Ad Y).Ad ac).Ad U)) b4 cP) rfl rfl (A1 func61 rfl) a6 ?_);rintro _ dn _ a7 ⟨cR,cT,rfl,rfl,cV⟩ b5;refine C 10 rfl (Cd cQ (λcW cX=>?_) (λcW cY=>?_))
    ·refine C 8 rfl (JS.drop 0 b5 rfl λcZ=>?_);obtain rfl:=oi cX;obtain rfl:=b0 _ a0;have c0:=elim_inl bz;obtain rfl:=oi c0;exact AS func24 rfl rfl (a2 ((((((V.Ad a3).Ad O).Ad Y).Ad ac).Ad U).Ad a7) rfl ⟨b2,b3,cR,cT,rfl,rfl,(b4.Ag a7),cV⟩ cZ)
    ·obtain⟨c1,c3,c4⟩:=bs cY;refine C 3 rfl (Bn c3 rfl rfl rfl ?_);refine C 2 rfl ?_;obtain rfl:=oi c4;exact cF c1 (U.Ad a7) b5 rfl a0
   ·refine JL.exit rfl (JS.drop 0 a6 rfl λc5=>?_);obtain rfl:=oi cI;have c6:bx=(Sum.inr ()):=(b0 _ a0).symm;exact Az (cD _ _ ⟨(),cE,c6,rfl,rfl,U,c5⟩) rfl
variable {J:Judge Tryz.prog}{E:LH}
def TA(fu_:Nat)(p0:List Int)(K:Aw×Int):Option (Bq (Aw×Int) (Aw)):= (Av (K.2+2)).bind λO=> if O<(p0.length:Int) then((ix p0 K.2).bind λU=> (Av (K.2+1)).bind λV=> (ix p0 V).bind λY=> (Av (K.2+2)).bind λZ=> (ix p0 Z).bind λac=> (Dw K.1 ([(U,Y,ac)]:Aw)).bind λag=> (Av (K.2+3)).bind λal=> some (.more (ag,al))) else(some (.done K.1))
def f67(fu_:Nat)(p0:List Int):Option (Aw):= Option.bind (iter (TA fu_ p0) fu_ ([],0)) λK=> some K
theorem K3{a1:Ao}{c2:Nat}{p0:List Int}(ap:Al rI E a1 c2 p0){fu_:Nat}{r:Aw}(a2:f67 fu_ p0=some r):AM J 44 [sV a1 p0 c2] E [] (λw E' B'=>∃(a3:Ao) (a4:Nat) (g0:Seg),w= sV a3 r a4/\B'=g0/\OL 42 Au E' a3 a4 g0 r):=by
 refine Be func44 λQ cE cs H bd be=>?_;unfold f67 at a2;obtain⟨a5,bi,bn⟩:=bs a2;refine C 13 rfl (Bu (λL s=>∃(aq:LH) (V:Ao) (Y:Nat) (Z:Seg),Jn E H aq [Z] [(3,sV V a5 Y)] L s (OL 42 Au aq V Y Z a5)) ?_ ?_)
 ·rintro _ _ ⟨aq,V,Y,Z,rfl,rfl,bo,bv,bw⟩;refine C 5 rfl ?_;obtain rfl:=oi bn;exact AS func44 rfl rfl (be bo rfl ⟨V,Y,Z,rfl,(by first | rfl | simp | (simp [Value.cells])),bw⟩ bv)
 ·intro bx;refine JL.block (CZ bi (λL s ac=>∃(ag:LH) (al:Ao) (am:Nat) (O:Seg),Jn E H ag [O] [(0,sV a1 p0 c2),(3,sV al ac.1 am),(4,iV ac.2)] L s (OL 42 Au ag al am O ac.1)) ⟨E,none,0,[],rfl,rfl,AA,bd,OL.nil⟩ ?_);rintro _ _ ac ⟨ag,al,am,O,rfl,rfl,U,a6,a7⟩ bz ⟨cF,aw⟩ bY;have a8:=aw;unfold TA at a8;obtain⟨cG,bZ,b0⟩:=bs a8;refine C 4 rfl (Bn bZ rfl rfl rfl ?_);refine C 1 rfl (JL.ln underlying22 rfl rfl rfl ?_);refine C 2 rfl (AU b0 (λb1 b2=>?_) (λb1 b3=>?_))
  ·refine C 3 rfl (DK 17 λK=>?_);refine A3 K rfl [0,1,2] rfl ?_;obtain⟨ay,b4,b5⟩:=bs b2;refine EK 3 (ap.Ag U) b4 K underlying22 Ay ?_;rintro cH cI _ rfl b6;refine CK 4 K 0 b6 Bb rfl rfl rfl rfl (A3 K rfl [5,6] rfl ?_);obtain⟨cJ,b7,b8⟩:=bs b5;refine AN 7 K rfl rfl (λρ h s' a9=>EZ (h _ _ rfl) (h _ _ rfl) b7) ?_;obtain⟨az,b9,ca⟩:=bs b8;refine EK 8 (ap.Ag U) b9 K underlying22 Ay ?_;rintro cK cM _ rfl cb;refine CK 9 K 0 cb Bb rfl rfl rfl rfl (A3 K rfl [10,11] rfl ?_);obtain⟨cN,cc,cd⟩:=bs ca;refine AN 12 K rfl rfl (λρ h s' a9=>EZ (h _ _ rfl) (h _ _ rfl) cc) ?_;obtain⟨a0,ce,cf⟩:=bs cd;refine EK 13 (ap.Ag U) ce K underlying22 Ay ?_;rintro cO cP _ rfl cg;refine CK 14 K 0 cg Bb rfl rfl rfl rfl (AN (v:= .agg #[iV ay,iV az,iV a0]) 15 K rfl rfl (λρ h s' a9=>Ch [(0,1),(1,1),(2,1)] h BM underlying42 ⟨rfl,AJ type3,rfl,AJ type3,rfl,AJ type3,trivial⟩ rfl rfl) ?_);refine JG.one (i:=16) rfl (by decide+kernel) (Take.Co (pp:=Au) [.agg #[iV ay,iV az,iV a0]] ([(ay,az,a0)]:Aw) a6 rfl rfl rfl underlying26 Bi BM (by decide) rfl rfl rfl ⟨⟨_,_,rfl,rfl,⟨_,_,rfl,rfl,rfl⟩⟩,trivial⟩ λcQ ci ck cm=>?_);refine Cz [17,18] (AQ (S':= [O,ci]) rfl cm λcn=>?_);refine Bd 1 ck cn rfl λco bb cp cq=>?_;obtain⟨cr,ct,cu⟩:=bs cf;refine Hs (pp:=Au) 0 ct rfl rfl rfl rfl rfl rfl rfl underlying26 underlying26 Bi (Dt type42) BM rfl (by decide) (by decide) (a7.Ag bb) cp cq rfl λcv cw cy cz cA=>?_;obtain⟨cB,cC,cD⟩:=bs cu;refine C 5 rfl (Bn cC rfl rfl rfl ?_);refine C 2 rfl ?_;obtain rfl:=oi cD;exact Az (bY _ _ (cr,cB) ⟨co,cv,cw,cy,rfl,rfl,(U.Ad bb),cA,cz⟩ aw) rfl
  ·refine JL.exit rfl ?_;obtain rfl:=oi b3;obtain rfl:=bz _ aw;exact Az (bx _ _ ⟨ag,al,am,O,rfl,rfl,U,a6,a7⟩) rfl
def f110(fu_:Nat)(p0:List Int)(p1:List Int):Option (AT):= (f67 fu_ ([0,1,5,1,2,5,2,3,2,0,3,1,3,1,1]:List Int)).bind λK=> (f67 fu_ p1).bind λO=> (Dw K O).bind λU=> some (([p0,[],([3]:List Int),([1]:List Int)]:Bc),U)
theorem Pt{a1:Ao}{c2:Nat}{aw:Ao}{ay:Nat}{p0:List Int}{p1:List Int}(a8:Al rI E a1 c2 p0)(a9:Al rI E aw ay p1){fu_:Nat}{r:AT}(az:f110 fu_ p0 p1=some r):AM J 42 [sV a1 p0 c2,sV aw p1 ay] E [] (λw E' B'=>∃(a0:Ao) (a2:Nat) (a3:Ao) (a4:Nat),w= .agg #[sV a0 r.1 a2,sV a3 r.2 a4]/\B'= []/\Al (rL rI) E' a0 a2 r.1/\Al Au E' a3 a4 r.2):=by
 refine Be func42 λQ cE cs H bb bd=>?_;unfold f110 at az;refine C 2 rfl (Bz bb Fg λV be=>?_);refine C 4 rfl (Da (pp:=rI) [iV 3] [3] rfl rfl rfl underlying22 Ay Bx (by decide) rfl rfl rfl ⟨rfl,trivial⟩ be λbi bn bo bv=>?_);refine Da (pp:=rI) [iV 1] [1] rfl rfl rfl underlying22 Ay Bx (by decide) rfl rfl rfl ⟨rfl,trivial⟩ bv λbw bx bz bY=>AQ (S':= [[],[(V,.cells #[nS,nS] 28 (0,0))],bn,bx]) rfl bY λbZ=>Bd 2 bo bZ rfl λcF Z b0 b1=>Bd 3 (bz.Ag Z) b1 rfl λcG ac b2 b3=>Da (pp:=(rL rI)) [sV a1 p0 c2,nS,.slice (A0 bi) (([3]:List Int)).length 1,.slice (A0 bw) (([1]:List Int)).length 1] [p0,[],([3]:List Int),([1]:List Int)] rfl rfl rfl underlying25 De HT (by decide) rfl rfl rfl ⟨⟨_,_,rfl,(a8.Ag (Z.Ad ac))⟩,⟨_,_,rfl,Al.nil⟩,⟨_,_,rfl,(b0.Ag ac)⟩,⟨_,_,rfl,b2⟩,trivial⟩ b3 λK ag b4 b5=>AQ (S':= [[],[(V,.cells #[nS,nS] 28 (0,0))],[],[],ag]) rfl b5 λb6=>Da (pp:=rI) [iV 0,iV 1,iV 5,iV 1,iV 2,iV 5,iV 2,iV 3,iV 2,iV 0,iV 3,iV 1,iV 3,iV 1,iV 1] [0,1,5,1,2,5,2,3,2,0,3,1,3,1,1] rfl rfl rfl underlying22 Ay Bx (by decide) rfl rfl rfl ⟨rfl,rfl,rfl,rfl,rfl,rfl,rfl,rfl,rfl,rfl,rfl,rfl,rfl,rfl,rfl,trivial⟩ b6 λcH cI b7 b8=>Bd 5 b7 b8 rfl λcJ al b9 ca=>?_;obtain⟨cK,cb,cc⟩:=bs az;refine A2 (K3 b9 cb) rfl rfl Gw ca ?_;rintro _ cM cd am ⟨cN,cO,_,rfl,rfl,ce⟩ cf;refine AQ (S':= [[],[(V,.cells #[nS,nS] 28 (0,0))],[],[],ag,[],cd]) rfl cf λcg=>?_;obtain⟨cP,ci,ck⟩:=bs cc;refine C 1 rfl (A2 (K3 (a9.Ag (((Z.Ad ac).Ad al).Ad am)) ci) rfl rfl Gw cg ?_);rintro _ cQ cR ap ⟨cT,cV,_,rfl,rfl,cm⟩ cn;refine Bd 7 cm cn rfl λcW aq co cp=>?_;obtain⟨Y,cq,cr⟩:=bs ck;refine Hs (pp:=Au) 6 cq rfl rfl rfl rfl rfl rfl rfl underlying26 underlying26 Bi (Dt type42) BM rfl (by decide) (by decide) (ce.Ag (ap.Ad aq)) co cp rfl λO U ct cu cv=>AQ (S':= [[],[(V,.cells #[nS,nS] 28 (0,0))],[],[],ag,[],ct,[]]) rfl cv λcw=>Am (v:= .agg #[.slice (A0 K) (([p0,[],([3]:List Int),([1]:List Int)]:Bc)).length 4,sV O Y U]) rfl (λρ h=>Ch [(0,1),(1,1)] h Fg underlying28 ⟨rfl,AJ type25,rfl,AJ type26,trivial⟩ rfl rfl) (Bv 1 cw BP λcy=>?_);refine JL.done (Bd 4 (b4.Ag (((al.Ad am).Ad ap).Ad aq)) cy rfl λcX a5 cz cA=>?_);refine Bd 6 (cu.Ag a5) cA rfl λcY a6 cB cC=>AQ (S':= [[],[(V,.cells #[.slice (A0 K) (([p0,[],([3]:List Int),([1]:List Int)]:Bc)).length 4,sV O Y U] 28 (0,0))],[],[],[],[],[],[]]) rfl cC λa7=>?_;obtain rfl:=oi cr;refine JL.ret (v:= .agg #[.slice (A0 K) (([p0,[],([3]:List Int),([1]:List Int)]:Bc)).length 4,sV O Y U]) rfl rfl (BB.list func42 rfl (vs:= [.agg #[.slice (A0 K) (([p0,[],([3]:List Int),([1]:List Int)]:Bc)).length 4,sV O Y U]]) ⟨⟨_,rfl,Ld.many (vs:= [.slice (A0 K) (([p0,[],([3]:List Int),([1]:List Int)]:Bc)).length 4,sV O Y U]) Dk BP (EY (off:=0) 1 a7 rfl rfl)⟩,trivial⟩) (DF 1 a7 rfl λcD=>?_);exact bd (((((((Z.Ad ac).Ad al).Ad am).Ad ap).Ad aq).Ad a5).Ad a6) rfl ⟨(A0 K),4,O,U,rfl,rfl,(cz.Ag a6),cB⟩ cD
def f63(fu_:Nat):Option (AT):= (f110 fu_ ([1,2,3]:List Int) ([])).bind λK=> some K
theorem Nz{fu_:Nat}{r:AT}(Z:f63 fu_=some r):AM J 40 [] E [] (λw E' B'=>∃(ac:Ao) (ag:Nat) (al:Ao) (am:Nat),w= .agg #[sV ac r.1 ag,sV al r.2 am]/\B'= []/\Al (rL rI) E' ac ag r.1/\Al Au E' al am r.2):=by
 refine Be func40 λQ bd cs H aq aw=>?_;unfold f63 at Z;refine C 2 rfl (Bz aq Fg λr1 ay=>?_);refine C 3 rfl (Da (pp:=rI) [iV 1,iV 2,iV 3] [1,2,3] rfl rfl rfl underlying22 Ay Bx (by decide) rfl rfl rfl ⟨rfl,rfl,rfl,trivial⟩ ay λbe bi az a0=>?_);refine Bd 2 az a0 rfl λbn a1 a2 a3=>?_;obtain⟨K,a4,a5⟩:=bs Z;refine A2 (Pt a2 Al.nil a4) rfl rfl Iu a3 ?_;rintro _ bo _ a6 ⟨O,U,V,Y,rfl,rfl,a7,a8⟩ a9;refine Bv 1 a9 BP λap=>?_;refine JL.done ?_;obtain rfl:=oi a5;refine JL.ret (v:= .agg #[sV O K.1 U,sV V K.2 Y]) rfl rfl (BB.list func40 rfl (vs:= [.agg #[sV O K.1 U,sV V K.2 Y]]) ⟨⟨_,rfl,Ld.many (vs:= [sV O K.1 U,sV V K.2 Y]) Dk BP (EY (off:=0) 1 ap rfl rfl)⟩,trivial⟩) (DF 1 ap rfl λbb=>?_);exact aw (a1.Ad a6) rfl ⟨O,U,V,Y,rfl,rfl,a7,a8⟩ bb
def f64(fu_:Nat):Option (AT):= (f110 fu_ ([]) ([])).bind λK=> some K
theorem PK{fu_:Nat}{r:AT}(Z:f64 fu_=some r):AM J 50 [] E [] (λw E' B'=>∃(ac:Ao) (ag:Nat) (al:Ao) (am:Nat),w= .agg #[sV ac r.1 ag,sV al r.2 am]/\B'= []/\Al (rL rI) E' ac ag r.1/\Al Au E' al am r.2):=by
 refine Be func50 λQ a6 cs H aq aw=>?_;unfold f64 at Z;refine C 2 rfl (Bz aq Fg λr1 ay=>?_);obtain⟨K,az,a0⟩:=bs Z;refine C 3 rfl (A2 (Pt Al.nil Al.nil az) rfl rfl Iu ay ?_);rintro _ a7 _ a1 ⟨O,U,V,Y,rfl,rfl,a2,a3⟩ a4;refine Bv 1 a4 BP λap=>?_;refine JL.done ?_;obtain rfl:=oi a0;refine JL.ret (v:= .agg #[sV O K.1 U,sV V K.2 Y]) rfl rfl (BB.list func50 rfl (vs:= [.agg #[sV O K.1 U,sV V K.2 Y]]) ⟨⟨_,rfl,Ld.many (vs:= [sV O K.1 U,sV V K.2 Y]) Dk BP (EY (off:=0) 1 ap rfl rfl)⟩,trivial⟩) (DF 1 ap rfl λa5=>?_);exact aw a1 rfl ⟨O,U,V,Y,rfl,rfl,a2,a3⟩ a5
def f65(fu_:Nat):Option (AT):= (f110 fu_ ([5,1]:List Int) ([])).bind λK=> some K
theorem Uk{fu_:Nat}{r:AT}(Z:f65 fu_=some r):AM J 49 [] E [] (λw E' B'=>∃(ac:Ao) (ag:Nat) (al:Ao) (am:Nat),w= .agg #[sV ac r.1 ag,sV al r.2 am]/\B'= []/\Al (rL rI) E' ac ag r.1/\Al Au E' al am r.2):=by
 refine Be func49 λQ bd cs H aq aw=>?_;unfold f65 at Z;refine C 2 rfl (Bz aq Fg λr1 ay=>?_);refine C 3 rfl (Da (pp:=rI) [iV 5,iV 1] [5,1] rfl rfl rfl underlying22 Ay Bx (by decide) rfl rfl rfl ⟨rfl,rfl,trivial⟩ ay λbe bi az a0=>?_);refine Bd 2 az a0 rfl λbn a1 a2 a3=>?_;obtain⟨K,a4,a5⟩:=bs Z;refine A2 (Pt a2 Al.nil a4) rfl rfl Iu a3 ?_;rintro _ bo _ a6 ⟨O,U,V,Y,rfl,rfl,a7,a8⟩ a9;refine Bv 1 a9 BP λap=>?_;refine JL.done ?_;obtain rfl:=oi a5;refine JL.ret (v:= .agg #[sV O K.1 U,sV V K.2 Y]) rfl rfl (BB.list func49 rfl (vs:= [.agg #[sV O K.1 U,sV V K.2 Y]]) ⟨⟨_,rfl,Ld.many (vs:= [sV O K.1 U,sV V K.2 Y]) Dk BP (EY (off:=0) 1 ap rfl rfl)⟩,trivial⟩) (DF 1 ap rfl λbb=>?_);exact aw (a1.Ad a6) rfl ⟨O,U,V,Y,rfl,rfl,a7,a8⟩ bb
def f66(fu_:Nat):Option (Aw):= (f67 fu_ ([0,1,1,0,2,3,0,3,2]:List Int)).bind λK=> some K
theorem bf{fu_:Nat}{r:Aw}(K:f66 fu_=some r):AM J 46 [] E [] (λw E' B'=>∃(O:Ao) (U:Nat),w= sV O r U/\B'= []/\Al Au E' O U r):=by
 refine Be func46 λQ a5 cs H V Y=>?_;unfold f66 at K;refine C 6 rfl (Da (pp:=rI) [iV 0,iV 1,iV 1,iV 0,iV 2,iV 3,iV 0,iV 3,iV 2] [0,1,1,0,2,3,0,3,2] rfl rfl rfl underlying22 Ay Bx (by decide) rfl rfl rfl ⟨rfl,rfl,rfl,rfl,rfl,rfl,rfl,rfl,rfl,trivial⟩ V λr1 g2 Z ac=>?_);refine Bd 1 Z ac rfl λa6 ag al am=>?_;obtain⟨a7,ap,aq⟩:=bs K;refine A2 (K3 al ap) rfl rfl Gw am ?_;rintro _ a8 a9 aw ⟨ay,az,_,rfl,rfl,a0⟩ a1;refine C 2 rfl (Bd 2 a0 a1 rfl λbb a2 a3 a4=>?_);obtain rfl:=oi aq;exact AS func46 rfl rfl (Y ((ag.Ad aw).Ad a2) rfl ⟨ay,az,rfl,rfl,a3⟩ a4)
def Tb(fu_:Nat)(p0:List Int)(p1:List Int)(K:Int):Option (Bq Int ((Bool)⊕(Unit))):= Option.bind (if K<(p0.length:Int) then(some (decide (K<(p1.length:Int)))) else(some false)) λO=> if O=true then((ix p0 K).bind λU=> (ix p1 K).bind λV=> if U≠V then(some (.done (Sum.inl false))) else((Av (K+1)).bind λY=> some (.more Y))) else(some (.done (Sum.inr ())))
def f29(fu_:Nat)(p0:List Int)(p1:List Int):Option Bool:= Option.bind (iter (Tb fu_ p0 p1) fu_ 0) λK=> Sum.elim (λr=>some r) (λO=> some (decide ((p0.length:Int)=(p1.length:Int)))) K
theorem I8{a1:Ao}{c2:Nat}{O:Ao}{U:Nat}{p0:List Int}{p1:List Int}(a6:Al rI E a1 c2 p0)(a7:Al rI E O U p1){fu_:Nat}{r:Bool}(ap:f29 fu_ p0 p1=some r):AM J 14 [sV a1 p0 c2,sV O p1 U] E [] (λw E' B'=>w= .bool r/\B'= []):=by
 refine Be func14 λQ cg cs H a8 aq=>?_;unfold f29 at ap;obtain⟨aw,a9,ay⟩:=bs ap;refine C 9 rfl (Bu (λL s=>∃(az:Unit) (a0:LH),aw=Sum.inr az/\Jm E H a0 [] [(0,sV a1 p0 c2),(1,sV O p1 U)] L s) ?_ ?_)
 ·rintro _ _ ⟨az,a0,rfl,rfl,rfl,bb,bd⟩;have be:=elim_inr ay;refine C 3 rfl (JL.ln underlying22 rfl rfl rfl ?_);refine C 1 rfl (JL.ln underlying22 rfl rfl rfl ?_);refine C 3 rfl ?_;obtain rfl:=oi be;exact AS func14 rfl rfl (aq bb rfl ⟨rfl,rfl⟩ bd)
 ·intro bi;refine JL.block (Dx a9 (λZ=> []) (λZ=> [(0,sV a1 p0 c2),(1,sV O p1 U),(5,iV Z)]) AA a8 ?_);rintro Z ag V a2 a3 ⟨ci,ac⟩ bn;have a4:=ac;unfold Tb at a4;refine C 5 rfl (JL.ln underlying22 rfl rfl rfl ?_);obtain⟨bo,bv,bw⟩:=bs a4;refine C 2 rfl (Fx [] (λL s=>∃(al:LH),Jm ag H al [] [(0,sV a1 p0 c2),(1,sV O p1 U),(5,iV Z),(15,.bool bo)] L s) ?_ ?_)
  ·rintro _ _ ⟨al,rfl,rfl,Y,am⟩;refine JL.done (Cd bw (λbx bz=>?_) (λbx bY=>?_))
   ·refine C 4 rfl (DK 8 λK=>?_);refine A3 K rfl [0,1] rfl ?_;obtain⟨ck,bZ,b0⟩:=bs bz;refine EK 2 (a6.Ag (V.Ad Y)) bZ K underlying22 Ay ?_;rintro cm cn _ rfl b1;refine CK 3 K 0 b1 Bb rfl rfl rfl rfl (A3 K rfl [4,5] rfl ?_);obtain⟨co,b2,b3⟩:=bs b0;refine EK 6 (a7.Ag (V.Ad Y)) b2 K underlying22 Ay ?_;rintro cp cq _ rfl b4;refine CK 7 K 0 b4 Bb rfl rfl rfl rfl (Cz [8] ?_);refine C 2 rfl (AU b3 (λb5 b6=>?_) (λb5 b7=>?_))
    ·refine C 4 rfl ?_;obtain rfl:=oi b6;obtain rfl:=a3 _ ac;have b8:=elim_inl ay;obtain rfl:=oi b8;exact AS func14 rfl rfl (aq (V.Ad Y) rfl ⟨rfl,rfl⟩ am)
    ·obtain⟨b9,ca,cb⟩:=bs b7;refine C 4 rfl (Bn ca rfl rfl rfl ?_);refine C 2 rfl ?_;obtain rfl:=oi cb;exact bn b9 (V.Ad Y) am rfl ac
   ·refine JL.exit rfl ?_;obtain rfl:=oi bY;have cc:aw=(Sum.inr ()):=(a3 _ ac).symm;exact Az (bi _ _ ⟨(),al,cc,rfl,rfl,(V.Ad Y),am⟩) rfl
  ·intro a5;refine G1 10 bv (λcd ce=>?_) (λcd cf=>?_)
   ·refine C 2 rfl (JL.ln underlying22 rfl rfl rfl ?_);refine C 2 rfl ?_;obtain rfl:=oi ce;exact Az (a5 _ _ ⟨ag,rfl,rfl,AA,a2⟩) rfl
   ·refine C 5 rfl ?_;obtain rfl:=oi cf;exact Az (a5 _ _ ⟨ag,rfl,rfl,AA,a2⟩) rfl
def Tm(fu_:Nat)(p0:Aw)(p1:Aw)(K:Int):Option (Bq Int ((Bool)⊕(Unit))):= Option.bind (if K<(p0.length:Int) then(some (decide (K<(p1.length:Int)))) else(some false)) λO=> if O=true then((ix p0 K).bind λU=> (ix p1 K).bind λV=> if U≠V then(some (.done (Sum.inl false))) else((Av (K+1)).bind λY=> some (.more Y))) else(some (.done (Sum.inr ())))
def f26(fu_:Nat)(p0:Aw)(p1:Aw):Option Bool:= Option.bind (iter (Tm fu_ p0 p1) fu_ 0) λK=> Sum.elim (λr=>some r) (λO=> some (decide ((p0.length:Int)=(p1.length:Int)))) K
theorem K5{a1:Ao}{c2:Nat}{O:Ao}{U:Nat}{p0:Aw}{p1:Aw}(a8:Al Au E a1 c2 p0)(a9:Al Au E O U p1){fu_:Nat}{r:Bool}(aw:f26 fu_ p0 p1=some r):AM J 34 [sV a1 p0 c2,sV O p1 U] E [] (λw E' B'=>w= .bool r/\B'= []):=by
 refine Be func34 λQ ck cs H bb ay=>?_;unfold f26 at aw;obtain⟨az,bd,a0⟩:=bs aw;refine C 9 rfl (Bu (λL s=>∃(a2:Unit) (a3:LH),az=Sum.inr a2/\Jm E H a3 [] [(0,sV a1 p0 c2),(1,sV O p1 U)] L s) ?_ ?_)
 ·rintro _ _ ⟨a2,a3,rfl,rfl,rfl,be,bi⟩;have bn:=elim_inr a0;refine C 3 rfl (JL.ln underlying26 rfl rfl rfl ?_);refine C 1 rfl (JL.ln underlying26 rfl rfl rfl ?_);refine C 3 rfl ?_;obtain rfl:=oi bn;exact AS func34 rfl rfl (ay be rfl ⟨rfl,rfl⟩ bi)
 ·intro bo;refine JL.block (Dx bd (λal=> []) (λal=> [(0,sV a1 p0 c2),(1,sV O p1 U),(5,iV al)]) AA bb ?_);rintro al ap V a4 a5 ⟨cm,am⟩ bv;have a6:=am;unfold Tm at a6;refine C 5 rfl (JL.ln underlying26 rfl rfl rfl ?_);obtain⟨bw,bx,bz⟩:=bs a6;refine C 2 rfl (Fx [] (λL s=>∃(Y:LH),Jm ap H Y [] [(0,sV a1 p0 c2),(1,sV O p1 U),(5,iV al),(15,.bool bw)] L s) ?_ ?_)
  ·rintro _ _ ⟨Y,rfl,rfl,Z,aq⟩;refine JL.done (Cd bz (λbY bZ=>?_) (λbY b0=>?_))
   ·refine C 4 rfl (DK 8 λK=>?_);refine A3 K rfl [0,1] rfl ?_;obtain⟨ac,b1,b2⟩:=bs bZ;refine EK 2 (a8.Ag (V.Ad Z)) b1 K underlying26 Bi ?_;rintro cn co _ ⟨_,_,rfl,rfl,⟨_,_,rfl,rfl,rfl⟩⟩ b3;refine H9 3 K b3 Ds Bi rfl rfl rfl (A3 K rfl [4,5] rfl ?_);obtain⟨ag,b4,b5⟩:=bs b2;refine EK 6 (a9.Ag (V.Ad Z)) b4 K underlying26 Bi ?_;rintro cp cq _ ⟨_,_,rfl,rfl,⟨_,_,rfl,rfl,rfl⟩⟩ b6;refine H9 7 K b6 Ds Bi rfl rfl rfl (Cz [8] ?_);refine Am (v:= .bool (decide (ac≠ag))) rfl (λρ h=>OZ (E:=Y) (E':=Y) (ws:= [iV ac.1,iV ac.2.1,iV ac.2.2]) (ws':= [iV ag.1,iV ag.2.1,iV ag.2.2]) (a:=ac) (b:=ag) bq (by decide) (by decide+kernel) ⟨_,_,rfl,rfl,⟨_,_,rfl,rfl,rfl⟩⟩ ⟨_,_,rfl,rfl,⟨_,_,rfl,rfl,rfl⟩⟩ (h _ _ rfl) (h _ _ rfl)) (JL.done ?_);refine AU b5 (λb7 b8=>?_) (λb7 b9=>?_)
    ·refine C 4 rfl ?_;obtain rfl:=oi b8;obtain rfl:=a5 _ am;have ca:=elim_inl a0;obtain rfl:=oi ca;exact AS func34 rfl rfl (ay (V.Ad Z) rfl ⟨rfl,rfl⟩ aq)
    ·obtain⟨cb,cc,cd⟩:=bs b9;refine C 4 rfl (Bn cc rfl rfl rfl ?_);refine C 2 rfl ?_;obtain rfl:=oi cd;exact bv cb (V.Ad Z) aq rfl am
   ·refine JL.exit rfl ?_;obtain rfl:=oi b0;have ce:az=(Sum.inr ()):=(a5 _ am).symm;exact Az (bo _ _ ⟨(),Y,ce,rfl,rfl,(V.Ad Z),aq⟩) rfl
  ·intro a7;refine G1 10 bx (λcf cg=>?_) (λcf ci=>?_)
   ·refine C 2 rfl (JL.ln underlying26 rfl rfl rfl ?_);refine C 2 rfl ?_;obtain rfl:=oi cg;exact Az (a7 _ _ ⟨ap,rfl,rfl,AA,a4⟩) rfl
   ·refine C 5 rfl ?_;obtain rfl:=oi ci;exact Az (a7 _ _ ⟨ap,rfl,rfl,AA,a4⟩) rfl
def f18(fu_:Nat):Option Bool:= (f63 fu_).bind λac=> (f43 fu_ ac).bind λO=> (f63 fu_).bind λag=> (f33 fu_ ag).bind λU=> (f63 fu_).bind λal=> (f22 fu_ al).bind λV=> (f63 fu_).bind λam=> (f24 fu_ am).bind λY=> (f64 fu_).bind λap=> (f39 fu_ ap).bind λZ=> (f65 fu_).bind λaq=> (f27 fu_ aq).bind λK=> Option.bind (if O.2=0 then(some (decide (U.2=0))) else(some false)) λaw=> Option.bind (if aw=true then(some (decide (V.2=0))) else(some false)) λay=> Option.bind (if ay=true then(some (decide (Y.2=0))) else(some false)) λaz=> Option.bind (if az=true then(some (decide (Z.2=0))) else(some false)) λa0=> Option.bind (if a0=true then(some (decide (K.2.2=0))) else(some false)) λa1=> Option.bind (if a1=true then(some (decide (Y.1=16))) else(some false)) λa2=> Option.bind (if a2=true then((f29 fu_ O.1 ([(-6),1,3,2]:List Int)).bind λa3=> some a3) else(some false)) λa4=> Option.bind (if a4=true then((f29 fu_ U.1 ([1,2,3]:List Int)).bind λa5=> some a5) else(some false)) λa6=> Option.bind (if a6=true then((f66 fu_).bind λa7=> (f26 fu_ V.1 a7).bind λa8=> some a8) else(some false)) λa9=> Option.bind (if a9=true then((f29 fu_ Z.1 ([0]:List Int)).bind λbb=> some bb) else(some false)) λbd=> Option.bind (if bd=true then((f67 fu_ ([0,2,6,2,3,3,3,1,1]:List Int)).bind λbe=> (f26 fu_ K.1 be).bind λbi=> some bi) else(some false)) λbn=> Option.bind (if bn=true then((f29 fu_ K.2.1 ([0,1,2]:List Int)).bind λbo=> some bo) else(some false)) λbv=> some bv
theorem aV{E:LH}{fu_:Nat}{r:Bool}(bZ:f18 fu_=some r):AM (Gi Tryz.prog) 21 [] E [] (λw E' B'=>w= .bool r/\B'= []):=by
 refine Be func21 λQ gn cs H cE cF=>?_;unfold f18 at bZ;obtain⟨gp,cG,cH⟩:=bs bZ;refine C 6 rfl (A2 (Nz cG) rfl rfl Eo cE ?_);rintro _ gq _ cI ⟨gr,gt,gu,gv,rfl,rfl,cJ,cK⟩ cM;obtain⟨a6,cN,cO⟩:=bs cH;refine A2 (bm cJ cK cN) rfl rfl (A1 func12 rfl) cM ?_;rintro _ gw _ cP ⟨a7,a8,rfl,rfl,cQ⟩ cR;obtain⟨gx,cT,cV⟩:=bs cO;refine C 8 rfl (A2 (Nz cT) rfl rfl Eo cR ?_);rintro _ gy _ b0 ⟨gz,gA,gB,gC,rfl,rfl,cW,cX⟩ cY;refine AQ (S':= [[],[],[],[]]) rfl cY λcZ=>?_;obtain⟨aq,c0,c1⟩:=bs cV;refine A2 (TY cW cX c0) rfl rfl (A1 func45 rfl) cZ ?_;rintro _ gD _ b1 ⟨aw,ay,rfl,rfl,c2⟩ c3;obtain⟨gE,c4,c5⟩:=bs c1;refine C 8 rfl (A2 (Nz c4) rfl rfl Eo c3 ?_);rintro _ gF _ bx ⟨gG,gH,gI,gJ,rfl,rfl,c6,c7⟩ c8;obtain⟨ac,c9,da⟩:=bs c5;refine A2 (bp c6 c7 c9) rfl rfl (A1 func36 rfl) c8 ?_;rintro _ gK _ bz ⟨am,ap,rfl,rfl,db⟩ dc;refine AQ (S':= [[],[],[],[],[],[],[]]) rfl dc λdd=>?_;obtain⟨gL,de,df⟩:=bs da;refine C 8 rfl (A2 (Nz de) rfl rfl Eo dd ?_);rintro _ gM _ bi ⟨gN,gO,gP,gQ,rfl,rfl,dg,dh⟩ di;obtain⟨az,dj,dk⟩:=bs df;refine BH (aK dg dh dj) rfl rfl (A1 func38 rfl) di λgR bn dm=>?_;obtain⟨gS,dn,dp⟩:=bs dk;refine C 8 rfl (A2 (PK dn) rfl rfl N3 dm ?_);rintro _ gT _ bo ⟨gU,gV,gW,gX,rfl,rfl,dq,dr⟩ dt;refine AQ (S':= [[],[],[],[],[],[],[],[],[],[]]) rfl dt λdu=>?_;obtain⟨O,dv,dw⟩:=bs dp;refine A2 (Ui dq dr dv) rfl rfl (A1 func22 rfl) du ?_;rintro _ gY _ bv ⟨ag,al,rfl,rfl,dx⟩ dy;obtain⟨gZ,dz,dA⟩:=bs dw;refine C 8 rfl (A2 (Uk dz) rfl rfl (A1 func49 rfl) dy ?_);rintro _ g0 _ bb ⟨g1,g3,g4,g5,rfl,rfl,dB,dC⟩ dD;obtain⟨K,dE,dF⟩:=bs dA;refine A2 (PD dB dC dE) rfl rfl N7 dD ?_;rintro _ g6 _ bd ⟨Y,Z,U,V,rfl,rfl,dG,dH⟩ dI;refine AQ (S':= [[],[],[],[],[],[],[],[],[],[],[],[],[]]) rfl dI λb2=>?_;obtain⟨dJ,dK,dL⟩:=bs dF;refine C 13 rfl (CP 6 52 [] [(1,sV a7 a6.1 a8),(3,sV aw aq.1 ay),(5,sV am ac.1 ap),(6,iV ac.2),(7,iV az.1),(8,iV az.2),(9,sV ag O.1 al),(10,iV O.2),(11,sV Y K.1 Z),(12,sV U K.2.1 V),(13,iV K.2.2),(50,.bool dJ)] (λg7 a0 b3=>?_) (λb4=>?_))
 ·obtain⟨dM,dN,dO⟩:=bs dL;refine C 1 rfl (CP 10 48 [] [(1,sV a7 a6.1 a8),(3,sV aw aq.1 ay),(5,sV am ac.1 ap),(7,iV az.1),(8,iV az.2),(9,sV ag O.1 al),(10,iV O.2),(11,sV Y K.1 Z),(12,sV U K.2.1 V),(13,iV K.2.2),(54,.bool dM)] (λg8 a1 b5=>?_) (λb6=>?_))
  ·obtain⟨dP,dQ,dR⟩:=bs dO;refine C 1 rfl (CP 14 44 [] [(1,sV a7 a6.1 a8),(3,sV aw aq.1 ay),(5,sV am ac.1 ap),(7,iV az.1),(9,sV ag O.1 al),(10,iV O.2),(11,sV Y K.1 Z),(12,sV U K.2.1 V),(13,iV K.2.2),(58,.bool dP)] (λg9 a2 b7=>?_) (λb8=>?_))
   ·obtain⟨dS,dT,dU⟩:=bs dR;refine C 1 rfl (CP 18 40 [] [(1,sV a7 a6.1 a8),(3,sV aw aq.1 ay),(5,sV am ac.1 ap),(7,iV az.1),(9,sV ag O.1 al),(11,sV Y K.1 Z),(12,sV U K.2.1 V),(13,iV K.2.2),(62,.bool dS)] (λha a3 b9=>?_) (λca=>?_))
    ·obtain⟨dV,dW,dX⟩:=bs dU;refine C 1 rfl (CP 22 36 [] [(1,sV a7 a6.1 a8),(3,sV aw aq.1 ay),(5,sV am ac.1 ap),(7,iV az.1),(9,sV ag O.1 al),(11,sV Y K.1 Z),(12,sV U K.2.1 V),(66,.bool dV)] (λhb a4 cb=>?_) (λcc=>?_))
     ·obtain⟨dY,dZ,ea⟩:=bs dX;refine C 1 rfl (CP 26 32 [] [(1,sV a7 a6.1 a8),(3,sV aw aq.1 ay),(5,sV am ac.1 ap),(9,sV ag O.1 al),(11,sV Y K.1 Z),(12,sV U K.2.1 V),(70,.bool dY)] (λhc a5 cd=>?_) (λce=>?_))
      ·obtain⟨eb,ec,ed⟩:=bs ea;refine C 1 rfl (CP 31 27 [] [(3,sV aw aq.1 ay),(5,sV am ac.1 ap),(9,sV ag O.1 al),(11,sV Y K.1 Z),(12,sV U K.2.1 V),(75,.bool eb)] (λhd a9 cf=>?_) (λcg=>?_))
       ·obtain⟨ee,ef,eg⟩:=bs ed;refine C 1 rfl (CP 36 22 [] [(5,sV am ac.1 ap),(9,sV ag O.1 al),(11,sV Y K.1 Z),(12,sV U K.2.1 V),(80,.bool ee)] (λhe be ci=>?_) (λck=>?_))
        ·obtain⟨eh,ei,ej⟩:=bs eg;refine C 1 rfl (CP 41 17 [] [(9,sV ag O.1 al),(11,sV Y K.1 Z),(12,sV U K.2.1 V),(85,.bool eh)] (λhf bw cm=>?_) (λcn=>?_))
         ·obtain⟨ek,el,em⟩:=bs ej;refine C 1 rfl (CP 46 12 [] [(11,sV Y K.1 Z),(12,sV U K.2.1 V),(90,.bool ek)] (λhg bY co=>?_) (λcp=>?_))
          ·obtain⟨en,eo,ep⟩:=bs em;refine C 1 rfl (CP 52 6 [] [(12,sV U K.2.1 V),(96,.bool en)] (λhj cq cr=>?_) (λct=>?_))
           ·obtain⟨er,et,eu⟩:=bs ep;refine C 1 rfl (CP 57 1 [] [(101,.bool er)] (λhk ew ex=>?_) (λcu=>?_))
            ·refine C 2 rfl ?_;obtain rfl:=oi eu;exact AS func21 rfl rfl (cF (((((((((((((((((((((((cI.Ad cP).Ad b0).Ad b1).Ad bx).Ad bz).Ad bi).Ad bn).Ad bo).Ad bv).Ad bb).Ad bd).Ad a0).Ad a1).Ad a2).Ad a3).Ad a4).Ad a5).Ad a9).Ad be).Ad bw).Ad bY).Ad cq).Ad ew) rfl ⟨rfl,rfl⟩ ex)
            ·refine Ci 97 et (λey ez=>?_) (λey eA=>?_)
             ·refine C 1 rfl (Da (pp:=rI) [iV 0,iV 1,iV 2] [0,1,2] rfl rfl rfl underlying22 Ay Bx (by decide) rfl rfl rfl ⟨rfl,rfl,rfl,trivial⟩ cr λhl hm eB eC=>?_);refine Bd 0 eB eC rfl λhn cv eD eE=>?_;obtain⟨ho,eF,eG⟩:=bs ez;refine BH (I8 (dH.Ag (((((((((((a0.Ad a1).Ad a2).Ad a3).Ad a4).Ad a5).Ad a9).Ad be).Ad bw).Ad bY).Ad cq).Ad cv)) eD eF) rfl rfl IN eE λhp eH eI=>AQ (S':= [[],[]]) rfl eI λeJ=>C 1 rfl ?_;obtain rfl:=oi eG;exact cu (cv.Ad eH) eJ rfl
             ·refine C 4 rfl ?_;obtain rfl:=oi eA;exact cu AA cr rfl
           ·refine Ci 91 eo (λeK eL=>?_) (λeK eM=>?_)
            ·refine C 1 rfl (Da (pp:=rI) [iV 0,iV 2,iV 6,iV 2,iV 3,iV 3,iV 3,iV 1,iV 1] [0,2,6,2,3,3,3,1,1] rfl rfl rfl underlying22 Ay Bx (by decide) rfl rfl rfl ⟨rfl,rfl,rfl,rfl,rfl,rfl,rfl,rfl,rfl,trivial⟩ co λhq hr eN eO=>?_);refine Bd 0 eN eO rfl λhs cw eP eQ=>?_;obtain⟨ht,eR,eS⟩:=bs eL;refine A2 (K3 eP eR) rfl rfl Gw eQ ?_;rintro _ hu eT cy ⟨hv,hw,_,rfl,rfl,eU⟩ eV;refine AQ (S':= [[],eT]) rfl eV λeW=>Bd 1 eU eW rfl λhx cz eX eY=>?_;obtain⟨hy,eZ,e0⟩:=bs eS;refine BH (K5 (dG.Ag ((((((((((((a0.Ad a1).Ad a2).Ad a3).Ad a4).Ad a5).Ad a9).Ad be).Ad bw).Ad bY).Ad cw).Ad cy).Ad cz)) eX eZ) rfl rfl KB eY λhz e1 e3=>C 1 rfl ?_;obtain rfl:=oi e0;exact ct (((cw.Ad cy).Ad cz).Ad e1) e3 rfl
            ·refine C 5 rfl ?_;obtain rfl:=oi eM;exact ct AA co rfl
          ·refine Ci 86 el (λe4 e5=>?_) (λe4 e6=>?_)
           ·refine C 1 rfl (Da (pp:=rI) [iV 0] [0] rfl rfl rfl underlying22 Ay Bx (by decide) rfl rfl rfl ⟨rfl,trivial⟩ cm λhA hB e7 e8=>?_);refine Bd 0 e7 e8 rfl λhC cA e9 fa=>?_;obtain⟨hD,fb,fc⟩:=bs e5;refine BH (I8 (dx.Ag (((((((((((bb.Ad bd).Ad a0).Ad a1).Ad a2).Ad a3).Ad a4).Ad a5).Ad a9).Ad be).Ad bw).Ad cA)) e9 fb) rfl rfl IN fa λhE fe ff=>AQ (S':= [[],[]]) rfl ff λfg=>C 1 rfl ?_;obtain rfl:=oi fc;exact cp (cA.Ad fe) fg rfl
           ·refine C 4 rfl ?_;obtain rfl:=oi e6;exact cp AA cm rfl
         ·refine Ci 81 ei (λfh fj=>?_) (λfh fk=>?_)
          ·obtain⟨hF,fl,fm⟩:=bs fj;refine C 1 rfl (A2 (bf fl) rfl rfl Jf ci ?_);rintro _ hG _ cB ⟨hH,hI,rfl,rfl,fo⟩ fp;obtain⟨hJ,fq,fs⟩:=bs fm;refine BH (K5 (db.Ag ((((((((((((((bi.Ad bn).Ad bo).Ad bv).Ad bb).Ad bd).Ad a0).Ad a1).Ad a2).Ad a3).Ad a4).Ad a5).Ad a9).Ad be).Ad cB)) fo fq) rfl rfl KB fp λhK fu fv=>C 1 rfl ?_;obtain rfl:=oi fs;exact cn (cB.Ad fu) fv rfl
          ·refine C 4 rfl ?_;obtain rfl:=oi fk;exact cn AA ci rfl
        ·refine Ci 76 ef (λfw fx=>?_) (λfw fy=>?_)
         ·refine C 1 rfl (Da (pp:=rI) [iV 1,iV 2,iV 3] [1,2,3] rfl rfl rfl underlying22 Ay Bx (by decide) rfl rfl rfl ⟨rfl,rfl,rfl,trivial⟩ cf λhL hM fz fA=>?_);refine Bd 0 fz fA rfl λhN cC fB fC=>?_;obtain⟨hO,fD,fE⟩:=bs fx;refine BH (I8 (c2.Ag (((((((((((((((bx.Ad bz).Ad bi).Ad bn).Ad bo).Ad bv).Ad bb).Ad bd).Ad a0).Ad a1).Ad a2).Ad a3).Ad a4).Ad a5).Ad a9).Ad cC)) fB fD) rfl rfl IN fC λhP fF fG=>AQ (S':= [[],[]]) rfl fG λfH=>C 1 rfl ?_;obtain rfl:=oi fE;exact ck (cC.Ad fF) fH rfl
         ·refine C 4 rfl ?_;obtain rfl:=oi fy;exact ck AA cf rfl
       ·refine Ci 71 ec (λfI fJ=>?_) (λfI fK=>?_)
        ·refine C 1 rfl (Da (pp:=rI) [iV (-6),iV 1,iV 3,iV 2] [(-6),1,3,2] rfl rfl rfl underlying22 Ay Bx (by decide) rfl rfl rfl ⟨rfl,rfl,rfl,rfl,trivial⟩ cd λhQ hR fL fM=>?_);refine Bd 0 fL fM rfl λhS cD fN fO=>?_;obtain⟨hT,fP,fQ⟩:=bs fJ;refine BH (I8 (cQ.Ag ((((((((((((((((b0.Ad b1).Ad bx).Ad bz).Ad bi).Ad bn).Ad bo).Ad bv).Ad bb).Ad bd).Ad a0).Ad a1).Ad a2).Ad a3).Ad a4).Ad a5).Ad cD)) fN fP) rfl rfl IN fO λhU fR fS=>AQ (S':= [[],[]]) rfl fS λfT=>C 1 rfl ?_;obtain rfl:=oi fQ;exact cg (cD.Ad fR) fT rfl
        ·refine C 4 rfl ?_;obtain rfl:=oi fK;exact cg AA cd rfl
      ·refine Ci 67 dZ (λfU fW=>?_) (λfU fX=>?_)
       ·refine C 3 rfl ?_;obtain rfl:=oi fW;exact ce AA cb rfl
       ·refine C 3 rfl ?_;obtain rfl:=oi fX;exact ce AA cb rfl
     ·refine Ci 63 dW (λfY fZ=>?_) (λfY ga=>?_)
      ·refine C 3 rfl ?_;obtain rfl:=oi fZ;exact cc AA b9 rfl
      ·refine C 3 rfl ?_;obtain rfl:=oi ga;exact cc AA b9 rfl
    ·refine Ci 59 dT (λgb gc=>?_) (λgb gd=>?_)
     ·refine C 3 rfl ?_;obtain rfl:=oi gc;exact ca AA b7 rfl
     ·refine C 3 rfl ?_;obtain rfl:=oi gd;exact ca AA b7 rfl
   ·refine Ci 55 dQ (λge gf=>?_) (λge gg=>?_)
    ·refine C 3 rfl ?_;obtain rfl:=oi gf;exact b8 AA b5 rfl
    ·refine C 3 rfl ?_;obtain rfl:=oi gg;exact b8 AA b5 rfl
  ·refine Ci 51 dN (λgh gi=>?_) (λgh gj=>?_)
   ·refine C 3 rfl ?_;obtain rfl:=oi gi;exact b6 AA b3 rfl
   ·refine C 3 rfl ?_;obtain rfl:=oi gj;exact b6 AA b3 rfl
 ·refine G1 47 dK (λgk gl=>?_) (λgk gm=>?_)
  ·refine C 3 rfl ?_;obtain rfl:=oi gl;exact b4 AA b2 rfl
  ·refine C 3 rfl ?_;obtain rfl:=oi gm;exact b4 AA b2 rfl
def f92(fu_:Nat)(p0:Int)(p1:Int)(p2:Int):Option Bool:= Option.bind (if p1<=p0 then(some (decide (p0<=p2))) else(some false)) λK=> some K
def f88(fu_:Nat)(p0:Int)(p1:Int×Int×Int)(p2:Int):Option Int:= (Av (p0 - 1)).bind λK=> (f92 fu_ p1.1 0 K).bind λO=> Option.bind (if(!O)=true then(some true) else((Av (p0 - 1)).bind λU=> (f92 fu_ p1.2.1 0 U).bind λV=> some (!V))) λY=> if Y=true then(some 3) else(if p1.1=p1.2.1 then(some 8) else((f92 fu_ p1.2.2 1 p2).bind λZ=> if(!Z)=true then(some 1) else(some 0)))
def LY(fu_:Nat)(p0:AT)(O:Int)(K:Int):Option (Bq Int ((Int)⊕(Unit))):= (ix p0.1 O).bind λU=> if K<(U.length:Int) then((ix p0.1 O).bind λV=> (ix V K).bind λY=> (f92 fu_ Y 1 9).bind λZ=> if(!Z)=true then(some (.done (Sum.inl 1))) else((Av (K+1)).bind λac=> some (.more ac))) else(some (.done (Sum.inr ())))
def LS(fu_:Nat)(p0:AT)(K:Int):Option (Bq Int ((Int)⊕(Unit))):= if K<(p0.1.length:Int) then((ix p0.1 K).bind λO=> if 3<(O.length:Int) then(some (.done (Sum.inl 6))) else(Option.bind (iter (LY fu_ p0 K) fu_ 0) λU=> Sum.elim (λr=>some (.done (Sum.inl r))) (λY=> (Av (K+1)).bind λV=> some (.more V)) U)) else(some (.done (Sum.inr ())))
def Pm(fu_:Nat)(p0:AT)(K:Int):Option (Bq Int ((Int)⊕(Unit))):= if K<(p0.2.length:Int) then((ix p0.2 K).bind λU=> (f88 fu_ (p0.1.length:Int) U 9).bind λO=> if O≠0 then(some (.done (Sum.inl O))) else((Av (K+1)).bind λV=> some (.more V))) else(some (.done (Sum.inr ())))
def f48(fu_:Nat)(p0:AT):Option Int:= if(p0.1.length:Int)<2 then(some 7) else(if 5<(p0.1.length:Int) then(some 6) else(Option.bind (iter (LS fu_ p0) fu_ 0) λK=> Sum.elim (λr=>some r) (λU=> if 8<(p0.2.length:Int) then(some 6) else(Option.bind (iter (Pm fu_ p0) fu_ 0) λO=> Sum.elim (λr=>some r) (λV=> some 0) O)) K))
def S9(fu_:Nat)(p0:Bc)(p1:Bc)(K:Int):Option (Bq Int ((Bool)⊕(Unit))):= Option.bind (if K<(p0.length:Int) then(some (decide (K<(p1.length:Int)))) else(some false)) λO=> if O=true then((ix p0 K).bind λU=> (ix p1 K).bind λV=> (f29 fu_ U V).bind λY=> if(!Y)=true then(some (.done (Sum.inl false))) else((Av (K+1)).bind λZ=> some (.more Z))) else(some (.done (Sum.inr ())))
def f80(fu_:Nat)(p0:Bc)(p1:Bc):Option Bool:= Option.bind (iter (S9 fu_ p0 p1) fu_ 0) λK=> Sum.elim (λr=>some r) (λO=> some (decide ((p0.length:Int)=(p1.length:Int)))) K
theorem ba{a1:Ao}{c2:Nat}{O:Ao}{U:Nat}{p0:Bc}{p1:Bc}(a8:Al (rL rI) E a1 c2 p0)(a9:Al (rL rI) E O U p1){fu_:Nat}{r:Bool}(am:f80 fu_ p0 p1=some r):AM J 73 [sV a1 p0 c2,sV O p1 U] E [] (λw E' B'=>w= .bool r/\B'= []):=by
 refine Be func73 λQ cq cs H bb ap=>?_;unfold f80 at am;obtain⟨aq,bd,aw⟩:=bs am;refine C 9 rfl (Bu (λL s=>∃(ay:Unit) (az:LH),aq=Sum.inr ay/\Jm E H az [] [(0,sV a1 p0 c2),(1,sV O p1 U)] L s) ?_ ?_)
 ·rintro _ _ ⟨ay,az,rfl,rfl,rfl,be,bi⟩;have bn:=elim_inr aw;refine C 3 rfl (JL.ln underlying25 rfl rfl rfl ?_);refine C 1 rfl (JL.ln underlying25 rfl rfl rfl ?_);refine C 3 rfl ?_;obtain rfl:=oi bn;exact AS func73 rfl rfl (ap be rfl ⟨rfl,rfl⟩ bi)
 ·intro bo;refine JL.block (Dx bd (λZ=> []) (λZ=> [(0,sV a1 p0 c2),(1,sV O p1 U),(5,iV Z)]) AA bb ?_);rintro Z ag V a0 a2 ⟨cr,ac⟩ bv;have a3:=ac;unfold S9 at a3;refine C 5 rfl (JL.ln underlying25 rfl rfl rfl ?_);obtain⟨bw,bx,bz⟩:=bs a3;refine C 2 rfl (Fx [] (λL s=>∃(al:LH),Jm ag H al [] [(0,sV a1 p0 c2),(1,sV O p1 U),(5,iV Z),(15,.bool bw)] L s) ?_ ?_)
  ·rintro _ _ ⟨al,rfl,rfl,Y,a4⟩;refine JL.done (Cd bz (λbY bZ=>?_) (λbY b0=>?_))
   ·refine C 4 rfl (DK 8 λK=>?_);refine A3 K rfl [0,1] rfl ?_;obtain⟨ct,b1,b2⟩:=bs bZ;refine EK 2 (a8.Ag (V.Ad Y)) b1 K underlying25 De ?_;rintro cu cv _ ⟨cw,cy,rfl,b3⟩ b4;refine CK 3 K 0 b4 It rfl rfl rfl rfl (A3 K rfl [4,5] rfl ?_);obtain⟨cz,b5,b6⟩:=bs b2;refine EK 6 (a9.Ag (V.Ad Y)) b5 K underlying25 De ?_;rintro cA cB _ ⟨cC,cD,rfl,b7⟩ b8;refine CK 7 K 0 b8 It rfl rfl rfl rfl (Cz [8,9] ?_);obtain⟨b9,ca,cb⟩:=bs b6;refine BH (I8 b3 b7 ca) rfl rfl IN a4 λcE a5 a6=>Am (v:= .bool (!b9)) rfl (λρ h=>Yl.not (h _ _ rfl)) (JL.done ?_);refine Cd cb (λcc cd=>?_) (λcc ce=>?_)
    ·refine C 4 rfl ?_;obtain rfl:=oi cd;obtain rfl:=a2 _ ac;have cf:=elim_inl aw;obtain rfl:=oi cf;exact AS func73 rfl rfl (ap ((V.Ad Y).Ad a5) rfl ⟨rfl,rfl⟩ a6)
    ·obtain⟨cg,ci,ck⟩:=bs ce;refine C 4 rfl (Bn ci rfl rfl rfl ?_);refine C 2 rfl ?_;obtain rfl:=oi ck;exact bv cg ((V.Ad Y).Ad a5) a6 rfl ac
   ·refine JL.exit rfl ?_;obtain rfl:=oi b0;have cm:aq=(Sum.inr ()):=(a2 _ ac).symm;exact Az (bo _ _ ⟨(),al,cm,rfl,rfl,(V.Ad Y),a4⟩) rfl
  ·intro a7;refine G1 10 bx (λcn co=>?_) (λcn cp=>?_)
   ·refine C 2 rfl (JL.ln underlying25 rfl rfl rfl ?_);refine C 2 rfl ?_;obtain rfl:=oi co;exact Az (a7 _ _ ⟨ag,rfl,rfl,AA,a0⟩) rfl
   ·refine C 5 rfl ?_;obtain rfl:=oi cp;exact Az (a7 _ _ ⟨ag,rfl,rfl,AA,a0⟩) rfl
def f30(fu_:Nat)(p0:AT)(p1:AT):Option Bool:= (f80 fu_ p0.1 p1.1).bind λK=> Option.bind (if K=true then((f26 fu_ p0.2 p1.2).bind λO=> some O) else(some false)) λU=> some U
theorem TX{a1:Ao}{c2:Nat}{V:Ao}{Y:Nat}{Z:Ao}{ac:Nat}{ag:Ao}{al:Nat}{p0:AT}{p1:AT}(az:Al (rL rI) E a1 c2 p0.1)(a0:Al Au E V Y p0.2)(a2:Al (rL rI) E Z ac p1.1)(a3:Al Au E ag al p1.2){fu_:Nat}{r:Bool}(am:f30 fu_ p0 p1=some r):AM J 33 [.agg #[sV a1 p0.1 c2,sV V p0.2 Y],.agg #[sV Z p1.1 ac,sV ag p1.2 al]] E [] (λw E' B'=>w= .bool r/\B'= []):=by
 refine Be func33 λQ b1 cs H a4 a5=>?_;unfold f30 at am;refine C 2 rfl (CC a4 λb2 b3 O ap a6=>?_);refine CC a6 λb4 b5 K aq a7=>?_;refine C 4 rfl (BQ 0 (ap.Ag K) underlying28 Cc CJ ?_);refine BQ 0 aq underlying28 Cc CJ ?_;obtain⟨b6,a8,a9⟩:=bs am;refine BH (ba (az.Ag (O.Ad K)) (a2.Ag (O.Ad K)) a8) rfl rfl (A1 func73 rfl) a7 λb7 U bb=>AQ (S':= [[],[],[],[]]) rfl bb λaw=>?_;obtain⟨bd,be,bi⟩:=bs a9;refine C 1 rfl (CP 12 1 [] [(16,.bool bd)] (λb8 bn bo=>?_) (λay=>?_))
 ·refine C 2 rfl ?_;obtain rfl:=oi bi;exact AS func33 rfl rfl (a5 (((O.Ad K).Ad U).Ad bn) rfl ⟨rfl,rfl⟩ bo)
 ·refine Ci 10 be (λbv bw=>?_) (λbv bx=>?_)
  ·refine BQ 1 (ap.Ag (K.Ad U)) underlying28 EX Gv ?_;refine BQ 1 (aq.Ag U) underlying28 EX Gv ?_;obtain⟨b9,bz,bY⟩:=bs bw;refine BH (K5 (a0.Ag ((O.Ad K).Ad U)) (a3.Ag ((O.Ad K).Ad U)) bz) rfl rfl KB aw λca bZ b0=>C 1 rfl ?_;obtain rfl:=oi bY;exact ay bZ b0 rfl
  ·refine C 6 rfl ?_;obtain rfl:=oi bx;exact ay AA aw rfl
end Pal
namespace Pal
open Go Go.Conc
variable {P:Program}{J:Judge P}{Q:Gs_}{b:Frame}{ds:Ld_}{ops:Ao_}{k:Li_}{cs:Lf_}{fuel:Nat}{D:Nat->Bool}{listed:Array Bool}{L:Env}{s:St}{E E' H:LH}{S:List Seg}
variable {x:Operand}{t u ty:TypeId}{p:String}{af:Ae_}{g:On_}{v:Value}{i:Nat}{kd:IntKind}
section
variable {n:Nat}{m:Nat}
variable {d:Option Tmp}{y:Operand}{e:TypeId}
end
open Go.Proofs Go.Proofs.Tryz
variable {J:Judge Tryz.prog}
variable {J:Judge Tryz.prog}
def Tl(fu_:Nat)(p0:AT)(K:Bc×Int):Option (Bq (Bc×Int) (Bc)):= if K.2<(p0.1.length:Int) then((ix p0.1 K.2).bind λO=> (f87 fu_ O).bind λU=> (Dw K.1 ([U]:Bc)).bind λV=> (Av (K.2+1)).bind λY=> some (.more (V,Y))) else(some (.done K.1))
def f41(fu_:Nat)(p0:AT)(p1:Int×Int×Int):Option (AT×Int):= (f47 fu_ p0).bind λK=> if K≠0 then(some (([],[]),K)) else(if(p0.2.length:Int)=8 then(some (([],[]),6)) else((f86 fu_ p1 (p0.1.length:Int) 9).bind λO=> if O≠0 then(some (([],[]),O)) else(Option.bind (iter (Tl fu_ p0) fu_ ([],0)) λU=> (Dw p0.2 ([p1]:Aw)).bind λV=> some ((U,V),0))))
theorem TW{a1:Ao}{c2:Nat}{bv:Ao}{b2:Nat}{p0:AT}{p1:Int×Int×Int}(b3:Al (rL rI) E a1 c2 p0.1)(a9:Al Au E bv b2 p0.2){fu_:Nat}{r:AT×Int}(b4:f41 fu_ p0 p1=some r):AM J 51 [.agg #[sV a1 p0.1 c2,sV bv p0.2 b2],.agg #[iV p1.1,iV p1.2.1,iV p1.2.2]] E [] (λw E' B'=>∃(b5:Ao) (b6:Nat) (b7:Ao) (b8:Nat),w= .tuple #[.agg #[sV b5 r.1.1 b6,sV b7 r.1.2 b8],iV r.2]/\B'= []/\Al (rL rI) E' b5 b6 r.1.1/\Al Au E' b7 b8 r.1.2):=by
 refine Be func51 λQ eV cs H cW bb=>?_;unfold f41 at b4;refine C 2 rfl (CC cW λb9 eW ac az cX=>?_);refine CC cX λca eX K cb cY=>?_;refine Bz cY Fg λU cZ=>?_;refine AQ (S':= [[],[],[],[(U,.cells #[nS,nS] 28 (0,0))]]) rfl cZ λc0=>C 5 rfl (BT (az.Ag K) Dk BP rfl rfl ?_);obtain⟨cc,c1,c3⟩:=bs b4;refine BH (JE (b3.Ag (ac.Ad K)) (a9.Ag (ac.Ad K)) c1) rfl rfl Jg c0 λeY O bw=>C 7 rfl (AU c3 (λc4 c5=>?_) (λc4 c6=>?_))
 ·refine C 2 rfl (Am (v:= .agg #[nS,nS]) rfl (λρ h=>Ch [(0,1),(1,1)] h Fg underlying28 ⟨rfl,AJ type25,rfl,AJ type26,trivial⟩ rfl rfl) ?_);refine C 1 rfl (Bv 3 bw BP λcd=>?_);refine C 2 rfl ?_;obtain rfl:=oi c5;refine JL.ret (v:= .tuple #[.agg #[nS,nS],iV cc]) rfl rfl (BB.list func51 rfl (vs:= [.agg #[nS,nS],iV cc]) ⟨⟨_,rfl,Ld.many (vs:= [nS,nS]) Dk BP (EY (off:=0) 3 cd rfl rfl)⟩,rfl,trivial⟩) (DF 3 cd rfl λc7=>?_);exact bb ((ac.Ad K).Ad O) rfl ⟨none,0,none,0,rfl,rfl,Al.nil,Al.nil⟩ c7
 ·refine C 4 rfl (BQ 1 (az.Ag (K.Ad O)) underlying28 EX Gv ?_);refine JL.ln underlying26 rfl rfl rfl (C 2 rfl ?_);refine AU c6 (λc8 c9=>?_) (λc8 da=>?_)
  ·refine C 2 rfl (Am (v:= .agg #[nS,nS]) rfl (λρ h=>Ch [(0,1),(1,1)] h Fg underlying28 ⟨rfl,AJ type25,rfl,AJ type26,trivial⟩ rfl rfl) ?_);refine Bv 3 bw BP λce=>?_;refine C 2 rfl ?_;obtain rfl:=oi c9;refine JL.ret (v:= .tuple #[.agg #[nS,nS],iV 6]) rfl rfl (BB.list func51 rfl (vs:= [.agg #[nS,nS],iV 6]) ⟨⟨_,rfl,Ld.many (vs:= [nS,nS]) Dk BP (EY (off:=0) 3 ce rfl rfl)⟩,rfl,trivial⟩) (DF 3 ce rfl λdb=>?_);exact bb ((ac.Ad K).Ad O) rfl ⟨none,0,none,0,rfl,rfl,Al.nil,Al.nil⟩ db
  ·refine C 4 rfl (BT (cb.Ag O) Ds Bi rfl rfl ?_);refine BQ 0 (az.Ag (K.Ad O)) underlying28 Cc CJ ?_;refine JL.ln underlying25 rfl rfl rfl ?_;obtain⟨cf,dc,dd⟩:=bs da;refine BH (PI dc) rfl rfl N4 bw λbx Z cg=>C 7 rfl (AU dd (λde df=>?_) (λde dg=>?_))
   ·refine C 2 rfl (Am (v:= .agg #[nS,nS]) rfl (λρ h=>Ch [(0,1),(1,1)] h Fg underlying28 ⟨rfl,AJ type25,rfl,AJ type26,trivial⟩ rfl rfl) ?_);refine C 1 rfl (Bv 3 cg BP λdh=>?_);refine AQ (S':= [[],[],[],[(U,.cells #[nS,nS] 28 (0,0))],[],[]]) rfl dh λci=>C 2 rfl ?_;obtain rfl:=oi df;refine JL.ret (v:= .tuple #[.agg #[nS,nS],iV cf]) rfl rfl (BB.list func51 rfl (vs:= [.agg #[nS,nS],iV cf]) ⟨⟨_,rfl,Ld.many (vs:= [nS,nS]) Dk BP (EY (off:=0) 3 ci rfl rfl)⟩,rfl,trivial⟩) (DF 3 ci rfl λdi=>?_);exact bb (((ac.Ad K).Ad O).Ad Z) rfl ⟨none,0,none,0,rfl,rfl,Al.nil,Al.nil⟩ di
   ·refine C 3 rfl (Bz cg Fg λV dj=>?_);refine AQ (S':= [[],[],[],[(U,.cells #[nS,nS] 28 (0,0))],[],[],[(V,.cells #[nS,nS] 28 (0,0))]]) rfl dj λdk=>C 4 rfl (BQ 0 (az.Ag ((K.Ad O).Ad Z)) underlying28 Cc CJ ?_);refine JL.ln underlying25 rfl rfl rfl ?_;obtain⟨aw,dm,dn⟩:=bs dg;refine C 2 rfl (Bu (λL s=>∃(bz:LH) (ag:Ao) (al:Nat) (a5:Seg),Jn bx H bz [bX U #[nS,nS] 28,bX V #[sV ag aw al,nS] 28,a5] [(2,Ak b9 0),(3,Ak ca 0),(4,Ak U 0),(8,Ak V 0)] L s (OL 22 (rL rI) bz ag al a5 aw)) ?_ ?_)
    ·rintro _ _ ⟨bz,ag,al,a5,rfl,rfl,ay,dp,dq⟩;refine JL.seq (DK 11 λY=>?_);refine JG.fd 0 Y underlying28 EX rfl rfl rfl rfl (CK 1 Y 1 (az.Ag (((K.Ad O).Ad Z).Ad ay)) Gv rfl rfl rfl rfl ?_);refine JG.fd 2 Y underlying28 EX rfl rfl rfl rfl (CK 3 Y 1 (az.Ag (((K.Ad O).Ad Z).Ad ay)) Gv rfl rfl rfl rfl ?_);refine AN 4 Y rfl rfl (λρ h s' ck=>Yl.len rfl underlying26 (h _ _ rfl)) (JG.fd 5 Y underlying28 EX rfl rfl rfl rfl ?_);refine CK 6 Y 1 (az.Ag (((K.Ad O).Ad Z).Ad ay)) Gv rfl rfl rfl rfl (AN 7 Y rfl rfl (λρ h s' ck=>Yl.len rfl underlying26 (h _ _ rfl)) ?_);refine AN (v:= .slice bv p0.2.length p0.2.length) 8 Y rfl rfl (λρ h s' ck=>ME (Al.spot (a9.Ag ((((ac.Ad K).Ad O).Ad Z).Ad ay))) (And.left (a9.Ag ((((ac.Ad K).Ad O).Ad Z).Ad ay))) underlying26 Bi (h _ _ rfl) (h _ _ rfl) (h _ _ rfl)) (H9 9 Y (cb.Ag ((O.Ad Z).Ad ay)) Ds Bi rfl rfl rfl ?_);refine JG.one (i:=10) rfl (by decide+kernel) (Take.Co (pp:=Au) [.agg #[iV p1.1,iV p1.2.1,iV p1.2.2]] ([p1]:Aw) dp rfl rfl rfl underlying26 Bi BM (by decide) rfl rfl rfl ⟨⟨_,_,rfl,rfl,⟨_,_,rfl,rfl,rfl⟩⟩,trivial⟩ λeZ dr dt du=>?_);refine Cz [11,12,13] (AQ (S':= [[(U,.cells #[nS,nS] 28 (0,0))],[(V,.cells #[sV ag aw al,nS] 28 (0,0))],a5,dr]) rfl du λdv=>?_);refine Bd 3 dt dv rfl λe0 bY dw dx=>?_;obtain⟨a6,dy,dz⟩:=bs dn;refine QG (pp:=Au) dy rfl rfl rfl rfl rfl rfl rfl underlying26 underlying26 Bi (Dt type42) BM rfl (by decide) (by decide) (a9.Ag (((((ac.Ad K).Ad O).Ad Z).Ad ay).Ad bY)) dw dx λe1 a2 a3 cm dA dB=>JL.fd underlying28 EX rfl rfl rfl (Bv 1 dB EX λdC=>?_);refine AQ (S':= [[(U,.cells #[nS,nS] 28 (0,0))],[(V,.cells #[sV ag aw al,sV a2 a6 a3] 28 (0,0))],a5,[],[]]) rfl dC λcn=>C 3 rfl (Am rfl (λρ h=>GV (vs:= [sV ag aw al,sV a2 a6 a3]) Dk BP (h _ _ rfl) (EY (off:=0) 1 cn rfl rfl)) ?_);refine Bv 0 cn BP λdD=>?_;refine C 2 rfl (Bd 2 (dq.Ag (bY.Ad cm)) dD rfl λe3 co dE dF=>?_);refine JS.drop 1 dF rfl λcp=>?_;obtain rfl:=oi dz;refine JL.ret (v:= .tuple #[.agg #[sV ag aw al,sV a2 a6 a3],iV 0]) rfl rfl (BB.list func51 rfl (vs:= [.agg #[sV ag aw al,sV a2 a6 a3],iV 0]) ⟨⟨_,rfl,Ld.many (vs:= [sV ag aw al,sV a2 a6 a3]) Dk BP (EY (off:=0) 0 cp rfl rfl)⟩,rfl,trivial⟩) (DF 0 cp rfl λdG=>?_);exact bb (((((((ac.Ad K).Ad O).Ad Z).Ad ay).Ad bY).Ad cm).Ad co) rfl ⟨ag,al,a2,a3,rfl,rfl,dE,(dA.Ag co)⟩ dG
    ·intro dH;refine JL.block (CZ dm (λL s am=>∃(bd:LH) (ap:Ao) (aq:Nat) (a0:Seg),Jn bx H bd [bX U #[nS,nS] 28,bX V #[sV ap am.1 aq,nS] 28,a0] [(2,Ak b9 0),(3,Ak ca 0),(4,Ak U 0),(8,Ak V 0),(32,sV a1 p0.1 c2),(33,iV (p0.1.length:Int)),(34,iV am.2)] L s (OL 22 (rL rI) bd ap aq a0 am.1)) ⟨bx,none,0,[],rfl,rfl,AA,dk,OL.nil⟩ ?_);rintro _ _ am ⟨bd,ap,aq,a0,rfl,rfl,a7,be,bi⟩ dI ⟨e4,a8⟩ bZ;have cq:=a8;unfold Tl at cq;refine C 5 rfl (AU cq (λdJ dK=>?_) (λdJ dL=>?_))
     ·obtain⟨cr,dM,dN⟩:=bs dK;refine C 5 rfl (Dp (b3.Ag ((((ac.Ad K).Ad O).Ad Z).Ad a7)) dM underlying25 De ?_);rintro e5 e6 _ ⟨ct,cu,rfl,cv⟩ dO;refine CG 0 dO It rfl rfl rfl (C 2 rfl ?_);refine DK 5 λY=>JG.fd 0 Y underlying28 Cc rfl rfl rfl rfl (BR 2 Y rfl rfl ?_);obtain⟨a4,cw,b0⟩:=bs dN;refine DJ (i:=1) (j:=3) rfl (by decide+kernel) ?_ ?_
      ·refine Take.y0 (v:= sV ap am.1 aq) rfl rfl rfl (λρ h=>Yl.load CJ (h _ _ rfl) (BC (j:=1) be rfl rfl)) (JG.one (i:=3) rfl (by decide+kernel) ?_);refine Take.DU (vs:= [sV ct cr cu]) be (PX cv cw) rfl rfl rfl N5 rfl ?_;rintro _ e7 e8 cy ⟨dP,dQ,_,rfl,rfl,dR⟩ dS;refine Cs 3 dR dS rfl λe9 cz dT dU=>JG.one (i:=4) rfl (by decide+kernel) (Take.Co (pp:=(rL rI)) [sV dP a4 dQ] ([a4]:Bc) dU rfl rfl rfl underlying25 De HT (by decide) rfl rfl rfl ⟨⟨_,_,rfl,dT⟩,trivial⟩ λfa dV dW dX=>?_);refine Cz [5,6,7] (AQ (S':= [[(U,.cells #[nS,nS] 28 (0,0))],[(V,.cells #[sV ap am.1 aq,nS] 28 (0,0))],a0,[],dV]) rfl dX λdY=>?_);refine Bd 4 dW dY rfl λdZ cA ea eb=>?_;obtain⟨cB,ec,ed⟩:=bs b0;refine Hs (pp:=(rL rI)) 2 ec rfl rfl rfl rfl rfl rfl rfl underlying25 underlying25 De (Dt type22) HT rfl (by decide) (by decide) (bi.Ag ((cy.Ad cz).Ad cA)) ea eb rfl λcC cD cE ee ef=>JL.fd underlying28 Cc rfl rfl rfl (Bv 1 ef Cc λeg=>?_);refine AQ (S':= [[(U,.cells #[nS,nS] 28 (0,0))],[(V,.cells #[sV cC cB cD,nS] 28 (0,0))],cE,[],[]]) rfl eg λeh=>?_;obtain⟨ei,ej,ek⟩:=bs ed;refine C 3 rfl (Bn ej rfl rfl rfl ?_);refine C 2 rfl ?_;obtain rfl:=oi ek;exact Az (bZ _ _ (cB,ei) ⟨dZ,cC,cD,cE,rfl,rfl,(((a7.Ad cy).Ad cz).Ad cA),eh,ee⟩ a8) rfl
      ·refine Take.DU (vs:= [sV ct cr cu]) be (PX cv cw) rfl rfl rfl N5 rfl ?_;rintro _ fb fc bn ⟨cF,cG,_,rfl,rfl,el⟩ em;refine Cs 3 el em rfl λfe bo cH b1=>DJ (i:=1) (j:=4) rfl (by decide+kernel) ?_ ?_
       ·refine Take.y0 (v:= sV ap am.1 aq) rfl rfl rfl (λρ h=>Yl.load CJ (h _ _ rfl) (BC (j:=1) b1 rfl rfl)) (JG.one (i:=4) rfl (by decide+kernel) ?_);refine Take.Co (pp:=(rL rI)) [sV cF a4 cG] ([a4]:Bc) b1 rfl rfl rfl underlying25 De HT (by decide) rfl rfl rfl ⟨⟨_,_,rfl,cH⟩,trivial⟩ λff en eo ep=>Cz [5,6,7] (AQ (S':= [[(U,.cells #[nS,nS] 28 (0,0))],[(V,.cells #[sV ap am.1 aq,nS] 28 (0,0))],a0,[],en]) rfl ep λer=>?_);refine Bd 4 eo er rfl λet cI eu ew=>?_;obtain⟨cJ,ex,ey⟩:=bs b0;refine Hs (pp:=(rL rI)) 2 ex rfl rfl rfl rfl rfl rfl rfl underlying25 underlying25 De (Dt type22) HT rfl (by decide) (by decide) (bi.Ag ((bn.Ad bo).Ad cI)) eu ew rfl λcK cM cN ez eA=>JL.fd underlying28 Cc rfl rfl rfl (Bv 1 eA Cc λeB=>?_);refine AQ (S':= [[(U,.cells #[nS,nS] 28 (0,0))],[(V,.cells #[sV cK cJ cM,nS] 28 (0,0))],cN,[],[]]) rfl eB λeC=>?_;obtain⟨eD,eE,eF⟩:=bs ey;refine C 3 rfl (Bn eE rfl rfl rfl ?_);refine C 2 rfl ?_;obtain rfl:=oi eF;exact Az (bZ _ _ (cJ,eD) ⟨et,cK,cM,cN,rfl,rfl,(((a7.Ad bn).Ad bo).Ad cI),eC,ez⟩ a8) rfl
       ·refine Take.Co (pp:=(rL rI)) [sV cF a4 cG] ([a4]:Bc) b1 rfl rfl rfl underlying25 De HT (by decide) rfl rfl rfl ⟨⟨_,_,rfl,cH⟩,trivial⟩ λfg eG eH cO=>JG.one (i:=1) rfl (by decide+kernel) (Take.y0 (v:= sV ap am.1 aq) rfl rfl rfl (λρ h=>Yl.load CJ (h _ _ rfl) (BC (j:=1) cO rfl rfl)) ?_);refine Cz [5,6,7] (AQ (S':= [[(U,.cells #[nS,nS] 28 (0,0))],[(V,.cells #[sV ap am.1 aq,nS] 28 (0,0))],a0,[],eG]) rfl cO λeI=>?_);refine Bd 4 eH eI rfl λeJ cP eK eL=>?_;obtain⟨cQ,eM,eN⟩:=bs b0;refine Hs (pp:=(rL rI)) 2 eM rfl rfl rfl rfl rfl rfl rfl underlying25 underlying25 De (Dt type22) HT rfl (by decide) (by decide) (bi.Ag ((bn.Ad bo).Ad cP)) eK eL rfl λcR cT cV eO eP=>JL.fd underlying28 Cc rfl rfl rfl (Bv 1 eP Cc λeQ=>?_);refine AQ (S':= [[(U,.cells #[nS,nS] 28 (0,0))],[(V,.cells #[sV cR cQ cT,nS] 28 (0,0))],cV,[],[]]) rfl eQ λeR=>?_;obtain⟨eS,eT,eU⟩:=bs eN;refine C 3 rfl (Bn eT rfl rfl rfl ?_);refine C 2 rfl ?_;obtain rfl:=oi eU;exact Az (bZ _ _ (cQ,eS) ⟨eJ,cR,cT,cV,rfl,rfl,(((a7.Ad bn).Ad bo).Ad cP),eR,eO⟩ a8) rfl
     ·refine JL.exit rfl ?_;obtain rfl:=oi dL;obtain rfl:=dI _ a8;exact Az (dH _ _ ⟨bd,ap,aq,a0,rfl,rfl,a7,be,bi⟩) rfl
variable {J:Judge Tryz.prog}
variable {J:Judge Tryz.prog}
end Pal
namespace Pal
open Go Go.Conc
def Lg(t:TypeId)(v:Value):Option Int->Prop
 | none=>v= .nilIface
 | some c=>v= .iface t (.agg #[iV c])
variable {P:Program}{s:St}{ρ:Operand->Value}{x:Operand}{t u ty:TypeId}{p:String}{af:Ae_}{g:On_}{v v':Value}
section
variable {y z:Operand}{d:Option Tmp}{e:TypeId}
theorem Vn{ms:Array (String×TypeId)}{K:TypeId}{o:Option Int}{n:Nat}(O:P.underlying t=some (.interface ms))(he:Lg K v o){Q:Bool->St->Prop}{X:Halt->St->Prop}(k:Q o.isNone s):lp P (Op.equalIn (n+1) t v .nilIface) s Q X:=by
 unfold Op.equalIn;refine Ar _ _ (Ce O ?_);cases o with
 | none=>obtain rfl:v= .nilIface:=he;exact k
 | some q=>obtain rfl:v= .iface K (.agg #[iV q]):=he;exact k
theorem Rf{ms:Array (String×TypeId)}{K:TypeId}{o:Option Int}(O:P.underlying t=some (.interface ms))(he:Lg K v o)(U:ρ x=v)(V:ρ (.const .nilIface)= .nilIface):Yl P ⟨d,.binOp .eql t x (.const .nilIface) u,ty,p,af,g⟩ ρ s (.bool o.isNone):=by
 refine EN (sm:=do eqGuard .eql t x (.const .nilIface) (ρ x) (ρ (.const .nilIface));binOp .eql t (ρ x) (ρ (.const .nilIface))) rfl ?_
 rw [U,V];have Y:lp P (eqGuard .eql t x (.const .nilIface) v .nilIface) s (λ_ s'=>s'=s) (λ_ _=>False):=by
  cases o with
  | none=>obtain rfl:v= .nilIface:=he;simp [eqGuard,lp,pure]
  | some q=>obtain rfl:v= .iface K (.agg #[iV q]):=he;simp [eqGuard,lp,pure]
 refine Ar _ _ (DO _ Y ?_ (λ_ _ h=>h));rintro _ _ rfl;have hb:binOp .eql t v .nilIface=(do pure (.bool (← Op.equal t v .nilIface))):=by
  cases o with
  | none=>obtain rfl:v= .nilIface:=he;rfl
  | some q=>obtain rfl:v= .iface K (.agg #[iV q]):=he;rfl
 rw [hb];refine Ar (x:=Op.equal t v .nilIface) _ ?_;unfold Op.equal Op.maxDepth;refine Vn O he ?_;refine⟨?_,rfl⟩
 rfl
end
end Pal
set_option autoImplicit false
open Go
namespace Pal
open Go Go.Conc Go.Proofs
variable {E:LH}
variable {J:Judge Tryz.prog}
def P6(fu_:Nat)(p0:Nat)(p1:Int)(p2:Int):Option (Nat):=
 (f106 fu_ p1 p2).bind λK=>
 (PR p0 K).bind λO=>
 some O
theorem YU{p0:Nat}{p1:Int}{p2:Int}{fu_:Nat}{r:Nat}(K:P6 fu_ p0 p1 p2=some r):AM J 91 [.int .u32 ((p0:Nat):Int),iV p1,iV p2] E [] (λw E' B'=>w= .int .u32 ((r:Nat):Int)/\B'= []):=by
 refine Be Tryz.func91 λQ ap cs H O U=>?_;unfold P6 at K;obtain⟨aq,V,Y⟩:=bs K;refine C 9 rfl (BH (Pe V) rfl rfl N6 O λaw Z ac=>?_);obtain⟨ag,al,am⟩:=bs Y;refine Am (v:= .int .u32 ((ag:Nat):Int)) rfl (λρ h=>Xk (h _ _ rfl) (h _ _ rfl) al) (C 2 rfl ?_);obtain rfl:=oi am;exact AS Tryz.func91 rfl rfl (U Z rfl ⟨rfl,rfl⟩ ac)
def Sv(fu_:Nat)(p0:AT)(p1:Aw)(K:(List Int)×Nat×Int):Option (Bq ((List Int)×Nat×Int) (((Option Int))⊕((List Int)))):=
 if K.2.2<((p1).length:Int) then(
  (ix p1 (K.2.2)).bind λO=>
  (f86 fu_ O ((p0.1).length:Int) 72).bind λU=>
  if U≠0 then(
   some (.done (Sum.inl (some (U))))
  ) else(
   (f136 fu_ K.2.1 O.1 O.2.1).bind λV=>
   if V=true then(
    some (.done (Sum.inl (some (4))))
   ) else(
    (P6 fu_ K.2.1 O.1 O.2.1).bind λY=>
    (f204 fu_ K.1 O).bind λZ=>
    (Av (K.2.2+1)).bind λac=>
    some (.more (Z,Y,ac))
   )
  )
 ) else(
  some (.done (Sum.inr K.1))
 )
def NL(fu_:Nat)(p0:AT)(p1:Aw):Option ((Option Int)):=
 if 8<((p1).length:Int) then(
  some (some (6))
 ) else(
  (f84 fu_ p0).bind λK=>
  Option.bind (iter (Sv fu_ p0 p1) fu_ (K,0,0)) λO=>
  Sum.elim (λr=>some r) (λU=>
  if U≠(List.replicate 5 (0:Int)) then(
   some (some (9))
  ) else(
   some none
  )
  ) O
 )
theorem S6{a1:Ao}{c2:Nat}{bY:Ao}{bZ:Nat}{bb:Ao}{bd:Nat}{p0:AT}{p1:Aw}(cc:Al (rL rI) E a1 c2 (p0.1))(cd:Al Au E bY bZ (p0.2))(ce:Al Au E bb bd (p1)){fu_:Nat}{r:(Option Int)}(b0:NL fu_ p0 p1=some r):AM J 59 [.agg #[.slice a1 (p0.1).length c2,.slice bY (p0.2).length bZ],.slice bb (p1).length bd] E [] (λw E' B'=>∃(b1:Value),w=b1/\B'= []/\Lg 128 b1 (r)):=by
 refine Be Tryz.func59 λQ dg cs H cf aw=>?_;unfold NL at b0;refine C 2 rfl (CC cf λcg dh U b2 b3=>?_);refine C 6 rfl (JL.ln Tryz.underlying26 rfl rfl rfl ?_);refine C 2 rfl (AU b0 (λci ck=>?_) (λci cm=>?_))
 ·refine C 2 rfl (Am (v:= .agg #[iV 6]) rfl (λρ h=>Ch [(0,1)] h KC Tryz.underlying128 ⟨rfl,AJ Tryz.type30,trivial⟩ rfl rfl) ?_);refine Am (v:= .iface 128 (.agg #[iV 6])) rfl (λρ h=>IT Tryz.underlying128 (λ_ h=>by cases h) (h _ _ rfl)) (C 2 rfl ?_);obtain rfl:=oi ck;exact AS Tryz.func59 rfl rfl (aw U rfl ⟨.iface 128 (.agg #[iV 6]),rfl,rfl,rfl⟩ b3)
 ·refine C 7 rfl (BT b2 Ew Cr rfl rfl ?_);obtain⟨di,cn,co⟩:=bs cm;refine A2 (Ma (cc.Ag U) (cd.Ag U) cn) rfl rfl Lo b3 ?_;rintro _ ay _ ag ⟨be,rfl,rfl,az⟩ cp;refine Bz cp Hm λa0 cq=>?_;refine FM (v:= .agg be.toArray) (l:= []) (ws:=(List.replicate 5 (iV 0):Lv_)) (us:=be) (o:=0) 3 rfl rfl rfl cq rfl rfl rfl (by rw [BG (kk:=5) (pp:=rI) az];exact AJ Tryz.type82) ((rA 5 rI).one az) rfl (by rw [BG (kk:=5) (pp:=rI) az,BG (kk:=5) (pp:=rI) (Ez (E:=ay) (pp:=rI) rfl)];omega) λb4=>?_;rw [Ho (by rw [BG (kk:=5) (pp:=rI) az,BG (kk:=5) (pp:=rI) (Ez (E:=ay) (pp:=rI) rfl)])] at b4 ⊢;refine C 5 rfl (JL.ln Tryz.underlying26 rfl rfl rfl ?_);obtain⟨b5,cr,bi⟩:=bs co;refine C 2 rfl (Bu (λL s=>∃(a2:(List Int)) (al:LH) (a3:Lv_),b5=Sum.inr a2/\Jn ay H al [[(a0,.cells (([]:Lv_)++a3).toArray 82 (0,0))]] [(6,.pointer (some ⟨a0,0,none⟩))] L s ((rA 5 rI).r al a3 (a2))) ?_ ?_)
  ·rintro _ _ ⟨a2,al,a3,rfl,rfl,rfl,b6,bn,b7⟩;have ct:=elim_inr bi;refine C 3 rfl (Am (v:= .agg a3.toArray) rfl (λρ h=>F0 (kk:=5) (pp:=rI) b7 Gd Gx (h _ _ rfl) (Gh (l:= []) 0 bn rfl)) ?_);refine Am (v:= .agg (List.replicate 5 (iV 0):Lv_).toArray) rfl (λρ h=>MS Tryz.underlying82 Hm Ay rfl) (Am (v:= .bool (decide (a2≠(List.replicate 5 (0:Int))))) rfl (λρ h=>OZ (E:=al) (E':=al) (ws:=a3) (ws':=(List.replicate 5 (iV 0):Lv_)) (a:=a2) (b:=(List.replicate 5 (0:Int))) O7 (by decide) (by decide+kernel) b7 (Ez (E:=al) (pp:=rI) rfl) (h _ _ rfl) (h _ _ rfl)) ?_);refine JL.done (AU ct (λcu cv=>?_) (λcu cw=>?_))
   ·refine C 2 rfl (Am (v:= .agg #[iV 9]) rfl (λρ h=>Ch [(0,1)] h KC Tryz.underlying128 ⟨rfl,AJ Tryz.type30,trivial⟩ rfl rfl) ?_);refine Am (v:= .iface 128 (.agg #[iV 9])) rfl (λρ h=>IT Tryz.underlying128 (λ_ h=>by cases h) (h _ _ rfl)) (C 2 rfl ?_);refine JS.drop 0 bn rfl λcy=>?_;obtain rfl:=oi cv;exact AS Tryz.func59 rfl rfl (aw ((U.trans ag).trans b6) rfl ⟨.iface 128 (.agg #[iV 9]),rfl,rfl,rfl⟩ cy)
   ·refine C 5 rfl (JS.drop 0 bn rfl λcz=>?_);obtain rfl:=oi cw;exact AS Tryz.func59 rfl rfl (aw ((U.trans ag).trans b6) rfl ⟨.nilIface,rfl,rfl,rfl⟩ cz)
  ·intro cA;refine JL.block (CZ cr (λL s Y=>∃(a8:LH) (am:Lv_),Jn ay H a8 [[(a0,.cells (([]:Lv_)++am).toArray 82 (0,0))]] [(2,.pointer (some ⟨cg,0,none⟩)),(5,.int .u32 ((Y.2.1:Nat):Int)),(6,.pointer (some ⟨a0,0,none⟩)),(17,.slice bb (p1).length bd),(18,iV ((p1).length:Int)),(19,iV Y.2.2)] L s ((rA 5 rI).r a8 am (Y.1))) ⟨ay,be,rfl,rfl,(Le.refl _),b4,az⟩ ?_);rintro _ _ Y ⟨a8,am,rfl,rfl,ap,b8,a4⟩ bo ⟨dj,a5⟩ cB;have b9:=a5;unfold Sv at b9;refine C 5 rfl (AU b9 (λcC cD=>?_) (λcC cE=>?_))
   ·obtain⟨a6,cF,cG⟩:=bs cD;refine C 5 rfl (Dp (ce.Ag ((U.trans ag).trans ap)) cF Tryz.underlying26 Bi ?_);rintro dk dm _ ⟨_,_,rfl,rfl,⟨_,_,rfl,rfl,rfl⟩⟩ cH;refine BT cH Ds Bi rfl rfl (Bz b8 BM λdn cI=>?_);refine Bv 1 cI Bi λcJ=>?_;refine B7 1 cJ rfl λdp V aq cK=>C 4 rfl (BT aq Ds Bi rfl rfl ?_);refine JL.fd Tryz.underlying78 BP rfl rfl rfl (BQ 0 (b2.Ag ((ag.trans ap).trans V)) Tryz.underlying28 Cc CJ ?_);refine JL.ln Tryz.underlying25 rfl rfl rfl ?_;obtain⟨bv,cM,cN⟩:=bs cG;refine BH (PI cM) rfl rfl N4 cK λdq K ca=>C 7 rfl (AU cN (λcO cP=>?_) (λcO cQ=>?_))
    ·refine C 3 rfl (Am (v:= .agg #[iV bv]) rfl (λρ h=>Ch [(0,1)] h KC Tryz.underlying128 ⟨rfl,AJ Tryz.type30,trivial⟩ rfl rfl) ?_);refine Am (v:= .iface 128 (.agg #[iV bv])) rfl (λρ h=>IT Tryz.underlying128 (λ_ h=>by cases h) (h _ _ rfl)) (C 2 rfl ?_);refine JS.drop 0 ca rfl λcR=>?_;obtain rfl:=oi cP;obtain rfl:=bo _ a5;have cT:=elim_inl bi;obtain rfl:=oi cT;exact AS Tryz.func59 rfl rfl (aw ((((U.trans ag).trans ap).trans V).trans K) rfl ⟨.iface 128 (.agg #[iV bv]),rfl,rfl,rfl⟩ cR)
    ·refine C 5 rfl (BQ 0 (aq.Ag K) Tryz.underlying42 Ay Bb ?_);refine BQ 1 (aq.Ag K) Tryz.underlying42 Ay Bb ?_;obtain⟨dr,cV,cW⟩:=bs cQ;refine BH (S8 cV) rfl rfl (A1 Tryz.func90 rfl) ca λdt O Z=>JL.done (Cd cW (λcX cY=>?_) (λcX cZ=>?_))
     ·refine C 2 rfl (Am (v:= .agg #[iV 4]) rfl (λρ h=>Ch [(0,1)] h KC Tryz.underlying128 ⟨rfl,AJ Tryz.type30,trivial⟩ rfl rfl) ?_);refine Am (v:= .iface 128 (.agg #[iV 4])) rfl (λρ h=>IT Tryz.underlying128 (λ_ h=>by cases h) (h _ _ rfl)) (C 2 rfl ?_);refine JS.drop 0 Z rfl λc0=>?_;obtain rfl:=oi cY;obtain rfl:=bo _ a5;have c1:=elim_inl bi;obtain rfl:=oi c1;exact AS Tryz.func59 rfl rfl (aw (((((U.trans ag).trans ap).trans V).trans K).trans O) rfl ⟨.iface 128 (.agg #[iV 4]),rfl,rfl,rfl⟩ c0)
     ·refine JL.skip (FR 8 [a0] ⟨⟨0,_,rfl⟩,trivial⟩ Z λac=>?_);refine BR 0 ac rfl rfl (JG.fd 1 ac Tryz.underlying42 Ay rfl rfl rfl rfl ?_);refine JG.lp 2 ac 0 (aq.Ag (K.trans O)) Z ⟨⟨0,_,rfl⟩,trivial⟩ Bb ?_;refine JG.fd 3 ac Tryz.underlying42 Ay rfl rfl rfl rfl (JG.lp 4 ac 1 (aq.Ag (K.trans O)) Z ⟨⟨0,_,rfl⟩,trivial⟩ Bb ?_);refine AN (v:= .agg am.toArray) 6 ac rfl rfl (λρ h s' bw=>F0 (kk:=5) (pp:=rI) (Rp.Ag _ ((V.trans K).trans O) a4) Gd Gx (h _ _ rfl) (RQ (l:= []) 0 Z rfl (by simp [AG]) bw)) (AN 7 ac rfl rfl (λρ h s' bw=>GV (vs:= [iV a6.1,iV a6.2.1,iV a6.2.2]) Ds Bi (h _ _ rfl) (At.Pf (aq.Ag (K.trans O)) (T3 Z bw ⟨⟨0,_,rfl⟩,trivial⟩))) ?_);obtain⟨c3,c4,c5⟩:=bs cZ;refine Xx (i:=5) ⟨⟨0,_,rfl⟩,trivial⟩ (vs:= [.int .u32 ((Y.2.1:Nat):Int),iV a6.1,iV a6.2.1]) (YU c4) (by decide+kernel) rfl rfl rfl (A1 Tryz.func91 rfl) rfl Z ?_;rintro _ du _ a9 ⟨rfl,rfl⟩ c6;refine Cz [8,9,10] ?_;obtain⟨c7,c8,c9⟩:=bs c5;refine A2 (Hx (Rp.Ag _ (((V.trans K).trans O).trans a9) a4) c8) rfl rfl Hl c6 ?_;rintro _ da _ bx ⟨bz,rfl,rfl,a7⟩ db;refine C 1 rfl (FM (v:= .agg bz.toArray) (l:= []) (ws:=am) (us:=bz) (o:=0) 0 rfl rfl rfl db rfl rfl rfl (by rw [BG (kk:=5) (pp:=rI) a7];exact AJ Tryz.type82) ((rA 5 rI).one a7) rfl (by rw [BG (kk:=5) (pp:=rI) a7,BG (kk:=5) (pp:=rI) (Rp.Ag _ ((((V.trans K).trans O).trans a9).trans bx) a4)];omega) λcb=>?_);rw [Ho (by rw [BG (kk:=5) (pp:=rI) a7,BG (kk:=5) (pp:=rI) (Rp.Ag _ ((((V.trans K).trans O).trans a9).trans bx) a4)])] at cb ⊢;obtain⟨dc,dd,de⟩:=bs c9;refine C 3 rfl (Bn dd rfl rfl rfl ?_);refine C 2 rfl ?_;obtain rfl:=oi de;exact Az (cB _ _ (c7,c3,dc) ⟨da,bz,rfl,rfl,(((((ap.trans V).trans K).trans O).trans a9).trans bx),cb,a7⟩ a5) rfl
   ·refine JL.exit rfl ?_;obtain rfl:=oi cE;have df:b5=(Sum.inr Y.1):=(bo _ a5).symm;exact Az (cA _ _ ⟨Y.1,a8,am,df,rfl,rfl,ap,b8,a4⟩) rfl
def P0(fu_:Nat):Option (Bool):=
 some false
theorem Zh{O:Value}{fu_:Nat}{r:Bool}(K:P0 fu_=some r):AM J 89 [.nilIface,O] E [] (λw E' B'=>w= .bool r/\B'= []):=by
 refine Be Tryz.func89 λQ Y cs H U V=>?_;unfold P0 at K;refine C 8 rfl ?_;refine Am (v:= .bool true) rfl (λρ h=>Rf Tryz.underlying88 (show Lg 0 .nilIface none from rfl) (h _ _ rfl) (h _ _ rfl)) (C 6 rfl ?_);obtain rfl:=oi K;exact AS Tryz.func89 rfl rfl (V (Le.refl _) rfl ⟨rfl,rfl⟩ U)
def PY(fu_:Nat):Option (Int):=
 (P0 fu_).bind λK=>
 if K=true then(
  some 0
 ) else(
  some 0
 )
theorem ar{fu_:Nat}{r:Int}(O:PY fu_=some r):AM J 58 [.nilIface] E [] (λw E' B'=>w=iV r/\B'= []):=by
 refine Be Tryz.func58 λQ ay cs H Y U=>?_;unfold PY at O;refine C 6 rfl (Bz Y KC λr1 Z=>?_);refine C 5 rfl (Am (v:=(.iface 130 (.pointer (some ⟨r1,0,none⟩)))) rfl (λρ h=>IT Tryz.underlying130 (λ_ h=>by cases h) (h _ _ rfl)) ?_);obtain⟨az,ac,ag⟩:=bs O;refine BH (Zh ac) rfl rfl (A1 Tryz.func89 rfl) Z λa0 V K=>JL.done (Cd ag (λal am=>?_) (λal ap=>?_))
 ·refine C 2 rfl (JL.fd Tryz.underlying128 (AJ Tryz.type30) rfl rfl rfl ?_);refine Am (v:=iV 0) rfl (λρ h=>Yl.load (Cm Tryz.underlying30) (h _ _ rfl) (BC (j:=1) (off:=0) K rfl rfl)) (C 2 rfl ?_);refine JS.drop 1 K rfl λaq=>?_;obtain rfl:=oi am;exact AS Tryz.func58 rfl rfl (U V rfl ⟨rfl,rfl⟩ aq)
 ·refine C 5 rfl (JS.drop 1 K rfl λaw=>?_);obtain rfl:=oi ap;exact AS Tryz.func58 rfl rfl (U V rfl ⟨rfl,rfl⟩ aw)
open Go.Extern
def O5(b:Frame)(n:Nat):Nat->Li_->Env->Li_×Env
 | 0,k,L=>(k,L)
 | m+1,k,L=>match NC b n L k with
  | some (k',L')=>O5 b n m k' L'
  | none=>(k,L)
theorem zm{P:Program}{J:Judge P}{Q:Gs_}{b:Frame}{n:Nat}{ds:Ld_}{cs:Lf_}{s:St}:∀(m:Nat) {L L':Env} {k k':Li_},O5 b n m k L=(k',L')->JL J Q b n L' ds k' cs s->JL J Q b n L ds k cs s
 | 0,L,L',k,k',h,K=>by cases h;exact K
 | m+1,L,L',k,k',h,K=>by
  unfold O5 at h
  split at h
  ·rename_i e;exact TB e (zm m h K)
  ·cases h;exact K
theorem RL{E H:LH}{S:List Seg}{r:Nat}{o:Obj}(K:Ap E H S)(O:(Aj E H S).E r=none)(U:(Aj E H S).H r=none):Ap E H (S++ [[(r,o)]])/\(Aj E H S).upd r o=Aj E H (S++ [[(r,o)]]):=by
 obtain⟨a,b⟩:=Jo O U o K;obtain⟨c,d⟩:=Fh a;exact⟨d,b.trans c⟩
theorem ZN{s:St}{X:Halt->St->Prop}{Q:Value->St->Prop}{o:Operand}(p:Addr):lp Tryz.prog (do eqGuard .eql 20 o (.const .nilIface) (.iface 130 (.pointer (some p))) .nilIface;binOp .eql 20 (.iface 130 (.pointer (some p))) .nilIface) s Q X=Q (.bool false) s:=by kernel_rfl
theorem Xa{s:St}{ρ:Operand->Value}{d:Option Tmp}{x:Operand}{u ty:TypeId}{p:String}{af:Ae_}{g:On_}{a:Addr}(K:ρ x= .iface 130 (.pointer (some a)))(O:ρ (.const .nilIface)= .nilIface):Yl Tryz.prog ⟨d,.binOp .eql 20 x (.const .nilIface) u,ty,p,af,g⟩ ρ s (.bool false):=by
 refine EN (sm:=do eqGuard .eql 20 x (.const .nilIface) (ρ x) (ρ (.const .nilIface));binOp .eql 20 (ρ x) (ρ (.const .nilIface))) V ?_
 rw [K,O];exact(ZN a).mpr ⟨V,V⟩
theorem Ur(z:Sem Value)(f:TypeId->Addr->Nat->Nat->Sem Value)(v:Value):ReflectliteValue.method z f #[v]=Sem.bind (ReflectliteValue.parts v) (λx=>match x with | none=>z | some (t,a,K)=>f t a K (K % 32)):=rfl
theorem VQ{s:St}{X:Halt->St->Prop}{Q:Value->St->Prop}(a p:Addr)(K:s.cell? a=some (.pointer (some p)))(h:Q (.bool false) s):lp Tryz.prog (ReflectliteValue.method (ReflectliteValue.valueError "reflectlite.Value.IsNil" 0) ReflectliteValue.isNil #[.agg #[EV 130,.pointer (some a),.int .u64 150]]) s Q X:=by
 rw [Ur];refine Ar (x:=ReflectliteValue.parts _) _ ((Rc a).mpr ?_);show lp Tryz.prog (Sem.bind (loadVar 130 a) _) s Q X;exact Ar (x:=loadVar 130 a) _ ((RB a).mpr ⟨V,_,K,h⟩)
theorem Wx{s:St}{X:Halt->St->Prop}{Q:Value->St->Prop}(a p:Addr)(K:s.cell? a=some (.pointer (some p)))(h:Q (.agg #[EV 128,.pointer (some p),.int .u64 409]) s):lp Tryz.prog (ReflectliteValue.method (ReflectliteValue.valueError "reflectlite.Value.Elem" 0) ReflectliteValue.elem #[.agg #[EV 130,.pointer (some a),.int .u64 150]]) s Q X:=by
 rw [Ur];refine Ar (x:=ReflectliteValue.parts _) _ ((Rc a).mpr ?_);show lp Tryz.prog (Sem.bind (loadVar 130 a) _) s Q X;refine Ar (x:=loadVar 130 a) _ ((RB a).mpr ⟨V,_,K,?_⟩);refine Ar (x:=Rtype.elem? 130) _ (YI.mpr ?_);exact(Zu p).mpr h
theorem bT(v x:Value):ReflectliteValue.set #[v,x]=(do
  let (some (dst,a,K),some (src,b,_)):=(← ReflectliteValue.parts v,← ReflectliteValue.parts x)
   | unsupported (.noEntry "extern/(internal/reflectlite.Value).Set.zeroValue")
  if K / ReflectliteValue.flagAddr % 2==0 then unsupported (.noEntry "extern/(internal/reflectlite.Value).Set.unaddressable")
  let val ← loadVar src b
  if ← Rtype.directlyAssignable dst src then storeVar dst a val
  else if ← Rtype.implements dst src then
   if(← Rtype.kind src)==20 then
    match val with
    | .nilIface=>unsupported (.noEntry "extern/reflectlite: a nil value of one interface type handed on as a value of another")
    | _=>storeVar dst a val
   else storeVar dst a (.iface src val)
  else panicString ("reflectlite.Set: value of type " ++(← Rtype.spelt src)++ " is not assignable to type " ++(← Rtype.spelt dst))
  pure (.tuple #[])):=rfl
theorem XP{E H:LH}{S:List Seg}{X:Halt->St->Prop}{Q:Value->St->Prop}{bk r:Nat}{u:Value}{c:Int}(j:Nat)(U:Ap E H S)(K:S[j]? =some [(bk,.cells #[u] 128 (0,0))])(V:At E r 0 [iV c])(h:Ap E H (S.set j [(bk,.cells #[iV c] 128 (0,0))])->Q (.tuple #[]) (Aj E H (S.set j [(bk,.cells #[iV c] 128 (0,0))]))):
  lp Tryz.prog (ReflectliteValue.set #[.agg #[EV 128,.pointer (some ⟨bk,0,none⟩),.int .u64 409],.agg #[EV 128,.pointer (some ⟨r,0,none⟩),.int .u64 153]]) (Aj E H S) Q X:=by
 rw [bT];refine Ar (x:=ReflectliteValue.parts _) _ ((Vm _).mpr ?_);refine Ar (x:=ReflectliteValue.parts _) _ ((Wm _).mpr ?_);refine Ar (x:=loadVar 128 _) _ ((WQ _).mpr ⟨rfl,_,At.I4 (j:=0) V rfl,?_⟩);refine Ar (x:=Rtype.directlyAssignable 128 128) _ (XJ.mpr ?_);refine Ar (x:=storeVar 128 _ _) _ ?_;obtain⟨Y,Z⟩:=Gk U K;rw [Y];refine MA (pl:=(S.set j []).flatten.length) (AJ Tryz.type128) (by simp [Value.cells,B3]) Z (c:= #[u]) (e:=128) (by simp) (by simp [Value.cells]) λO=>?_;have ac:((S.set j []).flatten++ [(bk,Obj.cells #[u] 128 (0,0))]).set (S.set j []).flatten.length (bk,.cells (A7 #[u] 0 (Value.agg #[iV c]).cells.toList) 128 (0,0))=(S.set j []).flatten++ [(bk,.cells #[iV c] 128 (0,0))]:=H4 _ _ _ _;rw [ac] at O ⊢;obtain⟨ag,al⟩:=H5 (seg':= [(bk,.cells #[iV c] 128 (0,0))]) K O;rw [ag];exact h al
variable {J:Judge Tryz.prog}
theorem aY{c:Int}{bk r:Nat}{u:Value}(O:At E r 0 [.pointer (some ⟨bk,0,none⟩)]):AM J 119 [.iface 128 (.agg #[iV c]),.iface 130 (.pointer (some ⟨bk,0,none⟩)),.agg #[EV 130,.pointer (some ⟨r,0,none⟩),.int .u64 150],Jc 128] E [(bk,.cells #[u] 128 (0,0))] (λv E' B'=>v= .bool true/\B'= [(bk,.cells #[iV c] 128 (0,0))]):=by
 refine Kh Tryz.func119 rfl rfl λQ a0 cs H U V=>zm 60 rfl (JS.box (v:= .agg #[EV 130,.pointer (some ⟨r,0,none⟩),.int .u64 150]) rfl rfl rfl U rfl λr2 Y=>?_);refine B7 1 Y rfl λa1 K Z ac=>zm 60 rfl (HX ?_);refine zm 60 rfl (Km ZT rfl rfl rfl rfl ?_);refine(Vv _).mpr ?_;refine zm 60 rfl (L5 Zg (bg _) rfl rfl rfl rfl rfl ?_);refine YE.mpr (zm 60 rfl ?_);refine BT Z Ml Lq rfl rfl (Km YX rfl rfl rfl rfl ?_);refine Wx ⟨r,0,none⟩ ⟨bk,0,none⟩ (At.I4 (j:=0) (O.Ag K) rfl) (zm 60 rfl ?_);refine Km Tp rfl rfl rfl rfl ?_;refine(U1 c).mpr ⟨rfl,λr3 ag al=>?_⟩;obtain⟨am,ap⟩:=RL (o:= .cells #[iV c] 128 (0,0)) ac ag al;rw [ap];refine B7 2 am rfl λa2 aq aw ay=>Km Zb rfl rfl rfl rfl (XP 0 ay rfl aw λaz=>?_);refine zm 60 rfl (AS Tryz.func119 rfl rfl ?_);exact V _ _ _ _ (K.trans aq) rfl ⟨rfl,rfl⟩ az
theorem YT{c:Int}{bk:Nat}{u:Value}(Y:At E 0 0 [Jc 88]):AM J 89 [.iface 128 (.agg #[iV c]),.iface 130 (.pointer (some ⟨bk,0,none⟩))] E [(bk,.cells #[u] 128 (0,0))] (λv E' B'=>v= .bool true/\B'= [(bk,.cells #[iV c] 128 (0,0))]):=by
 refine Kh Tryz.func89 rfl rfl λQ a2 cs H Z ac=>zm 60 rfl ?_;refine Am (v:= .bool false) rfl (λρ h=>Rf Tryz.underlying88 (show Lg 128 (.iface 128 (.agg #[iV c])) (some c) from rfl) (h _ _ rfl) (h _ _ rfl)) (zm 60 rfl ?_);refine Am rfl (λρ h=>Xa (h _ _ rfl) (h _ _ rfl)) (zm 60 rfl ?_);refine Km Tp rfl rfl rfl rfl ?_;refine(Va _).mpr ⟨rfl,λr ag al=>?_⟩;obtain⟨am,ap⟩:=RL (o:= .cells #[.pointer (some ⟨bk,0,none⟩)] 130 (0,0)) Z ag al;rw [ap];refine JS.alloc rfl rfl rfl am (C5 Tryz.type177) λr2 aq=>T7 (v:= .agg #[EV 130,.pointer (some ⟨r,0,none⟩),.int .u64 150]) (off:=0) 2 aq Lq rfl rfl rfl rfl λaw=>zm 60 rfl (B7 1 aw rfl λa3 U V ay=>?_);refine B7 2 ay rfl λa4 K O az=>BT O Ml Lq rfl rfl (Km ai rfl rfl rfl rfl ?_);refine(XE _).mpr ?_;refine zm 60 rfl (L5 TN (TP _) rfl rfl rfl rfl rfl ?_);refine XA.mpr (zm 60 rfl ?_);refine BT (O) Ml Lq rfl rfl (Km Zt rfl rfl rfl rfl ?_);refine VQ ⟨r,0,none⟩ ⟨bk,0,none⟩ (At.I4 (j:=0) (V.Ag K) rfl) (zm 60 rfl ?_);refine L5 Ze (Zk _) rfl rfl rfl rfl rfl (Xm.mpr ?_);refine zm 60 rfl (L5 TN (TP _) rfl rfl rfl rfl rfl ?_);refine W6.mpr (zm 60 rfl ?_);refine CG 0 (Y.Ag (U.trans K)) (Cm Tryz.underlying180) rfl rfl rfl (L5 ZU (Z2 _) rfl rfl rfl rfl rfl ?_);refine Xb.mpr (zm 60 rfl ?_);refine Am (v:= .bool (!true)) rfl (λρ h=>Yl.not (h _ _ rfl)) (zm 60 rfl ?_);refine BT (O) Ml Lq rfl rfl (zm 60 rfl ?_);refine DR 0 (aY (V.Ag K)) rfl rfl (A1 Tryz.func119 rfl) az rfl ?_;rintro _ a5 _ a0 ⟨rfl,rfl⟩ a1;refine zm 60 rfl (AS Tryz.func89 rfl rfl ?_);exact ac _ _ _ _ ((U.trans K).trans a0) rfl ⟨rfl,rfl⟩ a1
theorem W8{c:Int}(K:At E 0 0 [Jc 88]):AM J 58 [.iface 128 (.agg #[iV c])] E [] (λv E' B'=>v=iV c/\B'= []):=by
 refine Kh Tryz.func58 rfl rfl λQ am cs H O U=>zm 60 rfl (JS.alloc rfl rfl rfl O KC λr1 V=>?_);refine zm 60 rfl (Am rfl (λρ h=>IT Tryz.underlying130 (λms e=>by cases e) (h _ _ rfl)) ?_);refine DR 1 (YT (u:=iV 0) K) rfl rfl (A1 Tryz.func89 rfl) V rfl ?_;rintro _ ap _ Y ⟨rfl,rfl⟩ Z;refine B7 1 Z rfl λaq ac ag al=>zm 60 rfl (JL.fd Tryz.underlying128 (AJ Tryz.type30) rfl rfl rfl ?_);refine CG 0 ag (Cm Tryz.underlying30) rfl rfl rfl (zm 60 rfl ?_);exact AS Tryz.func58 rfl rfl (U _ _ _ _ (Y.trans ac) rfl ⟨rfl,rfl⟩ al)
abbrev GE(E:LH):Prop:=At E 0 0 [Jc 88]
def PO(fuel:Nat)(p0:Option Int):Option Int:=match p0 with
 | none=>PY fuel
 | some q=>some q
theorem R7{v:Value}{p0:Option Int}(O:GE E)(h:Lg 128 v p0){fuel:Nat}{r:Int}(K:PO fuel p0=some r):AM J 58 [v] E [] (λw E' B'=>w=iV r/\B'= []):=by
 match p0,h with
 | none,h=>obtain rfl:v= .nilIface:=h;exact ar K
 | some c,h=>
  obtain rfl:v= .iface 128 (.agg #[iV c]):=h;cases K;exact W8 O
end Pal
namespace Pal
open Go Go.Conc Go.Proofs Go.ChangeShapes Go.WideShapes Go.ChangeAt Go.RowKit
open Go.Proofs.YtmeophcclkejkaaGreatDoor
theorem Tryz.own:ownKnob Tryz.prog.godebug=none:=by kernel_rfl
theorem Vb{R:Value->St->Prop}{W w':World}{v:Value}(h:After Tryz.prog R W (JZ W) v w'):(∃s,R v s)/\Below W.heap.size W {w' with os:=W.os}/\Go.ConcM.OsLater W.os w'.os:=by
 obtain⟨s,V,Y,Z,ac,ag,al⟩:=h;have hb:∀k,k<W.heap.size->w'.heap[k]? =W.heap[k]? :=λk O=>by
  have K:(JZ W).E k=some W.heap[k]:=Array.getElem?_eq_getElem O;have U:=Y.e k _ (Z k _ K);rw [U,Array.getElem?_eq_getElem O]
 refine⟨⟨s,V⟩,⟨rfl,ac,al,?_,hb⟩,ag⟩;show W.heap.size<=w'.heap.size;rcases Nat.eq_zero_or_pos W.heap.size with am | am
 ·omega
 ·have K:=hb (W.heap.size - 1) (by omega);have ap:W.heap[W.heap.size - 1]? =some W.heap[W.heap.size - 1]:=Array.getElem?_eq_getElem (by omega);rw [ap] at K;have U:=(Array.getElem?_eq_some_iff.1 K).1;omega
variable {H:Type}{enc:TypeId×Value->H}{W:World}{fuel:Nat}{cs:Lv_}{x:DataW H×List MemPlace}
noncomputable def QV(os:Os):World:=
 let w0:=World.holding Tryz.prog os ⟨#[],#[],[]⟩
 {w0 with heap:=w0.heap.modify 0 fun
   | .cells _ t frozen=> .cells #[.iface 222 (.agg #[.pointer (some ⟨1,88,none⟩)])] t frozen
   | o=>o}
theorem UN(os:Os)(args:Av_):laidMetH Tryz.prog [("errors.errorType",Rows.laid_errors_errorType)] ((QV os).forCall (λ_ _=>0) ⟨#[],args,[]⟩).memory:=
 laidMetH_of_parts (laidMet_nil _ _) (by kernel_rfl)
theorem Tryz.Yd:Tryz.prog.globalNamed "errors.errorType" =some 0:=by kernel_rfl
theorem Tryz.an:(Tryz.prog.cutTypes.find? (·.1== "internal/reflectlite.rtype")).map (·.2)=some 222:=by kernel_rfl
theorem Tryz.YM:Tryz.prog.globals.size=1:=by kernel_rfl
theorem Tryz.ZJ:(List.range Tryz.prog.types.size).all (λt=> !Tryz.prog.rowNamed t [101,114,114,111,114] || t==88)=true:=by kernel_rfl
theorem Yu{W:World}(h:laidMetH Tryz.prog [("errors.errorType",Rows.laid_errors_errorType)] W.memory):GE (JZ W).E:=by
 have U:=h.2 _ (List.mem_cons_self ..);obtain⟨name,u,ty,V,Y,Z,ac,K⟩:=U;have ag:name= [101,114,114,111,114]:=(Option.some.inj V).symm;have e2:u=222:=Option.some.inj (Y.symm.trans Tryz.an);subst ag;subst e2;have al:ty=88:=by
  have:=List.all_eq_true.1 Tryz.ZJ ty (List.mem_range.2 Z);rw [ac] at this;simpa using this
 subst al;unfold World.var? at K;rw [Tryz.Yd] at K;simp only [Option.bind_some] at K;split at K
 ·rename_i c e f hW;simp only [Option.some.injEq] at K;subst K;refine⟨_,e,f,hW,λj w O=>?_⟩;have am:typeHandle Tryz.prog 88= .pointer (some ⟨1,88,none⟩):=by unfold typeHandle;rw [Tryz.YM]
  rw [am]
  match j,O with
  | 0,O=>simp at O;subst O;rfl
  | j+1,O=>simp at O
 ·cases K
theorem UX{H:Type}{enc:TypeId×Value->H}{C:Checked}{os:Os}{f:FuncId}{fn:Func}{s:ChangeSpec}{conds:List PathCond}{apart:Bool}{X:World->Av_->Prop}(w0:World)(args:Av_)(fuel:Nat)(O:w0.os=os)
  (U:(w0.forCall (λ_ _=>0) ⟨#[],args,[]⟩).variablesB C.prog=true)
  (V:((w0.forCall (λ_ _=>0) ⟨#[],args,[]⟩).heap.toList.drop C.prog.globals.size).take ((begin C.prog (λ_ _=>0) default).world.heap.size - C.prog.globals.size)=
   (begin C.prog (λ_ _=>0) default).world.heap.toList.drop C.prog.globals.size)
  (K:Input.okWideB C.prog (w0.forCall (λ_ _=>0) ⟨#[],args,[]⟩) f ⟨#[],args,[]⟩=true)
  (Y:s.preB enc C.prog fn conds apart (w0.forCall (λ_ _=>0) ⟨#[],args,[]⟩).memory args fuel=true)
  (Z:s.sizedB enc C.prog fn apart (w0.forCall (λ_ _=>0) ⟨#[],args,[]⟩).memory args fuel=true)
  (ac:X (w0.forCall (λ_ _=>0) ⟨#[],args,[]⟩).memory args):
  ∃(w:World) (tape:Tape) (i:Input),w.os=os/\(w.forCall tape i).Shaped C.prog/\i.vars= []/\Input.okWide C.prog (w.forCall tape i) .any w.heap.size f i/\
   ((s.pre enc C.prog fn conds apart (w.forCall tape i).memory i.args/\X (w.forCall tape i).memory i.args)/\sizedMet enc C.prog fn (OpenSpec.ofChange s) apart (w.forCall tape i).memory i.args)/\({calm:=true}:Assume).holds C.prog (Go.lone (Frame.enter C.prog f i.args .normal) [] (w.forCall tape i)):=
 ⟨w0,λ_ _=>0,⟨#[],args,[]⟩,O,World.shaped_of_B U V,(Input.okWide_of_okWideB (base:=0) K).1,(Input.okWide_of_okWideB K).2,⟨⟨ChangeSpec.pre_of_preB Y,ac⟩,sizedMet_of_sizedB Z⟩,by
  simp only [Assume.holds]
  exact⟨by simp,λ_ _ _ _=>rfl,by simp,by simp,by simp⟩⟩
end Pal
namespace Pal
open Go Go.Conc
variable {κ ν:Type}
variable {pk:Rp κ}{pv:Rp ν}{ka va:Bool}{E E' H:LH}
variable {P:Program}{s:St}{t tm te:TypeId}{X:Halt->St->Prop}{bk:Nat}{xs:List (κ×ν)}{k w:Value}{x:κ}{v0:ν}
section
variable [DecidableEq κ]
theorem LD(x:κ)(u v:ν):∀xs:List (κ×ν),Bp (Bp xs x u) x v=Bp xs x v
 | []=>by simp [Bp]
 | y::ys=>by
  by_cases e:x=y.1
  ·rw [show Bp (y::ys) x u=(x,u)::ys by simp only [Bp,if_pos e],show Bp (y::ys) x v=(x,v)::ys by simp only [Bp,if_pos e]]
   simp [Bp]
  ·rw [show Bp (y::ys) x u=y::Bp ys x u by simp only [Bp,if_neg e],show Bp (y::ys) x v=y::Bp ys x v by simp only [Bp,if_neg e],show Bp (y::Bp ys x u) x v=y::Bp (Bp ys x u) x v by simp only [Bp,if_neg e],LD x u v ys]
theorem Q7{x:κ}{v:ν}:∀{xs:List (κ×ν)},Bf xs x=some v->Bp xs x v=xs
 | [],h=>by cases h
 | y::ys,h=>by
  by_cases e:x=y.1
  ·have:y.2=v:=by unfold Bf at h;rw [List.find?_cons_of_pos (by simpa using e)] at h;exact Option.some.inj h
   rw [show Bp (y::ys) x v=(x,v)::ys by simp only [Bp,if_pos e],e,← this]
  ·rw [show Bp (y::ys) x v=y::Bp ys x v by simp only [Bp,if_neg e],Q7];unfold Bf at h ⊢;rwa [List.find?_cons_of_neg (by simpa using e)] at h
theorem KF(x y:κ)(v:ν):∀xs:List (κ×ν),Bf (Bp xs x v) y=if y=x then some v else Bf xs y
 | []=>by
  unfold Bp Bf
  by_cases h:y=x
  ·rw [if_pos h];simp [h]
  ·rw [if_neg h];simp [h]
 | z::U=>by
  have V:=KF x y v U;unfold Bp;by_cases h:x=z.1
  ·rw [if_pos h];by_cases K:y=x
   ·rw [if_pos K];unfold Bf;simp [K]
   ·rw [if_neg K];unfold Bf;rw [List.find?_cons_of_neg (by simpa using K),List.find?_cons_of_neg (by simpa using λe=>K (e.trans h.symm))]
  ·rw [if_neg h];by_cases O:y=z.1
   ·rw [if_neg (λe=>h (e.symm.trans O))];unfold Bf;simp [O]
   ·have:Bf (z::Bp U x v) y=Bf (Bp U x v) y:=by unfold Bf;rw [List.find?_cons_of_neg (by simpa using O)]
    rw [this,V];by_cases K:y=x
    ·rw [if_pos K,if_pos K]
    ·rw [if_neg K,if_neg K];unfold Bf;rw [List.find?_cons_of_neg (by simpa using O)]
open Classical in
noncomputable def LV{α K:Type}(m:List α)(f:List α->Option K):Option K:=if m.length<=1000/\∀l,l.Perm m->f l=f m then f m else none
theorem Rg{α K:Type}{m:List α}{f:List α->Option K}{r:K}(h:LV m f=some r):m.length<=1000/\∀l,l.Perm m->f l=some r:=by
 unfold LV at h;split at h
 ·rename_i O;exact⟨O.1,λl p=>(O.2 l p).trans h⟩
 ·cases h
theorem V3{α K:Type}{m:List α}{f:List α->Option K}{r:Option K}(O:m.length<=1000)(h:∀l,l.Perm m->f l=r):LV m f=r:=by
 unfold LV;rw [if_pos ⟨O,λl p=>(h l p).trans (h m (.refl _)).symm⟩];exact h m (.refl _)
def EL(m:List ((Int×Int)×Int)):List (Int×Int×Int):=(m.filter λe=>decide (0<e.2)).map λe=>(e.1.1,e.1.2,e.2)
theorem X0(m:List ((Int×Int)×Int)):(EL m).length<=m.length:=by
 unfold EL;rw [List.length_map];exact List.length_filter_le _ _
theorem WO{m:List ((Int×Int)×Int)}{e:(Int×Int)×Int}(h:0<e.2):EL (m++ [e])=EL m++ [(e.1.1,e.1.2,e.2)]:=by
 unfold EL;rw [List.filter_append,List.map_append];simp only [List.filter_cons,List.filter_nil,h,decide_true,if_true,List.map_cons,List.map_nil]
theorem RR{m:List ((Int×Int)×Int)}{e:(Int×Int)×Int}(h:¬0<e.2):EL (m++ [e])=EL m:=by
 unfold EL;rw [List.filter_append,List.map_append];simp only [List.filter_cons,List.filter_nil,h,decide_false,Bool.false_eq_true,if_false,List.map_nil,List.append_nil]
theorem Ww{m:List ((Int×Int)×Int)}{e:(Int×Int)×Int}(h:0<e.2)(K:m.length<=1000):room (EL m) (e.1.1,e.1.2,e.2)=some (EL (m++ [e])):=by
 unfold room;rw [if_pos (by have:=X0 m;omega),WO h]
theorem Sm{x:κ}{k w:Value}{v:ν}{c:Nat}:∀{es:List MapEntry} {ys:List (κ×ν)} {i:Nat},C7 pk ka pv va E es ys->DX x es ys i=none->DX x (es++ [{key:=k,val:=w,born:=c}]) (Bp ys x v) i=some (i+es.length,w)
 | [],[],i,_,_=>by simp [DX,Bp]
 | e::es,y::ys,i,h,K=>by
  unfold DX at K
  by_cases O:x=y.1
  ·rw [if_pos O] at K;cases K
  ·rw [if_neg O] at K;have U:=Sm (k:=k) (w:=w) (v:=v) (c:=c) h.2.2 K;unfold Bp;rw [if_neg O];show DX x (e::(es++_)) (y::Bp ys x v) i=_;unfold DX;rw [if_neg O,U,List.length_cons];congr 2;omega
 | [],_::_,_,h,_=>h.elim
 | _::_,[],_,h,_=>h.elim
theorem Pa{x:κ}:∀{es:List MapEntry} {ys:List (κ×ν)} {i j:Nat} {u:Value},C7 pk ka pv va E es ys->DX x es ys i=some (i+j,u)->∃e v,es[j]? =some e/\e.val=u/\ys[j]? =some (x,v)/\Bf ys x=some v
 | [],[],i,j,u,_,h=>by cases h
 | e::es,y::ys,i,j,u,h,hh=>by
  unfold DX at hh
  by_cases K:x=y.1
  ·rw [if_pos K] at hh
   have O:=Option.some.inj hh;have V:j=0:=by have:=congrArg Prod.fst O;simp at this;omega
   subst V;have Y:e.val=u:=congrArg Prod.snd O;exact⟨e,y.2,rfl,Y,by rw [K];rfl,by unfold Bf;rw [List.find?_cons_of_pos (by simpa using K)];rfl⟩
  ·rw [if_neg K] at hh;rcases j with _ | j
   ·have:∀{es:List MapEntry} {ys:List (κ×ν)} {i m:Nat} {u:Value},DX x es ys i=some (m,u)->i<=m:=by
     intro es
     induction es with
     | nil=>intro ys i m u h;cases ys <;> cases h
     | cons e es Z=>
      intro ys i m u h;cases ys with
      | nil=>cases h
      | cons y ys=>
       unfold DX at h;split at h
       ·have:=congrArg Prod.fst (Option.some.inj h);simp at this;omega
       ·have:=Z h;omega
    have:=this hh;omega
   ·obtain⟨ac,v,a1,ag,al,U⟩:=Pa (i:=i+1) (j:=j) h.2.2 (by rw [hh];congr 2;omega);exact⟨ac,v,a1,ag,al,by unfold Bf at U ⊢;rw [List.find?_cons_of_neg (by simpa using K)];exact U⟩
 | [],_::_,_,_,_,h,_=>h.elim
 | _::_,[],_,_,_,h,_=>h.elim
def K7(pk:Rp κ)(ka:Bool)(pv:Rp ν)(va:Bool)(E:LH)(o:Obj)(xs:List (κ×ν))(x:κ)(st:Nat):Prop:=
 KN xs/\∃ys,ys.Perm xs/\∃es clock,o= .map es clock/\C7 pk ka pv va E es.toList ys/\(es.toList.map (·.born)).Pairwise (·<·)/\(∀e∈es.toList,e.born<clock)/\
  ∃j u e,DX x es.toList ys 0=some (j,u)/\es.toList[j]? =some e/\e.born=st
theorem K7.map{o:Obj}{xs:List (κ×ν)}{x:κ}{st:Nat}(h:K7 pk ka pv va E o xs x st):Bw pk ka pv va E o xs:=
 let ⟨K,ys,O,es,c,U,V,Y,Z,_⟩:=h;⟨K,ys,O,es,c,U,V,Y,Z⟩
variable {o:Obj}
theorem U3(Y:FE P t pk ka)(hm:P.underlying tm=some (.map t te)){z:Value}{z0:ν}(aq:zeroOf P te=some z)(aw:Vr pv va E z z0)(ay:s.get bk=some o)(ag:s.H bk=some o)(az:Bw pk ka pv va E o xs)(U:Vr pk ka E k x){Q:Value->St->Prop}
  (h:∀o' w st,K7 pk ka pv va E o' (Bp xs x ((Bf xs x).getD z0)) x st->Q (.tuple #[w,goInt st]) (s.upd bk o')):lp P (Instr.mapEntry tm (.map (some bk)) k) s Q X:=by
 obtain⟨V,ys,Z,es,c,rfl,O,al,ac⟩:=az;unfold Instr.mapEntry;refine Ar _ _ (Ce hm ?_);unfold getObj;simp only [bind,Sem.bind,lp];refine⟨_,ay,rfl,?_⟩;refine Ar (x:=Instr.checkKey false 10000 t k) _ (Y.BJ U ?_);refine Ar (x:=Instr.findKey t k es.toList) _ (MD Y U O ?_);rw [← Oq V Z x] at h;rcases OQ (x:=x) (i:=0) O with⟨K,e2⟩ | ⟨j,w,v0,K,e2,a0⟩
 ·rw [K];simp only;rw [e2] at h;refine Ar (x:=zeroValue te) _ (GQ aq ?_);have a2:=(C7.put U aw c (i:=0) O).resolve_right (by rintro⟨j,u,a1,_⟩;rw [K] at a1;cases a1);refine Ar _ _ ?_;simp only [setObj,lp,pure];refine⟨⟨_,ag,rfl⟩,rfl,h _ _ c ⟨V.put _ _,_,MF V Z _ _,es.push {key:=k,val:=z,born:=c},c+1,rfl,by simpa using a2.2,?_,?_,es.toList.length,z,{key:=k,val:=z,born:=c},?_,by simp,rfl⟩⟩
  ·rw [Array.toList_push,List.map_append,List.pairwise_append];refine⟨al,by simp,λa a3 b hb=>?_⟩;simp at hb;subst hb;obtain⟨e,he,rfl⟩:=List.mem_map.1 a3;exact ac e he
  ·intro e he;rw [Array.toList_push] at he;rcases List.mem_append.1 he with he | he
   ·have:=ac e he;omega
   ·simp at he;subst he;simp
  ·rw [Array.toList_push,Sm O K,Nat.zero_add]
 ·rw [K];rw [e2] at h;obtain⟨e,v,a1,bb,bd,be⟩:=Pa (i:=0) (j:=j) O (by rw [K,Nat.zero_add]);obtain⟨a4,u,am,bi,a5,bn⟩:=(C7.put U a0 c (i:=0) O).resolve_left (by rintro⟨a1,_⟩;rw [K] at a1;cases a1);obtain rfl:j=a4:=by rw [K] at am;have:=congrArg Prod.fst (Option.some.inj am);simp at this;omega
  have a6:es[j]? =some e:=by simpa using a1
  have ap:e.key=k:=Y.uniq (a5 _ a1) U;simp only [a6,Option.map_some,Option.getD_some,ap];refine Ar (x:=Instr.keyThatStays k k) _ ?_;unfold Instr.keyThatStays;rw [if_pos (Y.same U)];have a7:(es.modify j λe=>{e with key:=k})=es:=by
   apply Array.ext';rw [Array.toList_modify];apply List.ext_getElem?;intro q;rw [List.getElem?_modify];split
   ·rename_i a8;subst a8;rw [a1,← ap];rfl
   ·simp
  simp only [lp,pure,setObj];rw [a7];have a9:ys.Perm (Bp xs x v0):=by
   have:=MF V Z x v0
   rwa [Q7 e2] at this
  refine⟨⟨_,ag,rfl⟩,rfl,h _ _ e.born ⟨V.put _ _,ys,a9,es,c,rfl,O,al,ac,j,w,e,by rw [K],a1,rfl⟩⟩
theorem Qp:∀{l:List MapEntry} {j:Nat} {e:MapEntry},(l.map (·.born)).Pairwise (·<·)->l[j]? =some e->l.findIdx? (λy=>((y.born:Nat):Int)==((e.born:Nat):Int))=some j
 | [],_,_,_,h=>by cases h
 | a::l,0,e,_,h=>by
  cases h
  rw [List.findIdx?_cons,if_pos (by simp)]
 | a::l,j+1,e,K,h=>by
  rw [List.map_cons,List.pairwise_cons] at K
  have O:l[j]? =some e:=by simpa using h
  have:=K.1 e.born (List.mem_map.2 ⟨e,List.mem_of_getElem? O,V⟩);rw [List.findIdx?_cons,if_neg (by simp;omega),Qp K.2 O]
  rfl
theorem UM{st:Nat}(am:s.get bk=some o)(ap:s.H bk=some o)(aq:K7 pk ka pv va E o xs x st)(hw:Vr pv va E w v0){Q:Unit->St->Prop}
  (h:∀o',Bw pk ka pv va E o' (Bp xs x v0)->Q () (s.upd bk o')):lp P (Instr.entryStore tm (.map (some bk)) (goInt st) w) s Q X:=by
 obtain⟨Z,ys,aw,es,c,rfl,U,ac,ag,j,u,e,V,O,rfl⟩:=aq;unfold Instr.entryStore;unfold getObj;simp only [bind,Sem.bind,lp];refine⟨_,am,rfl,?_⟩;have a9:es[j]? =some e:=by simpa using O
 have ay:es.findIdx? (λy=>((y.born:Nat):Int)==((e.born:Nat):Int))=some j:=by
  rw [← Qp ac O];cases es;simp
 obtain⟨K,v',a1,bb,az,bd⟩:=Pa (i:=0) (j:=j) U (by rw [V,Nat.zero_add]);have a0:K=e:=by rw [O] at a1;exact(Option.some.inj a1).symm
 subst a0;have a2:Vr pk ka E K.key x:=by
  have a3:(K,((x,v'):κ×ν))∈es.toList.zip ys:=by
   have a4:(es.toList.zip ys)[j]? =some (K,(x,v')):=by rw [List.getElem?_zip_eq_some];exact⟨O,az⟩
   exact List.mem_of_getElem? a4
  exact(U.zip a3).1
 obtain⟨a5,be,al,bi,bn,a6⟩:=(C7.put a2 hw c (i:=0) U).resolve_left (by rintro⟨a1,_⟩;rw [V] at a1;cases a1);obtain rfl:j=a5:=by rw [V] at al;have:=congrArg Prod.fst (Option.some.inj al);simp at this;omega
 have a7:(es.modify j λe=>{e with val:=w}).toList=es.toList.modify j λe=>{e with key:=K.key,val:=w}:=by
  rw [Array.toList_modify];apply List.ext_getElem?;intro q;rw [List.getElem?_modify,List.getElem?_modify];split
  ·rename_i Y;subst Y;rw [O];rfl
  ·rfl
 simp only [goInt,asInt,asIntOf,pure];refine Ar _ _ ?_;show lp P (match Array.findIdx? (λy=>((y.born:Nat):Int)==((K.born:Nat):Int)) es with
  | some i=>setObj bk (Obj.map (es.modify i λe=>{key:=e.key,val:=w,born:=e.born}) c)
  | none=>unsupported (Unsupported.noEntry "instr/MapEntry.the entry is gone")) s Q X
 rw [ay];simp only [setObj,lp];refine⟨⟨_,ap,rfl⟩,rfl,h _ ⟨Z.put _ _,_,MF Z aw _ _,_,c,rfl,by rw [a7];exact a6,?_,?_⟩⟩
 ·have:(es.modify j λe=>{e with val:=w}).toList.map (·.born)=es.toList.map (·.born):=by
   rw [Array.toList_modify];apply List.ext_getElem?;intro q;simp only [List.getElem?_map,List.getElem?_modify];split <;> cases es.toList[q]? <;> rfl
  rw [this];exact ac
 ·intro e he;rw [Array.toList_modify] at he;obtain⟨q,Y,rfl⟩:=List.mem_iff_getElem.1 he;rw [List.getElem_modify];have a8:q<es.toList.length:=by simpa using Y
  split
  ·show(es.toList[q]'a8).born<c;exact ag _ (List.getElem_mem _)
  ·exact ag _ (List.getElem_mem _)
end
variable {Q:Gs_}{b:Frame}{ds:Ld_}{ops:Ao_}{kk:Li_}{cs:Lf_}{L:Env}{S:List Seg}{fuel:Nat}{listed:Array Bool}
variable {u ty:TypeId}{p:String}{af:Ae_}{g:On_}{i:Nat}{rest:List Nat}{zv:Value}{x0:κ}{z0:ν}
section
variable [DecidableEq κ]
variable {J:Judge P}{n:Nat}{m:Nat}
variable {d:Option Tmp}{x y z:Operand}{e:TypeId}{o:Obj}
theorem Take.M0(j:Nat)(O:FE P t pk ka)(hm:P.underlying tm=some (.map t te))(U:zeroOf P te=some zv)(V:Vr pv va E zv z0)(Y:Bw pk ka pv va E o xs)(Z:Vr pk ka E k x0)(ac:Ap E H S)(ag:S[j]? =some [(bk,o)])
  (al:ops[i]? =some ⟨d,.lookup tm x y false,ty,p,af,g⟩) (hw:AR L ops ⟨d,.lookup tm x y false,ty,p,af,g⟩=some true) (am:Bg n d=true) (ap:ev L x=some (.map (some bk))) (aq:ev L y=some k)
  (h:∀w,Vr pv va E w ((Bf xs x0).getD z0)->AO J Q b n ds ops kk cs m C3 fuel (A8 listed i) (As L d w) (Aj E H S)):
  Take J Q b n ds ops kk cs m C3 fuel listed L (Aj E H S) i:=
 Take.JW al (by simp [DW,am]) hw λρ K=>by
  show lp P (do pure (Next.value (← Instr.lookup tm (ρ x) (ρ y) false))) _ _ _
  rw [K _ _ ap,K _ _ aq]
  refine Ar _ _ (QB O hm U V (C6 (i:=0) ac ag rfl) Y Z false λw hw=>?_)
  exact h w hw
theorem Take.MK(j:Nat)(V:FE P t pk ka)(hm:P.underlying tm=some (.map t te))(Y:zeroOf P te=some zv)(Z:Vr pv va E zv z0)(ac:Bw pk ka pv va E o xs)(ag:Vr pk ka E k x0)(K:Ap E H S)(O:S[j]? =some [(bk,o)])
  (al:ops[i]? =some ⟨d,.mapEntry tm x y,ty,p,af,g⟩) (hw:AR L ops ⟨d,.mapEntry tm x y,ty,p,af,g⟩=some true) (am:Bg n d=true) (ap:ev L x=some (.map (some bk))) (aq:ev L y=some k)
  (h:∀o' w st,K7 pk ka pv va E o' (Bp xs x0 ((Bf xs x0).getD z0)) x0 st->Ap E H (S.set j [(bk,o')])->AO J Q b n ds ops kk cs m C3 fuel (A8 listed i) (As L d (.tuple #[w,goInt st])) (Aj E H (S.set j [(bk,o')]))):
  Take J Q b n ds ops kk cs m C3 fuel listed L (Aj E H S) i:=
 Take.JW al (by simp [DW,am]) hw λρ U=>by
  show lp P (do pure (Next.value (← Instr.mapEntry tm (ρ x) (ρ y)))) _ _ _
  rw [U _ _ ap,U _ _ aq]
  refine Ar _ _ (U3 V hm Y Z (C6 (i:=0) K O rfl) (IE K O) ac ag λo' w st aw=>?_)
  obtain⟨ay,az⟩:=I0 K O o'
  rw [ay]
  exact h o' w st aw az
theorem JS.entryStore{st:Nat}(j:Nat)(V:K7 pk ka pv va E o xs x0 st)(Y:Vr pv va E w v0)(K:Ap E H S)(O:S[j]? =some [(bk,o)])
  (Z:ops[i]? =some ⟨d,.entryStore tm x y z,ty,p,af,g⟩) (hw:AR L ops ⟨d,.entryStore tm x y z,ty,p,af,g⟩=some true) (ac:BJ b n ⟨d,.entryStore tm x y z,ty,p,af,g⟩=true) (ag:ev L x=some (.map (some bk))) (al:ev L y=some (goInt st)) (am:ev L z=some w)
  (h:∀o',Bw pk ka pv va E o' (Bp xs x0 v0)->Ap E H (S.set j [(bk,o')])->JL J Q b n (As L d undef) ds (.inRegion ops rest::kk) cs (Aj E H (S.set j [(bk,o')]))):
  JL J Q b n L ds (.inRegion ops (i::rest)::kk) cs (Aj E H S):=
 JL.op Z hw ac λρ U=>by
  show lp P (do Instr.entryStore tm (ρ x) (ρ y) (ρ z);pure Next.skip) _ _ _
  rw [U _ _ ag,U _ _ al,U _ _ am]
  refine Ar _ _ (UM (C6 (i:=0) K O rfl) (IE K O) V Y λo' ap=>?_)
  obtain⟨aq,aw⟩:=I0 K O o'
  rw [aq]
  exact h o' ap aw
end
end Pal
namespace Pal
open Go Go.Conc
variable {P:Program}{Q:Gs_}{b:Frame}{L:Env}{ds:Ld_}{cs:Lf_}{E H:LH}{S:List Seg}
section
variable {J:Judge P}{n:Nat}
theorem SB{todo:Li_}{S':List Seg}(O:S=S'++ [[]])(K:Ap E H S)(h:Ap E H S'->JL J Q b n L ds todo cs (Aj E H S')):JL J Q b n L ds todo cs (Aj E H S):=by
 subst O;have e:(S'++ [([]:Seg)]).flatten=S'.flatten:=by rw [Gg,List.append_nil]
 have e2:Aj E H (S'++ [[]])=Aj E H S':=by show mk E H _=mk E H _;rw [e]
 rw [e2];exact h (by unfold Ap at K ⊢;rwa [e] at K)
end
open Go.Proofs Go.Proofs.Tryz
variable {J:Judge Tryz.prog}
def LR(fu_:Nat)(U:AT×Int)(O:(List ((Int×Int)×Int))×Int):Option (Bq ((List ((Int×Int)×Int))×Int) ((List ((Int×Int)×Int)))):= if O.2<(U.1.2.length:Int) then((ix U.1.2 O.2).bind λK=> (Av (((Bf O.1 (K.1,K.2.1)).getD 0)+K.2.2)).bind λV=> (Av (((Bf (Bp O.1 (K.1,K.2.1) V) (K.2.1,K.1)).getD 0) - K.2.2)).bind λY=> (Av (O.2+1)).bind λZ=> some (.more ((Bp (Bp O.1 (K.1,K.2.1) V) (K.2.1,K.1) Y),Z))) else(some (.done O.1))
noncomputable def f45(fu_:Nat)(p0:AT):Option (Aw×Int):=
 (f70 fu_ p0 ([])).bind λK=>
 if K.2≠0 then(
  some ([],K.2)
 ) else(
  Option.bind (iter (LR fu_ K) fu_ (([]:List ((Int×Int)×Int)),0)) λO=>
  LV O λU=>
  (f90 fu_ (EL U)).bind λV=>
  some (V,0)
 )
theorem Uc{a1:Ao}{c2:Nat}{cn:Ao}{co:Nat}{p0:AT}(cF:Al (rL rI) E a1 c2 p0.1)(cG:Al Au E cn co p0.2){fu_:Nat}{r:Aw×Int}(cp:f45 fu_ p0=some r):AM J 43 [.agg #[sV a1 p0.1 c2,sV cn p0.2 co]] E [] (λw E' B'=>∃(cq:Ao) (cr:Nat),w= .tuple #[sV cq r.1 cr,iV r.2]/\B'= []/\Al Au E' cq cr r.1):=by
 refine Kh func43 rfl rfl λQ dR cs H a5 a8=>?_;unfold f45 at cp;refine C 2 rfl (CC a5 λdS dT a9 cH a6=>?_);refine C 5 rfl (BT cH Dk BP rfl rfl ?_);obtain⟨a3,cI,cJ⟩:=bs cp;refine A2 (HD (cF.Ag a9) (cG.Ag a9) Al.nil cI) rfl rfl Hk a6 ?_;rintro _ dU _ ct ⟨dV,dW,b1,b2,rfl,rfl,dX,cK⟩ cM;refine C 3 rfl (Bz cM FL λdY cN=>?_);refine Bv 3 cN Cr λcO=>?_;refine B7 3 cO rfl λb3 b4 cP cu=>C 8 rfl (AU cJ (λcQ cR=>?_) (λcQ cT=>?_))
 ·refine C 6 rfl ?_;obtain rfl:=oi cR;exact AS func43 rfl rfl (a8 _ _ _ _ ((a9.Ad ct).Ad b4) rfl ⟨none,0,rfl,rfl,Al.nil⟩ cu)
 ·refine C 3 rfl (JS.makeMap rfl rfl rfl cu λV cV=>?_);refine C 5 rfl (JL.fd underlying78 BP rfl rfl rfl ?_);refine BQ 1 cP underlying28 EX Gv ?_;refine JL.ln underlying26 rfl rfl rfl ?_;obtain⟨b5,cW,cv⟩:=bs cT;refine C 2 rfl (Bu (λL s=>∃(b6:LH) (bb:Obj),Jn b3 H b6 [[(V,bb)]] [(6,.map (some V))] L s (Bw Dm true rI false b6 bb b5)) ?_ ?_)
  ·rintro _ _ ⟨b6,bb,rfl,rfl,cX,cY,cZ⟩;refine C 6 rfl (MG 0 cY rfl λap cw c0 c1=>?_);have c3:Bw Dm true rI false ap bb b5:=(cZ.Ag cw);obtain⟨c4,cy,b7,c5,am,c6,c7,cz,c8⟩:=c3;have bd:=c0;rw [c6] at bd;refine C 2 rfl (JS.range underlying120 (Iv bd) rfl rfl rfl c1 rfl λaq c9=>?_);refine JL.done (Oy c9 λda=>?_);have dZ:=(Rg cv).1;refine Bu (λL s=>∃(be:List ((Int×Int)×Int)) (b8:Ao) (b9:Nat) (bi:Seg),be.Perm b5/\L= [(9,.slice b8 (EL be).length b9)]/\s=Aj ap H [[],[],bi]/\Ap ap H [[],[],bi]/\OL 42 Au ap b8 b9 bi (EL be)) ?_ ?_
   rotate_left
   ·intro aw;refine JL.block (Ek [(9,.slice none 0 0),(55,Ak aq 0)] rfl ?_);refine JL.loop (λ(q:Array Nat×List ((Int×Int)×Int)×Option Addr×Nat×Seg)=>Hy c5 cy q.1 q.2.1/\OL 42 Au ap q.2.2.1 q.2.2.2.1 q.2.2.2.2 (EL q.2.1)/\Ap ap H [[],[(aq,.mapIter (some V) am q.1 am)],q.2.2.2.2]) (λq=>cy.length - q.2.1.length) (λq=> [(9,.slice q.2.2.1 (EL q.2.1).length q.2.2.2.1),(55,Ak aq 0)]) (λq=>Aj ap H [[],[(aq,.mapIter (some V) am q.1 am)],q.2.2.2.2]) (#[],[],none,0,[]) ⟨Hy.nil,OL.nil,da⟩ rfl rfl ?_;rintro⟨seen,done,a,c,g⟩ ⟨ac,bn,a5⟩ again;simp only at ac bn a5 again ⊢;have ea:=ac.len;have eb:=b7.length_eq;refine C 2 rfl (OE 1 c7 cz c8 (c4.perm b7) ac (Iv bd) a5 rfl rfl rfl rfl rfl (λe U a8 db ec ed he ca cA=>?_) (λhd=>?_))
    ·obtain⟨_,⟨_,_,rfl,rfl,rfl⟩,dc⟩:=a8;obtain⟨_,rfl,ev⟩:=db;have dd:=ca.len;simp only [List.length_append,List.length_singleton] at dd;refine C 8 rfl (JS.entry 1 (Iv bd) he cz cA rfl rfl rfl rfl rfl ?_);refine Am (v:= .agg #[iV U.1.1,iV U.1.2]) rfl (λρ h=>Yl.extract (h _ _ rfl) (congrArg some dc)) (Am (v:=iV U.2) rfl (λρ h=>Yl.extract (h _ _ rfl) (congrArg some ev)) ?_);refine Bz cA Hi λee cb=>?_;refine Bv 3 cb Fw λbo=>?_;refine C 7 rfl (FN (p:=0<U.2) rfl (λbv=>?_) (λbv=>?_))
     ·refine JL.region (C 1 rfl ?_);refine JL.fd underlying122 Ay rfl rfl rfl (Am (v:=iV U.1.1) rfl (λρ h=>Yl.load Bb (h _ _ rfl) (BC (j:=3) (off:=0) bo rfl rfl)) ?_);refine JL.fd underlying122 Ay rfl rfl rfl (Am (v:=iV U.1.2) rfl (λρ h=>Yl.load Bb (h _ _ rfl) (BC (j:=3) (off:=1) bo rfl rfl)) ?_);refine C 1 rfl (Am (v:= .agg #[iV U.1.1,iV U.1.2,iV U.2]) rfl (λρ h=>Ch [(0,1),(1,1),(2,1)] h BM underlying42 ⟨rfl,AJ type3,rfl,AJ type3,rfl,AJ type3,trivial⟩ rfl rfl) ?_);refine JS.app (pp:=Au) (v:= .agg #[iV U.1.1,iV U.1.2,iV U.2]) (a:=a) (c:=c) 2 (Ww bv (by omega)) rfl rfl rfl rfl (λ_=>rfl) rfl (λ_=>rfl) rfl rfl rfl underlying96 underlying96 underlying96 Bi (Dt type42) BM rfl (by decide) (by decide) (by decide) (by decide) bn ⟨_,_,rfl,rfl,⟨_,_,rfl,rfl,rfl⟩⟩ bo rfl λw de c2 g2 df dg=>C 3 rfl (JS.drop 3 dg rfl λa6=>?_);exact SB (S':= [[],[(aq,.mapIter (some V) am (seen.push e.born) am)],g2]) rfl a6 λcc=>Az (again (seen.push e.born,done++ [U],de,c2,g2) ⟨ca,df,cc⟩ (by simp only [List.length_append,List.length_singleton];omega)) rfl
     ·refine JL.skip (Lu ?_);refine JS.drop 3 bo rfl λa6=>SB (S':= [[],[(aq,.mapIter (some V) am (seen.push e.born) am)],g]) rfl a6 λcc=>EO (L':= [(9,.slice a (EL (done++ [U])).length c),(55,Ak aq 0)]) ⟨by rw [RR bv];rfl,rfl,trivial⟩ ?_;exact again (seen.push e.born,done++ [U],a,c,g) ⟨ca,by rw [RR bv];exact bn,cc⟩ (by simp only [List.length_append,List.length_singleton];omega)
    ·refine Am (v:= .bool false) rfl (λρ h=>Yl.extract (h _ _ rfl) rfl) (C 4 rfl ?_);exact JS.drop 1 a5 rfl λcb=>Az (aw _ _ ⟨done,a,c,g,hd.trans b7,rfl,rfl,cb,bn⟩) rfl
   rintro _ _ ⟨be,b8,b9,bi,dh,rfl,rfl,di,dj⟩;have dk:=(Rg cv).2 _ dh;refine C 3 rfl (Bd 2 dj di rfl λef dm dn dp=>?_);obtain⟨eg,dq,dr⟩:=bs dk;refine A2 (T8 dn dq) rfl rfl (A1 func85 rfl) dp ?_;rintro _ eh _ dt ⟨du,dv,rfl,rfl,dw⟩ dx;refine C 3 rfl ?_;obtain rfl:=oi dr;exact AS func43 rfl rfl (a8 _ _ _ _ ((((((a9.Ad ct).Ad b4).Ad cX).Ad cw).Ad dm).Ad dt) rfl ⟨du,dv,rfl,rfl,dw⟩ dx)
  ·intro dy;refine JL.block (CZ cW (λL s Y=>∃(bw:LH) (bx:Obj),Jn b3 H bw [[(V,bx)]] [(6,.map (some V)),(23,sV b1 a3.1.2 b2),(24,iV (a3.1.2.length:Int)),(25,iV Y.2)] L s (Bw Dm true rI false bw bx Y.1)) ⟨b3,(.map #[] 0),rfl,rfl,AA,cV,Bw.nil⟩ ?_);rintro _ _ Y ⟨bw,bx,rfl,rfl,cd,cB,bz⟩ dz ⟨ei,ce⟩ dA;have cC:=ce;unfold LR at cC;refine C 5 rfl (AU cC (λdB dC=>?_) (λdB dD=>?_))
   ·obtain⟨K,dE,dF⟩:=bs dC;refine C 5 rfl (Dp (cK.Ag (b4.Ad cd)) dE underlying26 Bi ?_);rintro ej ek _ ⟨_,_,rfl,rfl,⟨_,_,rfl,rfl,rfl⟩⟩ dG;refine BT dG Ds Bi rfl rfl (Bz cB BM λdH dI=>?_);refine Bv 1 dI Bi λdJ=>?_;refine B7 1 dJ rfl λay bY a4 cf=>?_;obtain⟨az,cD,dK⟩:=bs dF;refine C 2 rfl (Bu (λL s=>∃(bZ:Obj),L= [(6,.map (some V)),(23,sV b1 a3.1.2 b2),(24,iV (a3.1.2.length:Int)),(25,iV Y.2),(8,Ak dH 0)]/\s=Aj ay H [[(V,bZ)],[]]/\Ap ay H [[(V,bZ)],[]]/\Bw Dm true rI false ay bZ (Bp Y.1 (K.1,K.2.1) az)) ?_ ?_)
    rotate_left
    ·intro aw;refine DK 12 λO=>BR 0 O rfl rfl (JG.fd 1 O underlying42 Ay rfl rfl rfl rfl ?_);refine CK 2 O 0 a4 Bb rfl rfl rfl rfl (JG.fd 3 O underlying42 Ay rfl rfl rfl rfl ?_);refine CK 4 O 1 a4 Bb rfl rfl rfl rfl (AN (v:= .agg #[iV K.1,iV K.2.1]) 5 O rfl rfl (λρ h s' ac=>Ch [(0,1),(1,1)] h Hi underlying122 ⟨rfl,AJ type3,rfl,AJ type3,trivial⟩ rfl rfl) ?_);refine JG.fd 7 O underlying42 Ay rfl rfl rfl rfl (CK 8 O 2 a4 Bb rfl rfl rfl rfl ?_);refine DJ (i:=6) (j:=10) rfl (by decide+kernel) ?_ ?_
     ·refine Take.M0 (z0:=(0:Int)) (x0:=(K.1,K.2.1)) 0 Ia underlying120 Bx ⟨_,rfl,rfl⟩ (bz.Ag bY) ⟨_,⟨_,_,rfl,rfl,rfl⟩,rfl⟩ cf rfl rfl rfl rfl rfl rfl λw hw=>?_;obtain rfl:w=iV ((Bf Y.1 (K.1,K.2.1)).getD 0):=by obtain⟨_,rfl,rfl⟩:=hw;rfl
      refine AN 9 O rfl rfl (λρ h s' ac=>EZ (h _ _ rfl) (h _ _ rfl) cD) (JG.one (i:=10) rfl (by decide+kernel) ?_);refine Take.MK (z0:=(0:Int)) (x0:=(K.1,K.2.1)) 0 Ia underlying120 Bx ⟨_,rfl,rfl⟩ (bz.Ag bY) ⟨_,⟨_,_,rfl,rfl,rfl⟩,rfl⟩ cf rfl rfl rfl rfl rfl rfl λcg w1 ci ag al=>BR 11 O rfl rfl (Cz [12] ?_);refine JS.entryStore (v0:=az) (x0:=(K.1,K.2.1)) 0 ag ⟨_,rfl,rfl⟩ al rfl rfl rfl rfl rfl rfl rfl λa0 Z a2=>JL.done ?_;rw [LD] at Z;exact Az (aw _ _ ⟨a0,rfl,rfl,a2,Z⟩) rfl
     ·refine Take.MK (z0:=(0:Int)) (x0:=(K.1,K.2.1)) 0 Ia underlying120 Bx ⟨_,rfl,rfl⟩ (bz.Ag bY) ⟨_,⟨_,_,rfl,rfl,rfl⟩,rfl⟩ cf rfl rfl rfl rfl rfl rfl λcg w1 ci ag al=>BR 11 O rfl rfl (JG.one (i:=6) rfl (by decide+kernel) ?_);refine Take.M0 (z0:=(0:Int)) (x0:=(K.1,K.2.1)) 0 Ia underlying120 Bx ⟨_,rfl,rfl⟩ ag.map ⟨_,⟨_,_,rfl,rfl,rfl⟩,rfl⟩ al rfl rfl rfl rfl rfl rfl λw hw=>?_;obtain rfl:w=iV ((Bf Y.1 (K.1,K.2.1)).getD 0):=by
       obtain⟨_,rfl,rfl⟩:=hw;show iV _=iV _;rw [KF,if_pos rfl]
       rfl
      refine AN 9 O rfl rfl (λρ h s' ac=>EZ (h _ _ rfl) (h _ _ rfl) cD) (Cz [12] ?_);refine JS.entryStore (v0:=az) (x0:=(K.1,K.2.1)) 0 ag ⟨_,rfl,rfl⟩ al rfl rfl rfl rfl rfl rfl rfl λa0 Z a2=>JL.done ?_;rw [LD] at Z;exact Az (aw _ _ ⟨a0,rfl,rfl,a2,Z⟩) rfl
    rintro _ _ ⟨bZ,rfl,rfl,ck,cm⟩;obtain⟨b0,cE,dL⟩:=bs dK;refine Bu (λL s=>∃(a7:Obj),L= [(6,.map (some V)),(23,sV b1 a3.1.2 b2),(24,iV (a3.1.2.length:Int)),(25,iV Y.2)]/\s=Aj ay H [[(V,a7)],[]]/\Ap ay H [[(V,a7)],[]]/\Bw Dm true rI false ay a7 (Bp (Bp Y.1 (K.1,K.2.1) az) (K.2.1,K.1) b0)) ?_ ?_
    rotate_left
    ·intro aw;refine DK 12 λO=>BR 0 O rfl rfl (JG.fd 1 O underlying42 Ay rfl rfl rfl rfl ?_);refine CK 2 O 1 a4 Bb rfl rfl rfl rfl (JG.fd 3 O underlying42 Ay rfl rfl rfl rfl ?_);refine CK 4 O 0 a4 Bb rfl rfl rfl rfl (AN (v:= .agg #[iV K.2.1,iV K.1]) 5 O rfl rfl (λρ h s' ac=>Ch [(0,1),(1,1)] h Hi underlying122 ⟨rfl,AJ type3,rfl,AJ type3,trivial⟩ rfl rfl) ?_);refine JG.fd 7 O underlying42 Ay rfl rfl rfl rfl (CK 8 O 2 a4 Bb rfl rfl rfl rfl ?_);refine DJ (i:=6) (j:=10) rfl (by decide+kernel) ?_ ?_
     ·refine Take.M0 (z0:=(0:Int)) (x0:=(K.2.1,K.1)) 0 Ia underlying120 Bx ⟨_,rfl,rfl⟩ cm ⟨_,⟨_,_,rfl,rfl,rfl⟩,rfl⟩ ck rfl rfl rfl rfl rfl rfl λw hw=>?_;obtain rfl:w=iV ((Bf (Bp Y.1 (K.1,K.2.1) az) (K.2.1,K.1)).getD 0):=by obtain⟨_,rfl,rfl⟩:=hw;rfl
      refine AN 9 O rfl rfl (λρ h s' ac=>Ej (h _ _ rfl) (h _ _ rfl) cE) (JG.one (i:=10) rfl (by decide+kernel) ?_);refine Take.MK (z0:=(0:Int)) (x0:=(K.2.1,K.1)) 0 Ia underlying120 Bx ⟨_,rfl,rfl⟩ cm ⟨_,⟨_,_,rfl,rfl,rfl⟩,rfl⟩ ck rfl rfl rfl rfl rfl rfl λcg w1 ci ag al=>BR 11 O rfl rfl (Cz [12] ?_);refine JS.entryStore (v0:=b0) (x0:=(K.2.1,K.1)) 0 ag ⟨_,rfl,rfl⟩ al rfl rfl rfl rfl rfl rfl rfl λa0 Z a2=>JL.done ?_;rw [LD] at Z;exact Az (aw _ _ ⟨a0,rfl,rfl,a2,Z⟩) rfl
     ·refine Take.MK (z0:=(0:Int)) (x0:=(K.2.1,K.1)) 0 Ia underlying120 Bx ⟨_,rfl,rfl⟩ cm ⟨_,⟨_,_,rfl,rfl,rfl⟩,rfl⟩ ck rfl rfl rfl rfl rfl rfl λcg w1 ci ag al=>BR 11 O rfl rfl (JG.one (i:=6) rfl (by decide+kernel) ?_);refine Take.M0 (z0:=(0:Int)) (x0:=(K.2.1,K.1)) 0 Ia underlying120 Bx ⟨_,rfl,rfl⟩ ag.map ⟨_,⟨_,_,rfl,rfl,rfl⟩,rfl⟩ al rfl rfl rfl rfl rfl rfl λw hw=>?_;obtain rfl:w=iV ((Bf (Bp Y.1 (K.1,K.2.1) az) (K.2.1,K.1)).getD 0):=by
       obtain⟨_,rfl,rfl⟩:=hw;show iV _=iV _;rw [KF,if_pos rfl]
       rfl
      refine AN 9 O rfl rfl (λρ h s' ac=>Ej (h _ _ rfl) (h _ _ rfl) cE) (Cz [12] ?_);refine JS.entryStore (v0:=b0) (x0:=(K.2.1,K.1)) 0 ag ⟨_,rfl,rfl⟩ al rfl rfl rfl rfl rfl rfl rfl λa0 Z a2=>JL.done ?_;rw [LD] at Z;exact Az (aw _ _ ⟨a0,rfl,rfl,a2,Z⟩) rfl
    rintro _ _ ⟨a7,rfl,rfl,dM,dN⟩;obtain⟨dO,dP,dQ⟩:=bs dL;refine C 2 rfl (Bn dP rfl rfl rfl ?_);refine C 2 rfl ?_;obtain rfl:=oi dQ;exact Az (dA _ _ ((Bp (Bp Y.1 (K.1,K.2.1) az) (K.2.1,K.1) b0),dO) ⟨ay,a7,rfl,rfl,(cd.Ad bY),dM,dN⟩ ce) rfl
   ·refine JL.exit rfl ?_;obtain rfl:=oi dD;obtain rfl:=dz _ ce;exact Az (dy _ _ ⟨bw,bx,rfl,rfl,cd,cB,bz⟩) rfl
variable {J:Judge Tryz.prog}
variable {J:Judge Tryz.prog}
variable {J:Judge Tryz.prog}
variable {J:Judge Tryz.prog}
end Pal
namespace Pal
open Go Go.Conc
variable {P:Program}{Q:Gs_}{b:Frame}{ds:Ld_}{ops:Ao_}{k:Li_}{cs:Lf_}{fuel:Nat}{D:Nat->Bool}{listed:Array Bool}{L:Env}{s:St}{E E' H:LH}{S:List Seg}
variable {x:Operand}{t u ty:TypeId}{p:String}{af:Ae_}{g:On_}{v:Value}{i:Nat}{kd:IntKind}
section
variable {J:Judge P}{n:Nat}{m:Nat}
variable {d:Option Tmp}{y:Operand}{e:TypeId}
end
open Go.Proofs Go.Proofs.Tryz
variable {J:Judge Tryz.prog}
end Pal
namespace Pal
open Go Go.Conc
variable {P:Program}{x:Operand}{t u ty:TypeId}{p:String}{af:Ae_}{g:On_}{s:St}{ρ:Operand->Value}
section
variable {d:Option Tmp}{e:TypeId}
theorem Vz{α:Type}{pp:Rp α}{K:TypeId}{E:LH}{a:Option Addr}{c:Nat}{seg:Seg}{xs:List α}(O:OL K pp E a c seg xs)(U:xs= []->a=none)(V:P.underlying t=some (.slice e))(Y:ρ x= .slice a xs.length c)(Z:ρ (.const (.slice none 0 0))= .slice none 0 0):
  Yl P ⟨d,.binOp .eql t x (.const (.slice none 0 0)) u,ty,p,af,g⟩ ρ s (.bool (decide ((xs.length:Int)=0))):=by
 have key:a.isNone=decide ((xs.length:Int)=0):=by
  rcases OL.cases O with⟨rfl,_,_,rfl⟩ | ⟨bk,f,rfl,_,_⟩
  ·rfl
  ·cases xs with
   | nil=>cases U rfl
   | cons y ys=>simp;omega
 rw [← key];have ac:∀o,eqGuard o t x (.const (.slice none 0 0)) (.slice a xs.length c) (.slice none 0 0)=Sem.pure ():=λo=>by cases o <;> rfl
 refine EN (sm:=do eqGuard .eql t x (.const (.slice none 0 0)) (ρ x) (ρ (.const (.slice none 0 0)));binOp .eql t (ρ x) (ρ (.const (.slice none 0 0)))) rfl ?_
 rw [Y,Z,ac];simp only [bind,Sem.bind];have hb:binOp .eql t (.slice a xs.length c) (.slice none 0 0)=(do pure (.bool (← Op.equal t (.slice a xs.length c) (.slice none 0 0)))):=rfl
 rw [hb];refine Ar (x:=Op.equal t _ _) _ ?_;unfold Op.equal Op.maxDepth Op.equalIn;refine Ar _ _ (Ce V ?_);cases a with
 | none=>exact⟨rfl,rfl⟩
 | some ad=>exact⟨rfl,rfl⟩
end
open Go.Proofs Go.Proofs.Tryz
variable {E:LH}
variable {J:Judge Tryz.prog}
def f93(fu_:Nat)(p0:Int)(p1:Int):Option Int:= Option.bind (if p0=0 then(some (Sum.inl 2)) else(if p0<p1 then((Av (1+1)).bind λK=> Option.bind (if p0<p1 then((Av (K+1)).bind λO=> some O) else(some K)) λU=> some (Sum.inr U)) else(Option.bind (if p0<p1 then((Av (1+1)).bind λV=> some V) else(some 1)) λY=> some (Sum.inr Y)))) λZ=>Sum.elim (λr=>some r) (λac=> some ac) Z
theorem aH{p0:Int}{p1:Int}{fu_:Nat}{r:Int}(U:f93 fu_ p0 p1=some r):AM J 87 [iV p0,iV p1] E [] (λw E' B'=>w=iV r/\B'= []):=by
 refine Be func87 λQ b8 cs H K V=>?_;unfold f93 at U;obtain⟨aq,aw,Y⟩:=bs U;refine C 9 rfl (Bu (λL s=>∃(O:Int) (Z:LH),aq=Sum.inr O/\Jm E H Z [] [(5,iV O)] L s) ?_ ?_)
 ·rintro _ _ ⟨O,Z,rfl,rfl,rfl,ay,az⟩;have a0:=elim_inr Y;refine C 5 rfl ?_;obtain rfl:=oi a0;exact AS func87 rfl rfl (V ay rfl ⟨rfl,rfl⟩ az)
 ·intro ac;refine C 15 rfl (AU aw (λa1 a2=>?_) (λa1 a3=>?_))
  ·refine C 6 rfl ?_;obtain rfl:=oi a2;have a4:=elim_inl Y;obtain rfl:=oi a4;exact AS func87 rfl rfl (V AA rfl ⟨rfl,rfl⟩ K)
  ·refine C 8 rfl (AU a3 (λa5 a6=>?_) (λa5 a7=>?_))
   ·obtain⟨b9,a8,a9⟩:=bs a6;refine C 3 rfl (Bn a8 rfl rfl rfl ?_);obtain⟨ag,bb,bd⟩:=bs a9;refine C 10 rfl (Ec [] [(4,iV 0),(5,iV ag)] (λbe bi bn=>?_) (λal=>?_))
    ·exact JL.exit rfl (Az (ac _ _ ⟨ag,be,(Option.some.inj bd).symm,rfl,rfl,bi,bn⟩) rfl)
    ·refine AU bb (λbo bv=>?_) (λbo bw=>?_)
     ·obtain⟨ca,bx,bz⟩:=bs bv;refine C 2 rfl (Bn bx rfl rfl rfl ?_);refine C 2 rfl ?_;obtain rfl:=oi bz;exact al AA K rfl
     ·refine JL.skip ?_;obtain rfl:=oi bw;exact al AA K rfl
   ·obtain⟨am,bY,bZ⟩:=bs a7;refine C 9 rfl (Ec [] [(4,iV 0),(5,iV am)] (λb0 b1 b2=>?_) (λap=>?_))
    ·exact JL.exit rfl (Az (ac _ _ ⟨am,b0,(Option.some.inj bZ).symm,rfl,rfl,b1,b2⟩) rfl)
    ·refine AU bY (λb3 b4=>?_) (λb3 b5=>?_)
     ·obtain⟨cb,b6,b7⟩:=bs b4;refine C 2 rfl (Bn b6 rfl rfl rfl ?_);refine C 2 rfl ?_;obtain rfl:=oi b7;exact ap AA K rfl
     ·refine JL.skip ?_;obtain rfl:=oi b5;exact ap AA K rfl
def Td(fu_:Nat)(p1:Int)(p2:Int)(O:Aw)(K:Int×Int):Option (Bq (Int×Int) Int):= if K.2<(O.length:Int) then((ix O K.2).bind λU=> Option.bind (if U.1=p1 then(some (decide (U.2.1=p2))) else(some false)) λV=> Option.bind (if V=true then((Av (K.1+1)).bind λY=> some Y) else(some K.1)) λZ=> (Av (K.2+1)).bind λac=> some (.more (Z,ac))) else(some (.done K.1))
def TQ(fu_:Nat)(p1:Int)(p2:Int)(O:AZ)(K:Int×Int):Option (Bq (Int×Int) Int):= if K.2<(O.length:Int) then((ix O K.2).bind λU=> Option.bind (iter (Td fu_ p1 p2 U) fu_ (K.1,0)) λV=> (Av (K.2+1)).bind λY=> some (.more (V,Y))) else(some (.done K.1))
def f50(fu_:Nat)(p0:AT)(p1:Int)(p2:Int):Option (Int×Int):= (f70 fu_ p0 ([p1,p2]:List Int)).bind λK=> if K.2≠0 then(some (0,K.2)) else((f71 fu_ K.1 0).bind λO=> Option.bind (iter (TQ fu_ p1 p2 O) fu_ (0,0)) λU=> (f93 fu_ U (O.length:Int)).bind λV=> some (V,0))
theorem PM{a1:Ao}{c2:Nat}{a4:Ao}{a5:Nat}{p0:AT}{p1:Int}{p2:Int}(bZ:Al (rL rI) E a1 c2 p0.1)(b0:Al Au E a4 a5 p0.2){fu_:Nat}{r:Int×Int}(a6:f50 fu_ p0 p1 p2=some r):AM J 47 [.agg #[sV a1 p0.1 c2,sV a4 p0.2 a5],iV p1,iV p2] E [] (λw E' B'=>w= .tuple #[iV r.1,iV r.2]/\B'= []):=by
 refine Be func47 λQ dx cs H b1 a7=>?_;unfold f50 at a6;refine C 2 rfl (CC b1 λdy dz ag b2 b3=>?_);refine C 5 rfl (BT b2 Dk BP rfl rfl ?_);refine C 2 rfl (Da (pp:=rI) [iV p1,iV p2] [p1,p2] rfl rfl rfl underlying22 Ay Bx (by decide) rfl rfl rfl ⟨rfl,rfl,trivial⟩ b3 λdA dB b4 b5=>?_);refine Bd 2 b4 b5 rfl λdC al b6 b7=>?_;obtain⟨dD,b8,b9⟩:=bs a6;refine A2 (HD (bZ.Ag (ag.Ad al)) (b0.Ag (ag.Ad al)) b6 b8) rfl rfl Hk b7 ?_;rintro _ dE _ a8 ⟨dF,dG,dH,dI,rfl,rfl,ca,cb⟩ cc;refine C 3 rfl (Bz cc FL λdJ cd=>?_);refine Bv 4 cd Cr λce=>?_;refine B7 4 ce rfl λdK am cf a9=>C 8 rfl (AU b9 (λcg ci=>?_) (λcg ck=>?_))
 ·refine C 6 rfl ?_;obtain rfl:=oi ci;exact AS func47 rfl rfl (a7 (((ag.Ad al).Ad a8).Ad am) rfl ⟨rfl,rfl⟩ a9)
 ·refine C 3 rfl (BT cf Ew Cr rfl rfl ?_);obtain⟨K,cm,cn⟩:=bs ck;refine A2 (Nr (ca.Ag am) (cb.Ag am) cm) rfl rfl Lm a9 ?_;rintro _ dL ac co ⟨O,U,_,rfl,rfl,cp⟩ cq;refine C 10 rfl (JL.ln underlying91 rfl rfl rfl ?_);obtain⟨cr,ct,cu⟩:=bs cn;refine C 2 rfl (Ec [ac] [(10,sV O K U),(11,iV cr)] (λdM cv cw=>?_) (λcy=>?_))
  ·refine C 4 rfl (JL.ln underlying91 rfl rfl rfl ?_);obtain⟨dN,cz,cA⟩:=bs cu;refine BH (aH cz) rfl rfl (A1 func87 rfl) cw λdO cB cC=>C 3 rfl (JS.drop 0 cC rfl λcD=>?_);obtain rfl:=oi cA;exact AS func47 rfl rfl (a7 ((((((ag.Ad al).Ad a8).Ad am).Ad co).Ad cv).Ad cB) rfl ⟨rfl,rfl⟩ cD)
  ·refine JL.block (Dx ct (λV=> [ac]) (λV=> [(1,iV p1),(2,iV p2),(10,sV O K U),(11,iV V.1),(29,sV O K U),(30,iV (K.length:Int)),(31,iV V.2)]) AA cq ?_);rintro V dP aw ay cE ⟨dQ,az⟩ cF;have bb:=az;unfold TQ at bb;refine C 5 rfl (AU bb (λcG cH=>?_) (λcG cI=>?_))
   ·obtain⟨Y,cJ,cK⟩:=bs cH;refine C 5 rfl (KS 0 (cp.Ag aw) cJ rfl rfl rfl rfl rfl rfl underlying91 Bh ?_);rintro dR dS f95 _ cM ⟨ap,aq,rfl,cN⟩ cO dT dU dV dW;refine Am (v:= sV ap Y aq) rfl (λρ h=>Yl.load BF (h _ _ rfl) (BC (j:=0) ay cM (cO 0 _ rfl))) (C 5 rfl ?_);refine JL.ln underlying96 rfl rfl rfl ?_;obtain⟨bd,cP,cQ⟩:=bs cK;refine C 2 rfl (Ec [ac] [(1,iV p1),(2,iV p2),(10,sV O K U),(11,iV bd),(29,sV O K U),(30,iV (K.length:Int)),(31,iV V.2)] (λdX cR cT=>?_) (λcV=>?_))
    ·obtain⟨cW,cX,cY⟩:=bs cQ;refine C 2 rfl (Bn cX rfl rfl rfl ?_);refine C 2 rfl ?_;obtain rfl:=oi cY;exact cF (bd,cW) (aw.Ad cR) cT rfl az
    ·refine JL.block (Dx cP (λZ=> [ac]) (λZ=> [(1,iV p1),(2,iV p2),(10,sV O K U),(11,iV Z.1),(29,sV O K U),(30,iV (K.length:Int)),(31,iV V.2),(35,sV ap Y aq),(36,iV (Y.length:Int)),(37,iV Z.2)]) AA ay ?_);rintro Z dY a0 be cZ ⟨dZ,a2⟩ c0;have bi:=a2;unfold Td at bi;refine C 5 rfl (AU bi (λc1 c3=>?_) (λc1 c4=>?_))
     ·obtain⟨ea,c5,c6⟩:=bs c3;refine C 5 rfl (Dp (cN.Ag a0) c5 underlying96 Bi ?_);rintro eb ec _ ⟨_,_,rfl,rfl,⟨_,_,rfl,rfl,rfl⟩⟩ c7;refine BT c7 Ds Bi rfl rfl (Bz be BM λed c8=>?_);refine Bv 1 c8 Bi λc9=>?_;refine B7 1 c9 rfl λa3 da bn bo=>C 3 rfl (BQ 0 bn underlying42 Ay Bb ?_);obtain⟨db,dc,dd⟩:=bs c6;refine C 3 rfl (Fx [] (λL s=>∃(bv:LH),Jm a3 H bv [ac] [(1,iV p1),(2,iV p2),(10,sV O K U),(11,iV Z.1),(29,sV O K U),(30,iV (K.length:Int)),(31,iV V.2),(35,sV ap Y aq),(36,iV (Y.length:Int)),(37,iV Z.2),(50,.bool db)] L s) ?_ ?_)
      ·rintro _ _ ⟨bv,rfl,rfl,de,bw⟩;obtain⟨bx,df,dg⟩:=bs dd;refine JL.done (Ec [ac] [(1,iV p1),(2,iV p2),(10,sV O K U),(11,iV bx),(29,sV O K U),(30,iV (K.length:Int)),(31,iV V.2),(35,sV ap Y aq),(36,iV (Y.length:Int)),(37,iV Z.2)] (λee dh di=>?_) (λbz=>?_))
       ·obtain⟨dj,dk,dm⟩:=bs dg;refine C 2 rfl (Bn dk rfl rfl rfl ?_);refine C 2 rfl ?_;obtain rfl:=oi dm;exact c0 (bx,dj) (((a0.Ad da).Ad de).Ad dh) di rfl a2
       ·refine Cd df (λdn dp=>?_) (λdn dq=>?_)
        ·obtain⟨ef,dr,dt⟩:=bs dp;refine C 2 rfl (Bn dr rfl rfl rfl ?_);refine C 2 rfl ?_;obtain rfl:=oi dt;exact bz AA bw rfl
        ·refine JL.skip ?_;obtain rfl:=oi dq;exact bz AA bw rfl
      ·intro bY;refine G1 45 dc (λdu dv=>?_) (λdu dw=>?_)
       ·refine BQ 1 bn underlying42 Ay Bb ?_;refine C 3 rfl ?_;obtain rfl:=oi dv;exact Az (bY _ _ ⟨a3,rfl,rfl,AA,bo⟩) rfl
       ·refine C 5 rfl ?_;obtain rfl:=oi dw;exact Az (bY _ _ ⟨a3,rfl,rfl,AA,bo⟩) rfl
     ·refine JL.exit rfl ?_;obtain rfl:=oi c4;obtain rfl:=cZ _ a2;exact cV a0 be rfl
   ·refine JL.exit rfl ?_;obtain rfl:=oi cI;obtain rfl:=cE _ az;exact cy aw ay rfl
def f58(fu_:Nat)(p0:AT)(p1:Int)(p2:Int):Option (Int×Int):= (f70 fu_ p0 ([p1,p2]:List Int)).bind λK=> if K.2≠0 then(some (0,K.2)) else((f106 fu_ p1 p2).bind λU=> (f71 fu_ K.1 U).bind λO=> if((O.length:Nat):Int)=0 then(some (0,11)) else((ix O (0)).bind λV=> some ((V.length:Int),0)))
theorem aD{a1:Ao}{c2:Nat}{ag:Ao}{al:Nat}{p0:AT}{p1:Int}{p2:Int}(az:Al (rL rI) E a1 c2 p0.1)(a0:Al Au E ag al p0.2){fu_:Nat}{r:Int×Int}(am:f58 fu_ p0 p1 p2=some r):AM J 48 [.agg #[sV a1 p0.1 c2,sV ag p0.2 al],iV p1,iV p2] E [] (λw E' B'=>w= .tuple #[iV r.1,iV r.2]/\B'= []):=by
 refine Be func48 λQ ci cs H a2 Y=>?_;unfold f58 at am;refine C 2 rfl (CC a2 λck cm K a3 a4=>?_);refine C 5 rfl (BT a3 Dk BP rfl rfl ?_);refine C 2 rfl (Da (pp:=rI) [iV p1,iV p2] [p1,p2] rfl rfl rfl underlying22 Ay Bx (by decide) rfl rfl rfl ⟨rfl,rfl,trivial⟩ a4 λcn co a5 a6=>?_);refine Bd 2 a5 a6 rfl λcp O a7 a8=>?_;obtain⟨cq,a9,bb⟩:=bs am;refine A2 (HD (az.Ag (K.Ad O)) (a0.Ag (K.Ad O)) a7 a9) rfl rfl Hk a8 ?_;rintro _ cr _ Z ⟨ct,cu,cv,cw,rfl,rfl,bd,be⟩ bi;refine C 3 rfl (Bz bi FL λcy bn=>?_);refine Bv 4 bn Cr λbo=>?_;refine B7 4 bo rfl λcz U bv ap=>C 8 rfl (AU bb (λbw bx=>?_) (λbw bz=>?_))
 ·refine C 6 rfl ?_;obtain rfl:=oi bx;exact AS func48 rfl rfl (Y (((K.Ad O).Ad Z).Ad U) rfl ⟨rfl,rfl⟩ ap)
 ·refine C 2 rfl (DK 4 λaq=>?_);refine H9 0 aq bv Ew Cr rfl rfl rfl (A3 aq rfl [1,2] rfl ?_);obtain⟨cA,bY,bZ⟩:=bs bz;refine JG.call (i:=3) (vs:= [iV p1,iV p2]) (Pe bY) (by decide+kernel) rfl rfl rfl N6 rfl ap ?_;rintro _ cB _ V ⟨rfl,rfl⟩ b0;refine Cz [4,5] ?_;obtain⟨b1,b2,b3⟩:=bs bZ;refine A2 (Tf (bd.Ag (U.Ad V)) (be.Ag (U.Ad V)) b2) rfl rfl Lm b0 ?_;rintro _ cC cD aw ⟨cE,cF,_,rfl,rfl,ay,b4⟩ ac;refine C 6 rfl (Am (v:= .bool (decide (((b1.length:Nat):Int)=0))) rfl (λρ h=>Vz ay b4 underlying91 (h _ _ rfl) (h _ _ rfl)) ?_);refine JL.done (AU b3 (λb5 b6=>?_) (λb5 b7=>?_))
  ·refine C 5 rfl (JS.drop 6 ac rfl λb8=>?_);obtain rfl:=oi b6;exact AS func48 rfl rfl (Y (((((K.Ad O).Ad Z).Ad U).Ad V).Ad aw) rfl ⟨rfl,rfl⟩ b8)
  ·obtain⟨b9,ca,cb⟩:=bs b7;refine C 4 rfl (KS 6 ay ca rfl rfl rfl rfl rfl rfl underlying91 Bh ?_);rintro cG cH f75 _ cc ⟨cd,ce,rfl,cI⟩ cf cJ cK cM cN;refine Am (v:= sV cd b9 ce) rfl (λρ h=>Yl.load BF (h _ _ rfl) (BC (j:=6) ac cc (cf 0 _ rfl))) (JL.ln underlying96 rfl rfl rfl ?_);refine C 3 rfl (JS.drop 6 ac rfl λcg=>?_);obtain rfl:=oi cb;exact AS func48 rfl rfl (Y (((((K.Ad O).Ad Z).Ad U).Ad V).Ad aw) rfl ⟨rfl,rfl⟩ cg)
variable {J:Judge Tryz.prog}
end Pal
namespace Pal
def Cx{α:Type}(o:Option α)(Q:α->Prop):Prop:=∃a,o=some a/\Q a
variable {α β:Type}{Q R:α->Prop}
theorem Ct{a:α}(h:Q a):Cx (some a) Q:=⟨a,V,h⟩
theorem Cx.Ag{o:Option α}(h:Cx o R)(k:∀a,R a->Q a):Cx o Q:=let ⟨a,K,O⟩:=h;⟨a,K,k a O⟩
theorem Cx.of_eq{o:Option α}{a:α}(h:o=some a)(k:Q a):Cx o Q:=⟨a,h,k⟩
theorem ID{o:Option β}{f:β->Option α}{S:β->Prop}(h:Cx o S)(k:∀b,S b->Cx (f b) Q):Cx (o.bind f) Q:=by
 obtain⟨b,rfl,hb⟩:=h;obtain⟨a,K,O⟩:=k b hb;exact⟨a,K,O⟩
theorem Df{o:Option β}{f:β->Option α}{b:β}(h:o=some b)(k:Cx (f b) Q):Cx (o.bind f) Q:=by subst h;exact k
theorem Cx.bV{f:Int->Option α}{x:Int}(K: -9223372036854775808<=x)(O:x<=9223372036854775807)(k:Cx (f x) Q):Cx ((Av x).bind f) Q:=Df (if_pos ⟨K,O⟩) k
theorem L8{xs:List β}{i:Int}{m:Nat}{b:β}(h:i=(m:Int))(hb:xs[m]? =some b):ix xs i=some b:=by subst h;simpa [ix] using hb
theorem Ju{f:β->Option α}{xs:List β}{i:Int}{m:Nat}(h:i=(m:Int))(hm:m<xs.length)(k:Cx (f xs[m]) Q):Cx ((ix xs i).bind f) Q:=Df (L8 h (List.getElem?_eq_getElem hm)) k
theorem GY{c:Prop} [Decidable c] {x y:Option α}(K:c->Cx x Q)(O:¬c->Cx y Q):Cx (if c then x else y) Q:=by
 by_cases h:c
 ·rw [if_pos h];exact K h
 ·rw [if_neg h];exact O h
theorem Kf{c:Prop} [Decidable c] {x y:Option α}(h:c)(k:Cx x Q):Cx (if c then x else y) Q:=by rw [if_pos h];exact k
theorem Js{c:Prop} [Decidable c] {x y:Option α}(h:¬c)(k:Cx y Q):Cx (if c then x else y) Q:=by rw [if_neg h];exact k
def Bq.sat{S A:Type}(I:S->Prop)(Q:A->Prop):Bq S A->Prop
 | .more s=>I s
 | .done a=>Q a
theorem RS{S:Type}{body:S->Option (Bq S α)}(I:Nat->S->Prop)(round:∀m s,I m s->Cx (body s) (Bq.sat (λs'=>∃m',m'<m/\I m' s') Q)):
  ∀{m fuel:Nat} {s:S},I m s->m<fuel->Cx (iter body fuel s) Q:=by
 intro m
 induction m using Nat.strongRecOn with
 | _ m O=>
  intro fuel s U ac;obtain⟨fuel,rfl⟩:∃k,fuel=k+1:=⟨fuel - 1,by omega⟩;obtain⟨st,V,K⟩:=round m s U;unfold Pal.iter;rw [V];cases st with
  | more s'=>
   obtain⟨m',Y,Z⟩:=K;exact O m' Y Z (by omega)
  | done a=>exact⟨a,rfl,K⟩
theorem KR{S A:Type}{body:S->Option (Bq S A)}{Q:A->Prop}{K:S}{F:Nat}(n:Nat)(I:Nat->S->Prop)(V:I 0 K)(Z:n<F)
  (round:∀i s,i<n->I i s->Cx (body s) (Bq.sat (I (i+1)) Q)) (last:∀s,I n s->Cx (body s) (λst=>∃a,st= .done a/\Q a)):Cx (Pal.iter body F K) Q:=by
 refine RS (λm s=>∃i,i<=n/\m=n - i/\I i s) ?_ (m:=n - 0) ⟨0,Nat.zero_le _,rfl,V⟩ (by omega);rintro m s ⟨i,hi,rfl,O⟩;rcases Nat.lt_or_ge i n with Y | ac
 ·refine(round i s Y O).Ag ?_;intro st U;cases st with
  | more s'=>exact⟨n - (i+1),by omega,i+1,by omega,rfl,U⟩
  | done a=>exact U
 ·obtain rfl:i=n:=by omega
  refine(last s O).Ag ?_;rintro st ⟨a,rfl,h⟩;exact h
theorem KH{α:Type}{o:Option α}{a:α}(h:Cx o (λx=>x=a)):o=some a:=by obtain⟨x,K,rfl⟩:=h;exact K
theorem Fz{α:Type}{Q:α->Prop}{f:Int->Option α}{x:Int}(y:Int)(h:x=y)(K: -9223372036854775808<=y)(O:y<=9223372036854775807)(k:Cx (f y) Q):Cx ((Av x).bind f) Q:=by subst h;exact Cx.bV K O k
abbrev DT:=Int×Int×Int
abbrev OW:=Bc×List DT
structure NV (n:Nat) (o:OW):Prop where
 l1:o.1.length<=n
 n1:∀x∈o.1,x.length<=n
 l2:o.2.length<=n
theorem Ni(F:Nat)(a lo hi:Int):f92 F a lo hi=some (decide (lo<=a/\a<=hi)):=by
 unfold f92;by_cases h:lo<=a
 ·rw [if_pos h];simp [h]
 ·rw [if_neg h];simp [h]
theorem Xq{F:Nat}{o:OW}{i:Int}{l:List Int}(h:ix o.1 i=some l):No F l=LY F o i:=by
 funext j;unfold No LY;rw [h];rfl
theorem WJ(F:Nat)(o:OW):Nj F o=LS F o:=by
 funext i;unfold Nj LS;split
 ·rcases h:ix o.1 i with _ | l
  ·rfl
  ·simp only [Option.bind_some];rw [Xq h]
 ·rfl
theorem YZ(F:Nat)(o:OW):f47 F o=f48 F o:=by
 unfold f47 f48;rw [WJ];rfl
def VD(n:Nat)(d:DT):Prop:=0<=d.1/\d.1<(n:Int)/\0<=d.2.1/\d.2.1<(n:Int)/\d.1≠d.2.1/\1<=d.2.2/\d.2.2<=9
def CS(x:List Int):Prop:=x.length<=3/\∀c∈x,1<=c/\c<=9
structure VO (o:OW):Prop where
 n2:2<=o.1.length
 n5:o.1.length<=5
 cs:∀x∈o.1,CS x
 d8:o.2.length<=8
 ds:∀d∈o.2,VD o.1.length d
theorem VO.nv{o:OW}(h:VO o):NV 40 o:=⟨by have:=h.n5;omega,λx K=>by have:=(h.cs x K).1;omega,by have:=h.d8;omega⟩
theorem OR{α:Type}{P:α->Prop}{l:List α}{i:Nat}(hi:i<l.length)(h:∀x∈l.take i,P x)(k:P l[i]):∀x∈l.take (i+1),P x:=by
 intro x K;rw [List.take_add_one,List.getElem?_eq_getElem hi] at K;simp only [Option.toList_some,List.mem_append,List.mem_singleton] at K;rcases K with K | rfl
 ·exact h x K
 ·exact k
theorem ZF{F:Nat}{d:DT}{n:Nat}(V:n<1000):Cx (f88 F (n:Int) d 9) (λr=>r=0↔VD n d):=by
 unfold f88;refine Fz ((n:Int) - 1) rfl (by omega) (by omega) (Df (Ni _ _ _ _) ?_);refine ID (S:=λc=>c=true↔¬((0<=d.1/\d.1<(n:Int))/\0<=d.2.1/\d.2.1<(n:Int))) ?_ ?_
 ·refine GY (λh=>Ct ?_) (λh=>?_)
  ·simp at h;simp;omega
  ·refine Fz ((n:Int) - 1) rfl (by omega) (by omega) (Df (Ni _ _ _ _) ?_);refine Ct ?_;simp at h;simp;omega
 ·intro c O;refine GY (λh=>Ct ?_) (λh=>?_)
  ·have:=O.1 h;unfold VD;constructor
   ·intro h;cases h
   ·intro h;omega
  have Y:¬¬_:=λk=>h (O.2 k);refine GY (λU=>Ct ?_) (λU=>?_)
  ·unfold VD;constructor
   ·intro h;cases h
   ·intro h;omega
  refine Df (Ni _ _ _ _) (GY (λK=>Ct ?_) (λK=>Ct ?_))
  ·simp at K;unfold VD;constructor
   ·intro h;cases h
   ·intro h;omega
  ·simp at K;unfold VD;constructor
   ·intro h;omega
   ·intro h;rfl
theorem Zo{F:Nat}{o:OW}(Y:100<F)(h:NV 40 o):Cx (f48 F o) (λr=>r=0↔VO o):=by
 unfold f48;have Z:=h.l1;have ac:=h.l2;refine GY (λg=>Ct (iff_of_false (by decide) λv=>by have:=v.n2;omega)) (λag=>?_);refine GY (λg=>Ct (iff_of_false (by decide) λv=>by have:=v.n5;omega)) (λg2=>?_);refine ID (S:=λq=>(∃e,q=Sum.inl e/\e≠0/\¬∀x∈o.1,CS x)∨(q=Sum.inr ()/\∀x∈o.1,CS x)) ?_ ?_
 ·refine KR o.1.length (λi s=>s=(i:Int)/\∀x∈o.1.take i,CS x) ⟨rfl,by simp⟩ (by omega) ?_ ?_
  ·rintro i s hi ⟨rfl,K⟩;unfold LS;refine Kf (by omega) (Ju (m:=i) rfl hi ?_);have al:=h.n1 _ (List.getElem_mem hi);refine GY (λg=>Ct (.inl ⟨_,rfl,by decide,λk=>by have:=(k _ (List.getElem_mem hi)).1;omega⟩)) (λam=>?_);refine ID (S:=λq=>(q=Sum.inl 1/\¬CS o.1[i])∨(q=Sum.inr ()/\CS o.1[i])) ?_ ?_
   ·refine KR o.1[i].length (λj s=>s=(j:Int)/\∀c∈o.1[i].take j,1<=c/\c<=9) ⟨rfl,by simp⟩ (by omega) ?_ ?_
    ·rintro j s U ⟨rfl,O⟩;unfold LY;refine Ju (m:=i) rfl hi (Kf (by omega) ?_);refine Ju (m:=i) rfl hi (Ju (m:=j) rfl U ?_);refine Df (Ni _ _ _ _) (GY (λg=>Ct (.inl ⟨rfl,λk=>?_⟩)) (λg=>?_))
     ·have:=k.2 _ (List.getElem_mem U);simp at g;omega
     refine Fz ((j+1:Nat):Int) (by simp) (by omega) (by omega) (Ct ⟨rfl,OR U O ?_⟩);simpa using g
    ·rintro s ⟨rfl,O⟩;unfold LY;refine Ju (m:=i) rfl hi ?_;rw [List.take_length] at O;exact Js (by omega) (Ct ⟨_,rfl,.inr ⟨rfl,by omega,O⟩⟩)
   ·rintro q (⟨rfl,g⟩ | ⟨rfl,g⟩)
    ·rw [Sum.elim_inl];exact Ct (.inl ⟨_,rfl,by decide,λk=>g (k _ (List.getElem_mem hi))⟩)
    ·rw [Sum.elim_inr];exact Fz ((i+1:Nat):Int) (by simp) (by omega) (by omega) (Ct ⟨rfl,OR hi K g⟩)
  ·rintro s ⟨rfl,K⟩;unfold LS;rw [List.take_length] at K;exact Js (by omega) (Ct ⟨_,rfl,.inr ⟨rfl,K⟩⟩)
 ·rintro q (⟨e,rfl,he,g⟩ | ⟨rfl,O⟩)
  ·rw [Sum.elim_inl];exact Ct (iff_of_false he λv=>g v.cs)
  ·rw [Sum.elim_inr];refine GY (λg=>Ct (iff_of_false (by decide) λv=>by have:=v.d8;omega)) (λg2=>?_);refine ID (S:=λq=>(∃e,q=Sum.inl e/\e≠0/\¬∀d∈o.2,VD o.1.length d)∨(q=Sum.inr ()/\∀d∈o.2,VD o.1.length d)) ?_ ?_
   ·refine KR o.2.length (λi s=>s=(i:Int)/\∀d∈o.2.take i,VD o.1.length d) ⟨rfl,by simp⟩ (by omega) ?_ ?_
    ·rintro i s hi ⟨rfl,K⟩;unfold Pm;refine Kf (by omega) (Ju (m:=i) rfl hi ?_);refine ID (ZF (by omega)) ?_;intro x V;refine GY (λg=>Ct (.inl ⟨_,rfl,g,λk=>g (V.2 (k _ (List.getElem_mem hi)))⟩)) (λg=>?_);exact Fz ((i+1:Nat):Int) (by simp) (by omega) (by omega) (Ct ⟨rfl,OR hi K (V.1 (Decidable.not_not.1 g))⟩)
    ·rintro s ⟨rfl,K⟩;unfold Pm;rw [List.take_length] at K;exact Js (by omega) (Ct ⟨_,rfl,.inr ⟨rfl,K⟩⟩)
   ·rintro q (⟨e,rfl,he,g⟩ | ⟨rfl,g⟩)
    ·rw [Sum.elim_inl];exact Ct (iff_of_false he λv=>g v.ds)
    ·rw [Sum.elim_inr];exact Ct (iff_of_true rfl ⟨by omega,by omega,O,by omega,g⟩)
theorem Tu{F:Nat}{o:OW}(K:100<F)(h:NV 40 o):Cx (f47 F o) (λr=>r=0↔VO o):=YZ F o▸Zo K h
theorem aT{F:Nat}{o:OW}(K:100<F)(h:VO o):f47 F o=some 0:=by
 obtain⟨r,O,U⟩:=Tu K h.nv;rw [O,U.2 h]
theorem aJ{F:Nat}{o:OW}(K:100<F)(h:VO o):f70 F o []=some (o,0):=by
 obtain⟨F,rfl⟩:∃k,F=k+1:=⟨F - 1,by omega⟩;unfold f70;rw [aT K h]
 rfl
def BD(d:DT):Prop:= -1000000000000000<=d.1/\d.1<=1000000000000000/\ -1000000000000000<=d.2.1/\d.2.1<=1000000000000000/\ -1000000000000000<=d.2.2/\d.2.2<=1000000000000000
theorem Qz{α:Type}(l:List α):l= []∨∃A y,l=A++ [y]:=by
 rcases List.eq_nil_or_concat l with h | ⟨A,y,h⟩
 ·exact .inl h
 ·exact .inr ⟨A,y,by rw [h,List.concat_eq_append]⟩
def NH{α:Type}(less:α->α->Option Bool)(s:Int×List α):Option (Bq (Int×List α) (List α)):=
 Option.bind (
  if 0<s.1 then(
   (ix s.2 (s.1)).bind λx=>
   (Av (s.1 - 1)).bind λj=>
   (ix s.2 (j)).bind λy=>
   (less x y).bind λc=>
   some c
  ) else(
   some false
  )
 ) λc=>
 if c=true then(
  (Av (s.1 - 1)).bind λj=>
  (Av (s.1 - 1)).bind λk=>
  (ix s.2 (k)).bind λy=>
  (ix s.2 (s.1)).bind λx=>
  (ix (s.2.set (Int.toNat s.1) y) (j)).bind λ_=>
  (Av (s.1 - 1)).bind λm=>
  some (.more (m,((s.2.set (Int.toNat s.1) y).set (Int.toNat j) x)))
 ) else(
  some (.done s.2)
 )
theorem Yg{α:Type}{less:α->α->Option Bool}{lt:α->α->Bool}{F:Nat}{P:List α}{x:α}(R:List α)(aw:P.length<F)(ay:P.length<=1024)(am:∀y∈P,less x y=some (lt x y)):
  Cx (Pal.iter (NH less) F ((P.length:Int),P++x::R)) (λr=>∃A B,P=A++B/\r=A++x::(B++R)/\(∀b∈B,lt x b=true)/\(A= []∨∃K y,A=K++ [y]/\lt x y=false)):=by
 refine RS (λm s=>∃A B,A.length=m/\s.1=((m:Nat):Int)/\s.2=A++x::(B++R)/\P=A++B/\∀b∈B,lt x b=true) ?_ (m:=P.length) ⟨P,[],rfl,rfl,rfl,by simp,by simp⟩ (by omega);rintro m ⟨c,v⟩ ⟨A,B,U,ac,O,V,ag⟩;simp only at ac O;subst ac;have az:A.length+B.length=P.length:=by rw [V,List.length_append]
 have al:v[m]? =some x:=by rw [O,List.getElem?_append_right (by omega),U,Nat.sub_self];rfl
 unfold NH;refine ID (S:=λc=>(c=true/\∃K y,A=K++ [y]/\lt x y=true)∨(c=false/\(A= []∨∃K y,A=K++ [y]/\lt x y=false))) ?_ ?_
 ·refine GY (λh=>?_) (λh=>?_)
  ·simp only at h;rcases Qz A with rfl | ⟨K,y,rfl⟩
   ·simp at U;omega
   have ap:K.length+1=m:=by simpa using U
   have Z:v[m - 1]? =some y:=by rw [O,List.append_assoc,List.getElem?_append_right (by omega),show m - 1 - K.length=0 by omega];rfl
   refine Df (L8 rfl al) (Fz ((m - 1:Nat):Int) (by simp only;omega) (by omega) (by omega) ?_);refine Df (L8 rfl Z) (Df (am y (by rw [V];simp)) ?_);refine Ct ?_;cases Y:lt x y with
   | true=>exact .inl ⟨rfl,K,y,rfl,Y⟩
   | false=>exact .inr ⟨rfl,.inr ⟨K,y,rfl,Y⟩⟩
  ·refine Ct (.inr ⟨rfl,.inl ?_⟩);cases A with
   | nil=>rfl
   | cons a A=>simp at U h;omega
 ·rintro c (⟨rfl,K,y,rfl,Y⟩ | ⟨rfl,aq⟩)
  ·have ap:K.length+1=m:=by simpa using U
   have Z:v[m - 1]? =some y:=by rw [O,List.append_assoc,List.getElem?_append_right (by omega),show m - 1 - K.length=0 by omega];rfl
   have a0:m<v.length:=by rw [O];simp;omega
   refine Kf rfl (Fz ((m - 1:Nat):Int) (by simp only;omega) (by omega) (by omega) ?_);refine Fz ((m - 1:Nat):Int) (by simp only;omega) (by omega) (by omega) (Df (L8 rfl Z) ?_);refine Df (L8 rfl al) (Ju (m:=m - 1) rfl (by simp only [List.length_set];omega) ?_);refine Fz ((m - 1:Nat):Int) (by simp only;omega) (by omega) (by omega) (Ct ⟨m - 1,by omega,K,y::B,by omega,rfl,?_,by rw [V];simp,λb hb=>?_⟩)
   ·simp only;rw [show Int.toNat ((m:Nat):Int)=K.length+1 by omega,show Int.toNat ((m - 1:Nat):Int)=K.length by omega,O];simp
   ·rcases List.mem_cons.1 hb with rfl | hb
    ·exact Y
    ·exact ag b hb
  ·exact Js (by simp) (Ct ⟨A,B,V,O,ag,aq⟩)
def GI(a b:DT):Bool:=decide (a.1<b.1∨(a.1=b.1/\(a.2.1<b.2.1∨(a.2.1=b.2.1/\a.2.2<b.2.2))))
theorem So{a b:DT}:GI a b=true↔a.1<b.1∨(a.1=b.1/\(a.2.1<b.2.1∨(a.2.1=b.2.1/\a.2.2<b.2.2))):=by unfold GI;exact decide_eq_true_iff
theorem Jv{a b:DT}:GI a b=false↔¬(a.1<b.1∨(a.1=b.1/\(a.2.1<b.2.1∨(a.2.1=b.2.1/\a.2.2<b.2.2)))):=by unfold GI;exact decide_eq_false_iff_not
theorem Yb{F:Nat}{a b:DT}(K:BD a)(hb:BD b):Cx (f113 F a b) (λc=>(c<0↔GI a b=true)/\(c=0↔a=b)):=by
 obtain⟨a1,O,U,V,Y,Z⟩:=K;obtain⟨ac,ag,al,am,ap,aq⟩:=hb;obtain⟨ax,ay,az⟩:=a;obtain⟨a0,a2,a3⟩:=b;simp only at a1 O U V Y Z ac ag al am ap aq;unfold f113;simp only [So,Prod.mk.injEq];refine GY (λh=>?_) (λh=>?_)
 ·exact Fz _ rfl (by omega) (by omega) (Ct ⟨by omega,by omega⟩)
 refine GY (λaw=>?_) (λaw=>?_)
 ·exact Fz _ rfl (by omega) (by omega) (Ct ⟨by omega,by omega⟩)
 ·exact Fz _ rfl (by omega) (by omega) (Ct ⟨by omega,by omega⟩)
def FU(x:DT):List DT->List DT
 | []=> [x]
 | y::ys=>if GI x y=true then x::y::ys else y::FU x ys
def Er(l:List DT):List DT:=l.foldl (λa x=>FU x a) []
def Lh(l:List DT):Prop:=l.Pairwise λa b=>GI b a=false
theorem OG{x d:DT}:∀{l:List DT},d∈FU x l↔d=x∨d∈l
 | []=>by simp [FU]
 | y::ys=>by
  unfold FU
  split
  ·simp
  ·rw [List.mem_cons,OG,List.mem_cons];constructor
   ·rintro(h | h | h)
    ·exact .inr (.inl h)
    ·exact .inl h
    ·exact .inr (.inr h)
   ·rintro(h | h | h)
    ·exact .inr (.inl h)
    ·exact .inl h
    ·exact .inr (.inr h)
theorem RP{x:DT}:∀{l:List DT},(FU x l).length=l.length+1
 | []=>rfl
 | y::ys=>by
  unfold FU
  split
  ·rfl
  ·rw [List.length_cons,RP];rfl
theorem SN{x:DT}:∀{l:List DT},Lh l->Lh (FU x l)
 | [],_=>List.pairwise_singleton _ _
 | y::ys,h=>by
  obtain⟨U,V⟩:=List.pairwise_cons.1 h
  unfold FU
  split
  ·rename_i O
   refine List.pairwise_cons.2 ⟨λz K=>?_,h⟩;have O:=So.1 O;rcases List.mem_cons.1 K with rfl | K
   ·rw [Jv];omega
   ·have:=Jv.1 (U z K);rw [Jv];omega
  ·rename_i O;refine List.pairwise_cons.2 ⟨λz K=>?_,SN V⟩;rcases OG.1 K with rfl | K
   ·exact Bool.eq_false_iff.2 O
   ·exact U z K
theorem Sr{x:DT}{B:List DT}(K:∀b∈B,GI x b=true):∀{A:List DT},(∀a∈A,GI x a=false)->FU x (A++B)=A++x::B
 | [],_=>by
  cases B with
  | nil=>rfl
  | cons b bs=>simp only [List.nil_append,FU,K b List.mem_cons_self,if_true]
 | a::A,O=>by
  have U:=O a List.mem_cons_self
  simp only [List.cons_append,FU,U]
  rw [if_neg (by decide),Sr K λz V=>O z (List.mem_cons_of_mem _ V)]
theorem Lx(l:List DT)(x:DT):Er (l++ [x])=FU x (Er l):=by unfold Er;rw [List.foldl_append];rfl
theorem M1{α:Type}{P:List α->Prop}(O:P [])(U:∀l x,P l->P (l++ [x])):∀l,P l:=by
 have:∀n (l:List α),l.length=n->P l:=by
  intro n
  induction n with
  | zero=>intro l K;cases List.length_eq_zero_iff.1 K;exact O
  | succ n V=>
   intro l K;rcases Qz l with rfl | ⟨l',x,rfl⟩
   ·cases K
   ·exact U _ _ (V _ (by simpa using K))
 exact λl=>this _ l rfl
theorem RI(l:List DT):Lh (Er l):=M1 (P:=λl=>Lh (Er l)) List.Pairwise.nil (λl x h=>by rw [Lx];exact SN h) l
theorem Wz{d:DT}(l:List DT):d∈Er l↔d∈l:=M1 (P:=λl=>d∈Er l↔d∈l) (Iff.rfl) (λl x h=>by rw [Lx,OG,h];simp [or_comm]) l
theorem VG(l:List DT):(Er l).length=l.length:=M1 (P:=λl=>(Er l).length=l.length) V (λl x h=>by rw [Lx,RP,h];simp) l
theorem V6(F:Nat):M9 F 0=NH λx y=>(f113 F x y).bind λc=>some (decide (c<0)):=by
 funext s;unfold M9 NH;simp only [Option.bind_assoc,Option.bind_some]
theorem Vq{A B:List DT}{x y:DT}(O:Lh ((A++ [y])++B))(U:GI x y=false):∀a∈A++ [y],GI x a=false:=by
 rw [List.append_assoc] at O;intro a K;rcases List.mem_append.1 K with K | K
 ·have V:=(List.pairwise_append.1 O).2.2 a K y (by simp);have Y:=Jv.1 V;have Z:=Jv.1 U;rw [Jv];omega
 ·cases List.mem_singleton.1 K;exact U
theorem XU{F:Nat}{l:List DT}(az:100<F)(a0:l.length<=20)(hb:∀d∈l,BD d):f193 F l 0 (l.length:Int)=some (Er l):=by
 refine KH ?_;unfold f193;refine Fz 1 rfl (by omega) (by omega) (ID (S:=λr=>r=Er l) ?_ (λr V=>Ct V));refine KR (l.length - 1) (λi s=>s.1=((i+1:Nat):Int)/\s.2=Er (l.take (i+1))++l.drop (i+1)) ⟨rfl,?_⟩ (by omega) ?_ ?_
 ·cases l with
  | nil=>rfl
  | cons x xs=>rfl
 ·rintro i ⟨c,w⟩ hi ⟨K,hw⟩;simp only at K hw;subst K;have O:i+1<l.length:=by omega
  unfold Nb;refine Kf (by simp only;omega) ?_;have Y:l.drop (i+1)=l[i+1]::l.drop (i+2):=List.drop_eq_getElem_cons O;have a1:(Er (l.take (i+1))).length=i+1:=by rw [VG,List.length_take];omega
  have Z:∀d∈Er (l.take (i+1)),BD d:=λd hd=>hb d (List.mem_of_mem_take ((Wz _).1 hd));have ac:BD l[i+1]:=hb _ (List.getElem_mem O);have ag:Er (l.take (i+2))=FU l[i+1] (Er (l.take (i+1))):=by
   rw [List.take_add_one (i:=i+1),List.getElem?_eq_getElem O];exact Lx _ _
  have al:=RI (l.take (i+1));generalize l[i+1]=x at*;generalize Er (l.take (i+1))=P at*;generalize l.drop (i+2)=R at*;refine ID (S:=λr=>r=FU x P++R) ?_ ?_
  ·rw [V6,hw,Y];have am:((i+1:Nat):Int)=(P.length:Int):=by omega
   rw [am];refine(Yg (lt:=GI) R (by omega) (by omega) λy U=>?_).Ag ?_
   ·obtain⟨c,ap,aq,_⟩:=Yb (F:=F) ac (Z y U);rw [ap,Option.bind_some];congr 1;rw [Bool.eq_iff_iff,decide_eq_true_eq];exact aq
   ·rintro r ⟨A,B,rfl,rfl,aw,ay⟩;rw [Sr aw ?_]
    ·simp
    ·rcases ay with rfl | ⟨a2,y,rfl,U⟩
     ·simp
     ·exact Vq al U
  ·rintro r rfl;refine Fz ((i+1+1:Nat):Int) (by simp) (by omega) (by omega) (Ct ⟨rfl,?_⟩);simp only;rw [ag]
 ·rintro⟨c,w⟩ ⟨K,hw⟩;simp only at K hw;subst K;unfold Nb;refine Js (by simp only;omega) (Ct ⟨_,rfl,?_⟩);simp only;rw [hw,List.take_of_length_le (by omega),List.drop_eq_nil_of_le (by omega),List.append_nil]
theorem XQ{F:Nat}:∀n,n<=12->∃r,f115 F (FV ((n:Nat):Int))=some r
 | 0,_ | 1,_ | 2,_ | 3,_ | 4,_ | 5,_ | 6,_ | 7,_ | 8,_ | 9,_ | 10,_ | 11,_ | 12,_=>⟨_,rfl⟩
 | _+13,h=>absurd h (by omega)
theorem Zw{F:Nat}{l:List DT}(K:100<F)(O:l.length<=12)(hb:∀d∈l,BD d):f90 F l=some (Er l):=by
 obtain⟨F,rfl⟩:∃k,F=k+1:=⟨F - 1,by omega⟩;obtain⟨x,U⟩:=XQ (F:=F+1) l.length O;refine KH ?_;unfold f90;refine Df (b:=l) (by unfold f129 L4 Dw;rw [if_pos (by simp;omega)];rfl) (Df (b:=Er l) ?_ (Ct V));refine KH ?_;unfold f130;refine Df U (Df (b:=Er l) ?_ (Ct V));refine KH ?_;unfold f169;refine ID (S:=λr=>r=Sum.inl (Er l)) ?_ (by rintro r rfl;rw [Sum.elim_inl];exact Ct rfl);refine KR 0 (λ_ _=>True) trivial (by omega) (by intro i s h;omega) ?_;rintro s -;unfold OP;refine Fz (l.length:Int) (by omega) (by omega) (by omega) (Kf (by omega) ?_);exact Df (XU K (by omega) hb) (Ct ⟨_,V,V⟩)
def s1(A:Nat->Bool)(d:DT):Int:=(if A d.2.1.toNat then d.2.2 else 0)+(if A d.1.toNat then -d.2.2 else 0)
def tw(a b:Int)(d:DT):Int:=(if d.1=a/\d.2.1=b then d.2.2 else 0) - (if d.1=b/\d.2.1=a then d.2.2 else 0)
def Ef(l:List DT)(a b:Int):Int:=(l.map (tw a b)).sum
theorem V4(l:List DT)(d:DT)(a b:Int):Ef (l++ [d]) a b=Ef l a b+tw a b d:=by unfold Ef;rw [List.map_append,List.sum_append];simp
theorem Q6(l:List DT)(d:DT)(a b:Int):Ef (d::l) a b=tw a b d+Ef l a b:=by unfold Ef;rw [List.map_cons,List.sum_cons]
theorem VU{l:List DT}{i:Nat}(hi:i<l.length)(a b:Int):Ef (l.take (i+1)) a b=Ef (l.take i) a b+tw a b l[i]:=by
 rw [List.take_add_one,List.getElem?_eq_getElem hi,Option.toList_some,V4]
theorem OK{a b:Int}:∀{l:List DT},(∀d∈l,1<=d.2.2/\d.2.2<=9)-> -(9*(l.length:Int))<=Ef l a b/\Ef l a b<=9*(l.length:Int)
 | [],_=>by simp [Ef]
 | d::l,h=>by
  have O:=h d List.mem_cons_self
  have U:=OK (a:=a) (b:=b) (l:=l) λx K=>h x (List.mem_cons_of_mem _ K)
  rw [Q6,List.length_cons]
  have V: -9<=tw a b d/\tw a b d<=9:=by unfold tw;split <;> split <;> omega
  omega
theorem OJ{a b:Int}:∀{l:List DT},(∀d∈l,1<=d.2.2)->0<Ef l a b->∃d∈l,d.1=a/\d.2.1=b
 | [],_,h=>by simp [Ef] at h
 | d::l,O,h=>by
  by_cases hd:d.1=a/\d.2.1=b
  ·exact⟨d,List.mem_cons_self,hd⟩
  ·rw [Q6] at h;have V:=O d List.mem_cons_self;have:tw a b d<=0:=by unfold tw;rw [if_neg hd];split <;> omega
   obtain⟨x,K,U⟩:=OJ (a:=a) (b:=b) (l:=l) (λx K=>O x (List.mem_cons_of_mem _ K)) (by omega);exact⟨x,List.mem_cons_of_mem _ K,U⟩
def Mc(l:List DT)(a b:Nat):Option DT:=if 0<Ef l a b/\a≠b then some ((a:Int),(b:Int),Ef l a b) else none
def P4(l:List DT)(a k:Nat):List DT:=(List.range k).filterMap (Mc l a)
def P2(l:List DT)(n k:Nat):List DT:=(List.range k).flatMap λa=>P4 l a n
def G8(o:OW):List DT:=P2 o.2 o.1.length o.1.length
theorem O4{o:OW}{d:DT}:d∈G8 o↔(0<=d.1/\d.1<o.1.length)/\(0<=d.2.1/\d.2.1<o.1.length)/\d.1≠d.2.1/\0<d.2.2/\d.2.2=Ef o.2 d.1 d.2.1:=by
 unfold G8 P2;rw [List.mem_flatMap];constructor
 ·rintro⟨a,K,hd⟩;obtain⟨b,hb,hd⟩:=List.mem_filterMap.1 hd;have K:=List.mem_range.1 K;have hb:=List.mem_range.1 hb;unfold Mc at hd;split at hd
  ·rename_i h;cases hd;exact⟨⟨by simp only;omega,by simp only;omega⟩,⟨by simp only;omega,by simp only;omega⟩,by simp only;omega,h.1,rfl⟩
  ·cases hd
 ·rintro⟨⟨a1,U⟩,⟨V,Y⟩,Z,ac,O⟩;obtain⟨x,y,v⟩:=d;simp only at a1 U V Y Z ac O;obtain⟨a,rfl⟩:∃a:Nat,x=(a:Int):=⟨x.toNat,by omega⟩;obtain⟨b,rfl⟩:∃b:Nat,y=(b:Int):=⟨y.toNat,by omega⟩;refine⟨a,List.mem_range.2 (by omega),List.mem_filterMap.2 ⟨b,List.mem_range.2 (by omega),?_⟩⟩;unfold Mc;rw [if_pos ⟨by omega,by omega⟩,← O]
theorem QC(o:OW):(G8 o).Pairwise λx y=>x.1<y.1∨(x.1=y.1/\x.2.1<y.2.1):=by
 unfold G8 P2;rw [List.pairwise_flatMap];have K:∀{a:Nat} {k:Nat} {d:DT},d∈P4 o.2 a k->d.1=(a:Int):=by
  intro a k d hd;obtain⟨b,_,hd⟩:=List.mem_filterMap.1 hd;unfold Mc at hd;split at hd
  ·cases hd;rfl
  ·cases hd
 refine⟨λa _=>?_,?_⟩
 ·unfold P4;rw [List.pairwise_filterMap];refine List.pairwise_lt_range.imp λ{b c} V d hd e he=>?_;unfold Mc at hd he;split at hd
  ·cases hd;split at he
   ·cases he;exact .inr ⟨rfl,by simp only;omega⟩
   ·cases he
  ·cases hd
 ·refine List.pairwise_lt_range.imp λ{a b} Y x O y U=> .inl ?_;rw [K O,K U];omega
theorem QS(o:OW):((G8 o).map λd=>(d.1,d.2.1)).Nodup:=by
 unfold List.Nodup;rw [List.pairwise_map];exact(QC o).imp λ{x y} h e=>by
  have:=Prod.mk.inj e;omega
theorem Ya{o:OW}(h:VO o):(G8 o).length<=8:=by
 have K:=List.Nodup.length_le_of_subset (QS o) (l₂:=o.2.map λd=>(d.1,d.2.1)) λx O=>by
  obtain⟨d,hd,rfl⟩:=List.mem_map.1 O;obtain⟨_,_,_,U,V⟩:=O4.1 hd;obtain⟨e,he,Y,e2⟩:=OJ (l:=o.2) (λd hd=>by obtain⟨_,_,_,_,_,v,_⟩:=h.ds d hd;exact v) (V▸U);exact List.mem_map.2 ⟨e,he,by rw [Y,e2]⟩
 rw [List.length_map,List.length_map] at K;have:=h.d8;omega
theorem Q3(x:DT):∀l:List DT,(FU x l).Perm (x::l)
 | []=> .refl _
 | y::ys=>by
  unfold FU
  split
  ·exact .refl _
  ·exact((Q3 x ys).cons y).trans (.swap x y ys)
theorem Vh(l:List DT):(Er l).Perm l:=M1 (P:=λl=>(Er l).Perm l) (.refl _) (λl x h=>by
 rw [Lx]
 exact(Q3 x _).trans ((h.cons x).trans (List.perm_append_comm (l₁:= [x])))) l
theorem XD{a b:DT}(K:GI b a=false)(O:GI a b=false):a=b:=by
 rw [Jv] at K O;obtain⟨a1,U,V⟩:=a;obtain⟨Y,Z,ac⟩:=b;simp only at K O;have ag:a1=Y:=by omega
 have e2:U=Z:=by omega
 have al:V=ac:=by omega
 rw [ag,e2,al]
theorem YF(o:OW):Lh (G8 o):=(QC o).imp λ{x y} h=>by rw [Jv];omega
theorem Yh{l:List DT}{o:OW}(h:l.Perm (G8 o)):Er l=G8 o:=
 List.Perm.eq_of_pairwise (λa b _ _ K O=>XD K O) (RI l) (YF o) ((Vh l).trans h)
theorem Rd{α β:Type}(f:α->β){l:List α}(h:(l.map f).Nodup):l.Nodup:=Oa f h
theorem X4{F:Nat}{o:OW}{e:Int}(ap:100<F)(h:VO o):Cx (Pal.iter (LR F (o,e)) F (([]:List ((Int×Int)×Int)),0)) (λm=>KN m/\m.length<=16/\∀a b,(Bf m (a,b)).getD 0=Ef o.2 a b):=by
 have aq:=h.d8;refine(KR o.2.length (λi s=>s.2=(i:Int)/\KN s.1/\s.1.length<=2*i/\∀a b,(Bf s.1 (a,b)).getD 0=Ef (o.2.take i) a b) (Q:=λm=>KN m/\m.length<=16/\∀a b,(Bf m (a,b)).getD 0=Ef o.2 a b) ⟨rfl,List.nodup_nil,Nat.zero_le _,λa b=>by simp [Bf,Ef]⟩ (by omega) ?_ ?_)
 ·rintro i ⟨m,z⟩ hi ⟨K,O,U,hm⟩;simp only at K O U hm;subst K;obtain⟨_,_,_,_,Y,v6,aw⟩:=h.ds _ (List.getElem_mem hi);have hb:=λa b=>OK (a:=a) (b:=b) (l:=o.2.take i) λd hd=>by
   obtain⟨_,_,_,_,_,ac,ag⟩:=h.ds _ (List.mem_of_mem_take hd);exact⟨ac,ag⟩
  simp only [List.length_take] at hb;have ay:=hb o.2[i].1 o.2[i].2.1;have az:=hb o.2[i].2.1 o.2[i].1;have al:(o.2[i].2.1,o.2[i].1)≠(o.2[i].1,o.2[i].2.1):=λe=>Y (Prod.mk.inj e).2;unfold LR
  dsimp only;refine Kf (by omega) (Ju (m:=i) rfl hi ?_);refine Fz (Ef (o.2.take i) o.2[i].1 o.2[i].2.1+o.2[i].2.2) (by rw [hm]) (by omega) (by omega) (Fz (Ef (o.2.take i) o.2[i].2.1 o.2[i].1 - o.2[i].2.2) (by rw [KF,if_neg al,hm]) (by omega) (by omega) ?_);refine Fz ((i+1:Nat):Int) (by simp) (by omega) (by omega) ?_;have Z:∀(k:Int×Int) (v:Int) (q:List ((Int×Int)×Int)),(Bp q k v).length<=q.length+1:=by
   intro k v q
   induction q with
   | nil=>simp [Bp]
   | cons y ys a0=>unfold Bp;split <;> simp <;> omega
  refine Ct ⟨rfl,(O.put _ _).put _ _,?_,λa b=>?_⟩
  ·simp only;have a1:=Z (o.2[i].1,o.2[i].2.1) (Ef (o.2.take i) o.2[i].1 o.2[i].2.1+o.2[i].2.2) m;have g2:=Z (o.2[i].2.1,o.2[i].1) (Ef (o.2.take i) o.2[i].2.1 o.2[i].1 - o.2[i].2.2) (Bp m (o.2[i].1,o.2[i].2.1) (Ef (o.2.take i) o.2[i].1 o.2[i].2.1+o.2[i].2.2));omega
  ·simp only;rw [KF,KF,VU hi];unfold tw;by_cases V:(a,b)=(o.2[i].2.1,o.2[i].1)
   ·obtain⟨rfl,rfl⟩:=Prod.mk.inj V;rw [if_pos rfl,if_neg (λq=>Y q.1),if_pos ⟨rfl,rfl⟩,Option.getD_some];omega
   ·rw [if_neg V];have am:¬(o.2[i].1=b/\o.2[i].2.1=a):=λq=>V (by rw [q.1,q.2]);rw [if_neg am];by_cases e2:(a,b)=(o.2[i].1,o.2[i].2.1)
    ·obtain⟨rfl,rfl⟩:=Prod.mk.inj e2;rw [if_pos rfl,if_pos ⟨rfl,rfl⟩,Option.getD_some];omega
    ·rw [if_neg e2,if_neg (λq=>e2 (by rw [q.1,q.2])),hm];omega
 ·rintro⟨m,z⟩ ⟨K,O,U,hm⟩;simp only at K O U hm;subst K;unfold LR
  dsimp only;exact Js (by omega) (Ct ⟨_,rfl,O,by omega,λa b=>by rw [hm,List.take_length]⟩)
theorem V2{o:OW}(h:VO o){m l:List ((Int×Int)×Int)}(Y:KN m)(hm:∀a b,(Bf m (a,b)).getD 0=Ef o.2 a b)(O:l.Perm m):(EL l).Perm (G8 o):=by
 have ag:KN l:=Y.perm O;have al:∀d:DT,d∈EL l↔d∈G8 o:=by
  intro d;have am:d∈EL l↔((d.1,d.2.1),d.2.2)∈m/\0<d.2.2:=by
   unfold EL;rw [List.mem_map];constructor
   ·rintro⟨e,he,rfl⟩;obtain⟨he,U⟩:=List.mem_filter.1 he;exact⟨O.mem_iff.1 he,by simpa using U⟩
   ·rintro⟨he,U⟩;exact⟨((d.1,d.2.1),d.2.2),List.mem_filter.2 ⟨O.mem_iff.2 he,by simpa using U⟩,rfl⟩
  rw [am,O4,← OI Y];have K:=hm d.1 d.2.1;constructor
  ·rintro⟨ap,g2⟩;rw [ap,Option.getD_some] at K;obtain⟨e,he,aq,e2⟩:=OJ (l:=o.2) (λd hd=>by obtain⟨_,_,_,_,_,v,_⟩:=h.ds d hd;exact v) (K▸g2);obtain⟨v1,v2,Z,v4,V,-⟩:=h.ds e he;rw [aq] at v1 v2 V;rw [e2] at Z v4 V;exact⟨⟨v1,v2⟩,⟨Z,v4⟩,V,g2,K⟩
  ·rintro⟨_,_,_,aw,ay⟩;refine⟨?_,aw⟩;cases ac:Bf m (d.1,d.2.1) with
   | none=>rw [ac] at K;simp at K;omega
   | some v=>rw [ac,Option.getD_some] at K;rw [K,ay]
 refine(List.perm_ext_iff_of_nodup ?_ ?_).2 al
 ·refine Rd (λd:DT=>(d.1,d.2.1)) ?_;have e:(EL l).map (λd:DT=>(d.1,d.2.1))=(l.filter λe=>decide (0<e.2)).map (·.1):=by
   unfold EL;rw [List.map_map];rfl
  rw [e];exact List.Nodup.sublist (List.filter_sublist.map _) ag
 ·exact Rd _ (QS o)
theorem Ty{F:Nat}{o:OW}(O:100<F)(h:VO o):f45 F o=some (G8 o,0):=by
 have hlen:=Ya h;refine KH ?_;unfold f45;refine Df (aJ (by omega) h) ?_;refine Js (by simp) ?_;refine ID (X4 O h) ?_;rintro m ⟨U,Z,hm⟩;rw [V3 (by omega) (r:=some (G8 o,0)) λl p=>?_]
 ·exact Ct rfl
 ·have K:=V2 h U hm p;rw [Zw O (by rw [K.length_eq];omega) λd hd=>?_,Yh K]
  ·rfl
  ·have hd:=K.mem_iff.1 hd;obtain⟨⟨a1,ac⟩,⟨ag,al⟩,_,am,ap⟩:=O4.1 hd;have hb:=OK (a:=d.1) (b:=d.2.1) (l:=o.2) λd hd=>by
    obtain⟨_,_,_,_,_,V,Y⟩:=h.ds _ hd;exact⟨V,Y⟩
   have:=h.n5;have:=h.d8;unfold BD;omega
open Go Go.Conc Go.Proofs
variable {E:LH}
variable {J:Judge Tryz.prog}
def Lc(fu_:Nat)(p0:AT)(p1:Aw):Option (Int):=
 (f70 fu_ p0 ([])).bind λK=>
 if K.2≠0 then(
  some K.2
 ) else(
  (NL fu_ K.1 p1).bind λO=>
  (PO fu_ O).bind λU=>
  some U
 )
theorem Nl{a1:Ao}{c2:Nat}{V:Ao}{Y:Nat}{Z:Ao}{ac:Nat}{p0:AT}{p1:Aw}(aq:GE E)(aw:Al (rL rI) E a1 c2 (p0.1))(ay:Al Au E V Y (p0.2))(az:Al Au E Z ac (p1)){fu_:Nat}{r:Int}(ag:Lc fu_ p0 p1=some r):AM J 18 [.agg #[.slice a1 (p0.1).length c2,.slice V (p0.2).length Y],.slice Z (p1).length ac] E [] (λw E' B'=>w=iV r/\B'= []):=by
 refine Be Tryz.func18 λQ b1 cs H a0 al=>?_;unfold Lc at ag;refine C 2 rfl (CC a0 λb2 b3 K a2 a3=>?_);refine C 4 rfl (BT a2 Dk BP rfl rfl ?_);obtain⟨b4,a4,a5⟩:=bs ag;refine A2 (HD (aw.Ag K) (ay.Ag K) Al.nil a4) rfl rfl Hk a3 ?_;rintro _ b5 _ U ⟨b6,b7,b8,b9,rfl,rfl,a6,a7⟩ a8;refine C 3 rfl (Bz a8 FL λca a9=>?_);refine Bv 3 a9 Cr λbb=>?_;refine B7 3 bb rfl λcb O bd am=>C 8 rfl (AU a5 (λbe bi=>?_) (λbe bn=>?_))
 ·refine C 5 rfl ?_;obtain rfl:=oi bi;exact AS Tryz.func18 rfl rfl (al ((K.trans U).trans O) rfl ⟨rfl,rfl⟩ am)
 ·refine C 3 rfl (BT bd Ew Cr rfl rfl ?_);obtain⟨cc,bo,bv⟩:=bs bn;refine C 1 rfl (A2 (S6 (a6.Ag O) (a7.Ag O) (az.Ag ((K.trans U).trans O)) bo) rfl rfl (A1 Tryz.func59 rfl) am ?_);rintro cd ce _ ap ⟨_,rfl,rfl,bw⟩ bx;obtain⟨cf,bz,bY⟩:=bs bv;refine BH (R7 (aq.Ag (((K.trans U).trans O).trans ap)) bw bz) rfl rfl (A1 Tryz.func58 rfl) bx λcg bZ b0=>C 2 rfl ?_;obtain rfl:=oi bY;exact AS Tryz.func18 rfl rfl (al ((((K.trans U).trans O).trans ap).trans bZ) rfl ⟨rfl,rfl⟩ b0)
open Go.Proofs.Tryz
variable {J:Judge Tryz.prog}
def Sj(fu_:Nat)(p0:List Int)(K:Aw×Int):Option (Bq (Aw×Int) (Aw)):= (Av (K.2+2)).bind λO=> if O<(p0.length:Int) then((ix p0 K.2).bind λU=> (Av (K.2+1)).bind λV=> (ix p0 V).bind λY=> (Av (K.2+2)).bind λZ=> (ix p0 Z).bind λac=> (Dw K.1 ([(U,Y,ac)]:Aw)).bind λag=> (Av (K.2+3)).bind λal=> some (.more (ag,al))) else(some (.done K.1))
def JN(fu_:Nat)(p0:List Int):Option (Aw):= Option.bind (iter (Sj fu_ p0) fu_ ([],0)) λK=> some K
theorem Jy{a1:Ao}{c2:Nat}{p0:List Int}(ap:Al rI E a1 c2 p0){fu_:Nat}{r:Aw}(a2:JN fu_ p0=some r):AM J 44 [sV a1 p0 c2] E [] (λw E' B'=>∃(a3:Ao) (a4:Nat) (g0:Seg),w= sV a3 r a4/\B'=g0/\OL 42 Au E' a3 a4 g0 r):=by
 refine Be func44 λQ cC cs H bd be=>?_;unfold JN at a2;obtain⟨a5,bi,bn⟩:=bs a2;refine C 13 rfl (Bu (λL s=>∃(aq:LH) (U:Ao) (V:Nat) (Y:Seg),Jn E H aq [Y] [(3,sV U a5 V)] L s (OL 42 Au aq U V Y a5)) ?_ ?_)
 ·rintro _ _ ⟨aq,U,V,Y,rfl,rfl,bo,bv,bw⟩;refine C 5 rfl ?_;obtain rfl:=oi bn;exact AS func44 rfl rfl (be bo rfl ⟨U,V,Y,rfl,(by first | rfl | simp | (simp [Value.cells])),bw⟩ bv)
 ·intro bx;refine JL.block (CZ bi (λL s Z=>∃(ac:LH) (ag:Ao) (al:Nat) (am:Seg),Jn E H ac [am] [(0,sV a1 p0 c2),(3,sV ag Z.1 al),(4,iV Z.2)] L s (OL 42 Au ac ag al am Z.1)) ⟨E,none,0,[],rfl,rfl,AA,bd,OL.nil⟩ ?_);rintro _ _ Z ⟨ac,ag,al,am,rfl,rfl,O,a6,a7⟩ bz ⟨cD,aw⟩ bY;have a8:=aw;unfold Sj at a8;obtain⟨cE,bZ,b0⟩:=bs a8;refine C 4 rfl (Bn bZ rfl rfl rfl ?_);refine C 1 rfl (JL.ln underlying22 rfl rfl rfl ?_);refine C 2 rfl (AU b0 (λb1 b2=>?_) (λb1 b3=>?_))
  ·refine C 3 rfl (DK 17 λK=>?_);refine A3 K rfl [0,1,2] rfl ?_;obtain⟨ay,b4,b5⟩:=bs b2;refine EK 3 (ap.Ag O) b4 K underlying22 Ay ?_;rintro cF cG _ rfl b6;refine CK 4 K 0 b6 Bb rfl rfl rfl rfl (A3 K rfl [5,6] rfl ?_);obtain⟨cH,b7,b8⟩:=bs b5;refine AN 7 K rfl rfl (λρ h s' a9=>EZ (h _ _ rfl) (h _ _ rfl) b7) ?_;obtain⟨az,b9,ca⟩:=bs b8;refine EK 8 (ap.Ag O) b9 K underlying22 Ay ?_;rintro cI cJ _ rfl cb;refine CK 9 K 0 cb Bb rfl rfl rfl rfl (A3 K rfl [10,11] rfl ?_);obtain⟨cK,cc,cd⟩:=bs ca;refine AN 12 K rfl rfl (λρ h s' a9=>EZ (h _ _ rfl) (h _ _ rfl) cc) ?_;obtain⟨a0,ce,cf⟩:=bs cd;refine EK 13 (ap.Ag O) ce K underlying22 Ay ?_;rintro cM cN _ rfl cg;refine CK 14 K 0 cg Bb rfl rfl rfl rfl (AN (v:= .agg #[iV ay,iV az,iV a0]) 15 K rfl rfl (λρ h s' a9=>Ch [(0,1),(1,1),(2,1)] h BM underlying42 ⟨rfl,AJ type3,rfl,AJ type3,rfl,AJ type3,trivial⟩ rfl rfl) ?_);refine JG.one (i:=16) rfl (by decide+kernel) (Take.Co (pp:=Au) [.agg #[iV ay,iV az,iV a0]] ([(ay,az,a0)]:Aw) a6 rfl rfl rfl underlying26 Bi BM (by decide) rfl rfl rfl ⟨⟨_,_,rfl,rfl,⟨_,_,rfl,rfl,rfl⟩⟩,trivial⟩ λcO cP ci ck=>?_);refine Cz [17,18] (Bd 1 ci ck rfl λcm bb cn co=>?_);obtain⟨cp,cq,cr⟩:=bs cf;refine Hs (pp:=Au) 0 cq rfl rfl rfl rfl rfl rfl rfl underlying26 underlying26 Bi (Dt type42) BM rfl (by decide) (by decide) (a7.Ag bb) cn co rfl λct cu cv cw cy=>?_;obtain⟨cz,cA,cB⟩:=bs cr;refine C 5 rfl (Bn cA rfl rfl rfl ?_);refine C 2 rfl ?_;obtain rfl:=oi cB;exact Az (bY _ _ (cp,cz) ⟨cm,ct,cu,cv,rfl,rfl,(O.Ad bb),cy,cw⟩ aw) rfl
  ·refine JL.exit rfl ?_;obtain rfl:=oi b3;obtain rfl:=bz _ aw;exact Az (bx _ _ ⟨ac,ag,al,am,rfl,rfl,O,a6,a7⟩) rfl
end Pal
set_option autoImplicit false
open Go
namespace Pal
theorem EM.bH{P:Program}{J:Judge P}{E:LH}{f:FuncId}{first vs:Lv_}{B:Seg}{R:Value->LH->Seg->Prop}(hb:Du P f=true)(h:AM J f (first++vs) E B R):EM J (.func (.func f) first.toArray #[]) vs E B R:=λH K Q c cs O=>by
 simp only [Deferred.ofValue,bind,Sem.bind,pure,invoke]
 have e:first.toArray++vs.toArray++ #[]=(first++vs).toArray:=by simp
 rw [e];exact IP hb (h H K Q c cs O)
open Go Go.Conc Go.Proofs Go.Proofs.Tryz
variable {E:LH}
variable {J:Judge Tryz.prog}
def TG(fu_:Nat)(p0:List Int)(K:Int×Int):Option (Bq (Int×Int) Int):= if K.2<(p0.length:Int) then((ix p0 K.2).bind λO=> (Av (K.2+1)).bind λU=> some (.more (max K.1 O,U))) else(some (.done K.1))
def f98(fu_:Nat)(p0:List Int):Option Int:= if(p0.length:Int)<1 then(none) else((ix p0 (0)).bind λK=> Option.bind (iter (TG fu_ p0) fu_ (K,1)) λO=> some O)
theorem Ud{a1:Ao}{c2:Nat}{p0:List Int}(V:Al rI E a1 c2 p0){fu_:Nat}{r:Int}(Y:f98 fu_ p0=some r):AM J 81 [sV a1 p0 c2] E [] (λw E' B'=>w=iV r/\B'= []):=by
 refine Be func81 λQ bx cs H al am=>?_;unfold f98 at Y;refine C 8 rfl (JL.ln underlying22 rfl rfl rfl ?_);refine C 2 rfl (AU Y (λc4 ap=>?_) (λc4 aq=>?_))
 ·refine JL.region ?_;cases ap
 ·obtain⟨bz,aw,ay⟩:=bs aq;refine C 4 rfl (Dp V aw underlying22 Ay ?_);rintro bY bZ _ rfl az;refine CG 0 az Bb rfl rfl rfl ?_;obtain⟨a0,a2,a3⟩:=bs ay;refine C 7 rfl (Ec [] [(3,iV a0)] (λb0 a4 a5=>?_) (λa6=>?_))
  ·refine C 5 rfl ?_;obtain rfl:=oi a3;exact AS func81 rfl rfl (am a4 rfl ⟨rfl,rfl⟩ a5)
  ·refine JL.block (Dx a2 (λK=> []) (λK=> [(0,sV a1 p0 c2),(3,iV K.1),(4,iV K.2)]) AA al ?_);rintro K b1 O Z a7 ⟨b2,U⟩ a8;have ac:=U;unfold TG at ac;refine C 5 rfl (JL.ln underlying22 rfl rfl rfl ?_);refine C 2 rfl (AU ac (λa9 bb=>?_) (λa9 bd=>?_))
   ·obtain⟨ag,be,bi⟩:=bs bb;refine C 7 rfl (Dp (V.Ag O) be underlying22 Ay ?_);rintro b3 b4 _ rfl bn;refine CG 0 bn Bb rfl rfl rfl (Am (v:=iV (max K.1 ag)) rfl (λρ h=>Yl.max2 (h _ _ rfl) (h _ _ rfl)) ?_);obtain⟨bo,bv,bw⟩:=bs bi;refine C 5 rfl (Bn bv rfl rfl rfl ?_);refine C 2 rfl ?_;obtain rfl:=oi bw;exact a8 (max K.1 ag,bo) O Z rfl U
   ·refine JL.exit rfl ?_;obtain rfl:=oi bd;obtain rfl:=a7 _ U;exact a6 O Z rfl
def f97(fu_:Nat)(p0:List Int)(p1:List Int):Option Bool:= (f98 fu_ p0).bind λK=> (f98 fu_ p1).bind λO=> some (decide (O<K))
theorem aM{a1:Ao}{c2:Nat}{K:Ao}{O:Nat}{p0:List Int}{p1:List Int}(Y:Al rI E a1 c2 p0)(Z:Al rI E K O p1){fu_:Nat}{r:Bool}(U:f97 fu_ p0 p1=some r):AM J 80 [sV a1 p0 c2,sV K p1 O] E [] (λw E' B'=>w= .bool r/\B'= []):=by
 refine Be func80 λQ a0 cs H ac ag=>?_;unfold f97 at U;obtain⟨a2,al,am⟩:=bs U;refine C 7 rfl (BH (Ud Y al) rfl rfl (A1 func81 rfl) ac λa3 V ap=>?_);obtain⟨a4,aq,aw⟩:=bs am;refine C 1 rfl (BH (Ud (Z.Ag V) aq) rfl rfl (A1 func81 rfl) ap λa5 ay az=>?_);refine C 3 rfl ?_;obtain rfl:=oi aw;exact AS func80 rfl rfl (ag (V.Ad ay) rfl ⟨rfl,rfl⟩ az)
def f96(fu_:Nat)(p0:(List Int)×Bool)(p1:List Int):Option (((List Int)×Bool)):= Option.bind (if(!p0.2)=true then(some true) else((f97 fu_ p1 p0.1).bind λK=> some K)) λO=> Option.bind (if O=true then(some (p1,true)) else(some p0)) λU=> some U
theorem bA{bk:Nat}{a1:Ao}{c2:Nat}{K:Ao}{O:Nat}{p0:(List Int)×Bool}{p1:List Int}(am:Al rI E a1 c2 p0.1)(ap:Al rI E K O p1){fu_:Nat}{r:((List Int)×Bool)}(aq:f96 fu_ p0 p1=some r):AM J 79 [Ak bk 0,sV K p1 O,(fV 80)] E [(bk,.cells #[sV a1 p0.1 c2,.bool p0.2] 116 (0,0))] (λw E' B'=>∃(aw:Ao) (ay:Nat),w= .tuple #[]/\B'= [(bk,.cells #[sV aw r.1 ay,.bool r.2] 116 (0,0))]/\Al rI E' aw ay r.1):=by
 refine Be func79 λQ b3 cs H V a3=>?_;unfold f96 at aq;refine C 4 rfl (JL.fd underlying116 Ji rfl rfl rfl ?_);refine Am (v:= .bool p0.2) rfl (λρ h=>Yl.load Mp (h _ _ rfl) (BC (j:=0) (off:=1) V rfl rfl)) (Am (v:= .bool (!p0.2)) rfl (λρ h=>Yl.not (h _ _ rfl)) ?_);obtain⟨a4,a5,a6⟩:=bs aq;refine C 1 rfl (Fx [] (λL s=>∃(U:LH),Jm E H U [bX bk #[sV a1 p0.1 c2,.bool p0.2] 116] [(0,Ak bk 0),(1,sV K p1 O),(19,.bool a4)] L s) ?_ ?_)
 ·rintro _ _ ⟨U,rfl,rfl,ac,az⟩;obtain⟨ag,a7,a8⟩:=bs a6;refine JL.done (Bu (λL s=>∃(al:LH) (Y:Ao) (Z:Nat),Jn U H al [bX bk #[sV Y ag.1 Z,.bool ag.2] 116] [] L s (Al rI al Y Z ag.1)) ?_ ?_)
  ·rintro _ _ ⟨al,Y,Z,rfl,rfl,a9,bb,bd⟩;obtain rfl:=oi a8;exact JL.fin (v:= .tuple #[]) rfl rfl (BB.list func79 rfl (vs:= []) trivial) (a3 (ac.Ad a9) rfl ⟨Y,Z,rfl,rfl,bd⟩ bb)
  ·intro a0;refine Cd a7 (λbe bi=>?_) (λbe bn=>?_)
   ·refine C 5 rfl (JL.fd underlying116 De rfl rfl rfl ?_);refine Bv 0 az De λbo=>?_;refine C 1 rfl (JL.fd underlying116 Ji rfl rfl rfl ?_);refine Bv 0 bo Ji λbv=>?_;refine JL.done ?_;obtain rfl:=oi bi;exact Az (a0 _ _ ⟨U,K,O,rfl,rfl,AA,bv,(ap.Ag ac)⟩) rfl
   ·refine JL.skip ?_;obtain rfl:=oi bn;exact Az (a0 _ _ ⟨U,a1,c2,rfl,rfl,AA,az,(am.Ag ac)⟩) rfl
 ·intro a2;refine Ci 11 a5 (λbw bx=>?_) (λbw bz=>?_)
  ·refine C 8 rfl ?_;obtain rfl:=oi bx;exact Az (a2 _ _ ⟨E,rfl,rfl,AA,V⟩) rfl
  ·refine C 4 rfl (JL.fd underlying116 De rfl rfl rfl ?_);refine Am (v:= sV a1 p0.1 c2) rfl (λρ h=>Yl.load It (h _ _ rfl) (BC (j:=0) (off:=0) V rfl rfl)) ?_;obtain⟨b4,bY,bZ⟩:=bs bz;refine Kc (vs:= [sV K p1 O,sV a1 p0.1 c2]) (aM ap am bY) rfl rfl rfl rfl (A1 func80 rfl) rfl V ?_;rintro _ b0 _ b1 ⟨rfl,rfl⟩ b2;refine C 1 rfl ?_;obtain rfl:=oi bZ;exact Az (a2 _ _ ⟨b0,rfl,rfl,b1,b2⟩) rfl
variable {J:Judge Tryz.prog}
def Tq(fu_:Nat)(p0:List Int)(p1:List Int)(p2:Int)(V:AT)(O:List Int)(rec:(List Int)->(List Int)->Int->AT->((List Int)×Bool)->(List Int)->Option (((List Int)×Bool)))(Y:Int)(K:(List Int)×Bool×Int):Option (Bq ((List Int)×Bool×Int) ((List Int)×Bool)):= if K.2.2<Y then((ix p1 K.2.2).bind λZ=> (ix O ((p0.length:Int))).bind λac=> (Av (Z+ac)).bind λag=> (ix p1 K.2.2).bind λaq=> (Av (K.2.2+1)).bind λal=> (Dw p0 ([K.2.2]:List Int)).bind λam=> (rec am (p1.set (Int.toNat K.2.2) ag) (max p2 al) V (K.1,K.2.1) O).bind λU=> (Av (K.2.2+1)).bind λap=> some (.more (U.1,U.2,ap))) else(some (.done (K.1,K.2.1)))
def PH(rec:(List Int)->(List Int)->Int->AT->((List Int)×Bool)->(List Int)->Option (((List Int)×Bool)))(fu_:Nat)(p0:List Int)(p1:List Int)(p2:Int)(O:AT)(K:(List Int)×Bool)(U:List Int):Option (((List Int)×Bool)):= if(p0.length:Int)=(O.1.length:Int) then(Option.bind (if p1=(List.replicate 5 (0:Int)) then((f96 fu_ K p0).bind λV=> some V) else(some K)) λY=> some Y) else((Av (p2+1)).bind λZ=> Option.bind (iter (Tq fu_ p0 p1 p2 O U rec Z) fu_ (K.1,K.2,0)) λac=> some ac)
theorem XY{J:Judge Tryz.prog}{rec:(List Int)->(List Int)->Int->AT->((List Int)×Bool)->(List Int)->Option (((List Int)×Bool))}(cI:∀{E:LH} {a1:Ao} {c2:Nat} {w4:Lv_} {a2:Nat} {a3:Nat} {bi:Ao} {bn:Nat} {bo:Ao} {bv:Nat} {ag:Nat} {a9:Ao} {bb:Nat} {a4:Nat} {a5:Nat} {a6:Nat} {a7:Nat} {aq:Nat} {aw:Nat} {bw:Lv_} {ay:Nat} {az:Nat} {p0:List Int} {p1:List Int} {p2:Int} {al:AT} {a0:(List Int)×Bool} {bx:List Int} (bz:Al rI E a1 c2 p0) (Y:(rA 5 rI).r E w4 p1) (ca:At E a2 a3 [sV bi al.1 bn,sV bo al.2 bv]) (ct:Al (rL rI) E bi bn al.1) (cu:Al Au E bo bv al.2) (b1:Al rI E a9 bb a0.1) (cb:At E a4 a5 [.func (.func 79) ([Ak ag 0]:Lv_).toArray #[]]) (cc:At E a6 a7 [(fV 80)]) (cd:At E aq aw (([]:Lv_)++bw)) (b2:(rA 5 rI).r E bw bx) (ce:At E ay az [.func (.func 82) #[] ([Ak a2 a3,Ak a4 a5,Ak a6 a7,Ak aq aw,Ak ay az]:Lv_).toArray]) {r:((List Int)×Bool)} (cf:rec p0 p1 p2 al a0 bx=some r),AM J 82 [sV a1 p0 c2,.agg w4.toArray,iV p2,Ak a2 a3,Ak a4 a5,Ak a6 a7,Ak aq aw,Ak ay az] E [(ag,.cells #[sV a9 a0.1 bb,.bool a0.2] 116 (0,0))] (λw E' B'=>∃(bY:Ao) (bZ:Nat),w= .tuple #[]/\B'= [(ag,.cells #[sV bY r.1 bZ,.bool r.2] 116 (0,0))]/\Al rI E' bY bZ r.1)){E:LH}{a1:Ao}{c2:Nat}{w4:Lv_}{a2:Nat}{a3:Nat}{bi:Ao}{bn:Nat}{bo:Ao}{bv:Nat}{ag:Nat}{a9:Ao}{bb:Nat}{a4:Nat}{a5:Nat}{a6:Nat}{a7:Nat}{aq:Nat}{aw:Nat}{bw:Lv_}{ay:Nat}{az:Nat}{p0:List Int}{p1:List Int}{p2:Int}{al:AT}{a0:(List Int)×Bool}{bx:List Int}(bz:Al rI E a1 c2 p0)(Y:(rA 5 rI).r E w4 p1)(ca:At E a2 a3 [sV bi al.1 bn,sV bo al.2 bv])(ct:Al (rL rI) E bi bn al.1)(cu:Al Au E bo bv al.2)(b1:Al rI E a9 bb a0.1)(cb:At E a4 a5 [.func (.func 79) ([Ak ag 0]:Lv_).toArray #[]])(cc:At E a6 a7 [(fV 80)])(cd:At E aq aw (([]:Lv_)++bw))(b2:(rA 5 rI).r E bw bx)(ce:At E ay az [.func (.func 82) #[] ([Ak a2 a3,Ak a4 a5,Ak a6 a7,Ak aq aw,Ak ay az]:Lv_).toArray]){fu_:Nat}{r:((List Int)×Bool)}(cf:PH rec fu_ p0 p1 p2 al a0 bx=some r):AM J 82 [sV a1 p0 c2,.agg w4.toArray,iV p2,Ak a2 a3,Ak a4 a5,Ak a6 a7,Ak aq aw,Ak ay az] E [(ag,.cells #[sV a9 a0.1 bb,.bool a0.2] 116 (0,0))] (λw E' B'=>∃(bY:Ao) (bZ:Nat),w= .tuple #[]/\B'= [(ag,.cells #[sV bY r.1 bZ,.bool r.2] 116 (0,0))]/\Al rI E' bY bZ r.1):=by
 refine Be func82 λQ dZ cs H cJ cv=>?_;unfold PH at cf;refine C 2 rfl (CC cJ λcK a8 K cw cg=>?_);refine C 5 rfl (JL.ln underlying22 rfl rfl rfl ?_);refine BQ 0 (ca.Ag K) underlying28 Cc CJ ?_;refine JL.ln underlying25 rfl rfl rfl (C 2 rfl ?_);refine AU cf (λcM cN=>?_) (λcM cO=>?_)
 ·refine C 3 rfl (Am (v:= .agg w4.toArray) rfl (λρ h=>F0 (Rp.Ag _ K Y) Gd Gx (h _ _ rfl) (At.LQ (At.tail (l:= []) cw))) ?_);refine Am (v:= .agg (List.replicate 5 (iV 0):Lv_).toArray) rfl (λρ h=>MS underlying82 Hm Ay rfl) (Am (v:= .bool (decide (p1=(List.replicate 5 (0:Int))))) rfl (λρ h=>XO (E:=a8) (E':=a8) (ws:=w4) (ws':=(List.replicate 5 (iV 0):Lv_)) (a:=p1) (b:=(List.replicate 5 (0:Int))) O7 (by decide) (by decide+kernel) (Rp.Ag _ K Y) (Ez (E:=a8) (pp:=rI) rfl) (h _ _ rfl) (h _ _ rfl)) ?_);obtain⟨ci,cP,cQ⟩:=bs cN;refine JL.done (Bu (λL s=>∃(ck:LH) (b3:Ao) (b4:Nat),Jn a8 H ck [bX ag #[sV b3 ci.1 b4,.bool ci.2] 116] [] L s (Al rI ck b3 b4 ci.1)) ?_ ?_)
  ·rintro _ _ ⟨ck,b3,b4,rfl,rfl,cR,cT,cV⟩;obtain rfl:=oi cQ;exact AS func82 rfl rfl (cv (K.Ad cR) rfl ⟨b3,b4,rfl,(by first | rfl | simp),cV⟩ cT)
  ·intro cy;refine AU cP (λcW cX=>?_) (λcW cY=>?_)
   ·refine JL.region (CG 0 (cb.Ag K) (Cm underlying117) rfl rfl rfl ?_);refine C 1 rfl (CG 0 (cc.Ag K) (Cm underlying34) rfl rfl rfl ?_);obtain⟨ea,cZ,c0⟩:=bs cX;refine IX (vs:= [sV a1 p0 c2,(fV 80)]) 0 (EM.bH (first:= [Ak ag 0]) (A1 func79 rfl) (bA (b1.Ag K) (bz.Ag K) cZ)) rfl rfl rfl rfl rfl cg rfl ?_
    rintro _ c1 _ c3 ⟨c4,c5,rfl,rfl,c6⟩ c7;refine JL.done ?_;obtain rfl:=oi c0;exact Az (cy _ _ ⟨c1,c4,c5,rfl,rfl,c3,c7,c6⟩) rfl
   ·refine JL.skip ?_;obtain rfl:=oi cY;exact Az (cy _ _ ⟨a8,a9,bb,rfl,rfl,AA,cg,(b1.Ag K)⟩) rfl
 ·obtain⟨c8,c9,da⟩:=bs cO;refine C 4 rfl (Bn c9 rfl rfl rfl ?_);obtain⟨cm,db,dc⟩:=bs da;refine C 2 rfl (Bu (λL s=>∃(cn:LH) (b5:Ao) (b6:Nat),Jn a8 H cn [bX ag #[sV b5 cm.1 b6,.bool cm.2] 116] [] L s (Al rI cn b5 b6 cm.1)) ?_ ?_)
  ·rintro _ _ ⟨cn,b5,b6,rfl,rfl,dd,de,df⟩;obtain rfl:=oi dc;exact JL.fin (v:= .tuple #[]) rfl rfl (BB.list func82 rfl (vs:= []) trivial) (cv (K.Ad dd) rfl ⟨b5,b6,rfl,(by first | rfl | simp),df⟩ de)
  ·intro dg;refine JL.block (CZ db (λL s Z=>∃(bd:LH) (b7:Ao) (b8:Nat),Jn a8 H bd [bX ag #[sV b7 Z.1 b8,.bool Z.2.1] 116] [(0,sV a1 p0 c2),(2,iV p2),(6,Ak aq aw),(7,Ak ay az),(9,Ak cK 0),(27,iV c8),(28,iV Z.2.2)] L s (Al rI bd b7 b8 Z.1)) ⟨a8,a9,bb,rfl,rfl,AA,cg,(b1.Ag K)⟩ ?_);rintro _ _ Z ⟨bd,b7,b8,rfl,rfl,O,cz,cA⟩ dh ⟨eb,co⟩ di;have cB:=co;unfold Tq at cB;refine C 5 rfl (AU cB (λdj dk=>?_) (λdj dm=>?_))
   ·refine C 10 rfl (Am (v:= .agg w4.toArray) rfl (λρ h=>F0 (Rp.Ag _ (K.Ad O) Y) Gd Gx (h _ _ rfl) (At.LQ (At.tail (l:= []) (cw.Ag O)))) ?_);refine Bz cz Hm λcp dn=>?_;refine FM (v:= .agg w4.toArray) (l:= []) (ws:=(List.replicate 5 (iV 0):Lv_)) (us:=w4) (o:=0) 1 rfl rfl rfl dn rfl rfl rfl (by rw [BG (kk:=5) (pp:=rI) (Rp.Ag _ (K.Ad O) Y)];exact AJ type82) ((rA 5 rI).one (Rp.Ag _ (K.Ad O) Y)) rfl (by rw [BG (kk:=5) (pp:=rI) (Rp.Ag _ (K.Ad O) Y),BG (kk:=5) (pp:=rI) (Ez (E:=bd) (pp:=rI) rfl)];omega) λb0=>?_;rw [Ho (by rw [BG (kk:=5) (pp:=rI) (Rp.Ag _ (K.Ad O) Y),BG (kk:=5) (pp:=rI) (Ez (E:=bd) (pp:=rI) rfl)])] at b0 ⊢;refine C 2 rfl (FR 7 [cp] ⟨⟨1,_,rfl⟩,trivial⟩ b0 λU=>?_);refine BR 0 U rfl rfl ?_;obtain⟨dp,cC,dq⟩:=bs dk;obtain⟨_,rfl,_,_,dr⟩:=GA (kk:=5) (pp:=rI) (Rp.Ag _ (K.Ad O) Y) cC;refine AN (v:= .pointer (some ⟨cp,0+Int.toNat (Z.2.2)*1,none⟩)) 1 U rfl rfl (λρ h s' am=>Hp (kk:=5) (pp:=rI) (Rp.Ag _ (K.Ad O) Y) cC underlying82 Ay (h _ _ rfl) (h _ _ rfl)) (AN (v:=iV dp) 2 U rfl rfl (λρ h s' am=>Yl.load Bb (h _ _ rfl) (LC (l:= []) 1 b0 rfl (by simp [AG]) am (dr 0 _ rfl))) ?_);refine BR 3 U rfl rfl (AN 4 U rfl rfl (λρ h s' am=>Yl.len rfl underlying22 (h _ _ rfl)) ?_);obtain⟨ec,cD,dt⟩:=bs dq;obtain⟨_,rfl,du,_,_⟩:=T0 (kk:=5) (pp:=rI) (Rp.Ag _ (K.Ad O) b2) (At.tail (l:= []) (cd.Ag (K.Ad O))) cD;refine AN (v:= .pointer (some ⟨aq,(aw+0+Int.toNat ((p0.length:Int))*1),none⟩)) 5 U rfl rfl (λρ h s' am=>Hp (kk:=5) (pp:=rI) (Rp.Ag _ (K.Ad O) b2) cD underlying82 Ay (h _ _ rfl) (h _ _ rfl)) (JG.lp 6 U 0 du b0 ⟨⟨1,_,rfl⟩,trivial⟩ Bb ?_);refine Cz [7,8,9] ?_;obtain⟨be,dv,dw⟩:=bs dt;refine Bn dv rfl rfl rfl ?_;obtain⟨ed,cq,dx⟩:=bs dw;obtain⟨_,rfl,_,_,ee⟩:=GA (kk:=5) (pp:=rI) (Rp.Ag _ (K.Ad O) Y) cq;refine Am (v:= .pointer (some ⟨cp,0+Int.toNat (Z.2.2)*1,none⟩)) rfl (λρ h=>Hp (kk:=5) (pp:=rI) (Rp.Ag _ (K.Ad O) Y) cq underlying82 Ay (h _ _ rfl) (h _ _ rfl)) ?_;have b9:=LX (us:= [iV be]) (y:=be) (Rp.Ag _ (K.Ad O) Y) cq rfl;refine FM (v:=iV be) (l:= []) (ws:=w4) (us:= [iV be]) (o:=Int.toNat (Z.2.2)*1) 1 rfl rfl rfl b0 rfl rfl rfl Ay (by simp [Value.cells,B3]) rfl b9.2 λcE=>?_;replace b9:=b9.1;generalize dy:HH w4 (Int.toNat (Z.2.2)*1) [iV be]=cr at cE ⊢;have cF:(rA 5 rI).r bd cr (p1.set (Int.toNat Z.2.2) be):=by rw [← dy];exact b9
    refine JL.done (B7 1 cE rfl λef V dz dA=>?_);refine DK 15 λU=>CK 0 U 0 (ce.Ag ((K.Ad O).Ad V)) (Cm underlying118) rfl rfl rfl rfl (A3 U rfl [1,2] rfl ?_);refine AN 3 U rfl rfl (λρ h s' am=>Yl.len rfl underlying22 (h _ _ rfl)) (BR 4 U rfl rfl ?_);refine AN 5 U rfl rfl (λρ h s' am=>Yl.len rfl underlying22 (h _ _ rfl)) (AN (v:= .slice a1 p0.length p0.length) 6 U rfl rfl (λρ h s' am=>ME (Al.spot (bz.Ag ((K.Ad O).Ad V))) (And.left (bz.Ag ((K.Ad O).Ad V))) underlying22 Ay (h _ _ rfl) (h _ _ rfl) (h _ _ rfl)) ?_);refine BR 7 U rfl rfl (AN (v:= .agg cr.toArray) 10 U rfl rfl (λρ h s' am=>F0 (Rp.Ag _ V cF) Gd Gx (h _ _ rfl) (At.Pf (At.tail (l:= []) dz) am)) ?_);refine A3 U rfl [11,12] rfl ?_;obtain⟨cG,dB,dC⟩:=bs dx;refine AN 13 U rfl rfl (λρ h s' am=>EZ (h _ _ rfl) (h _ _ rfl) dB) (AN (v:=iV (max p2 cG)) 14 U rfl rfl (λρ h s' am=>Yl.max2 (h _ _ rfl) (h _ _ rfl)) ?_);obtain⟨dD,dE,dF⟩:=bs dC;refine JG.one (i:=8) rfl (by decide+kernel) (Take.Co (pp:=rI) [iV Z.2.2] ([Z.2.2]:List Int) dA rfl rfl rfl underlying22 Ay Bx (by decide) rfl rfl rfl ⟨rfl,trivial⟩ λeg eh dG dH=>?_);refine Cs 2 dG dH rfl λei ac dI dJ=>JG.one (i:=9) rfl (by decide+kernel) (Take.OD (q:=rI) dE rfl rfl rfl rfl rfl rfl rfl underlying22 underlying22 Ay (Dt type3) Bx rfl (by decide) (by decide) (bz.Ag (((K.Ad O).Ad V).Ad ac)) dI dJ λej dK dL ap dM dN=>?_);refine Cz [15] ?_;obtain⟨cH,dO,dP⟩:=bs dF;refine IX (vs:= [sV dK dD dL,.agg cr.toArray,iV (max p2 cG)]) 0 (EM.ofFn (caps:= [Ak a2 a3,Ak a4 a5,Ak a6 a7,Ak aq aw,Ak ay az]) (A1 func82 rfl) (cI dM (Rp.Ag _ ((V.Ad ac).Ad ap) cF) (ca.Ag ((((K.Ad O).Ad V).Ad ac).Ad ap)) (ct.Ag ((((K.Ad O).Ad V).Ad ac).Ad ap)) (cu.Ag ((((K.Ad O).Ad V).Ad ac).Ad ap)) (cA.Ag ((V.Ad ac).Ad ap)) (cb.Ag ((((K.Ad O).Ad V).Ad ac).Ad ap)) (cc.Ag ((((K.Ad O).Ad V).Ad ac).Ad ap)) (cd.Ag ((((K.Ad O).Ad V).Ad ac).Ad ap)) (Rp.Ag _ ((((K.Ad O).Ad V).Ad ac).Ad ap) b2) (ce.Ag ((((K.Ad O).Ad V).Ad ac).Ad ap)) dO)) rfl rfl rfl rfl rfl dN rfl ?_;rintro _ dQ _ dR ⟨dS,dT,rfl,rfl,dU⟩ dV;obtain⟨dW,dX,dY⟩:=bs dP;refine C 3 rfl (Bn dX rfl rfl rfl ?_);refine C 2 rfl ?_;obtain rfl:=oi dY;exact Az (di _ _ (cH.1,cH.2,dW) ⟨dQ,dS,dT,rfl,rfl,((((O.Ad V).Ad ac).Ad ap).Ad dR),dV,dU⟩ co) rfl
   ·refine JL.exit rfl ?_;obtain rfl:=oi dm;obtain rfl:=dh _ co;exact Az (dg _ _ ⟨bd,b7,b8,rfl,rfl,O,cz,cA⟩) rfl
def PS:Nat->Nat->(List Int)->(List Int)->Int->AT->((List Int)×Bool)->(List Int)->Option (((List Int)×Bool))
 | 0,_=>λ_ _ _ _ _ _=>none
 | n+1,fu_=>λp0 p1 p2 K O U=>PH (PS n fu_) fu_ p0 p1 p2 K O U
theorem YA{J:Judge Tryz.prog}{n fu_:Nat}:∀{E:LH} {a1:Ao} {c2:Nat} {w4:Lv_} {U:Nat} {V:Nat} {az:Ao} {a0:Nat} {a2:Ao} {a3:Nat} {Y:Nat} {a4:Ao} {a5:Nat} {Z:Nat} {ac:Nat} {ag:Nat} {al:Nat} {am:Nat} {ap:Nat} {a6:Lv_} {aq:Nat} {aw:Nat} {p0:List Int} {p1:List Int} {p2:Int} {K:AT} {O:(List Int)×Bool} {a7:List Int} (a8:Al rI E a1 c2 p0) (a9:(rA 5 rI).r E w4 p1) (bb:At E U V [sV az K.1 a0,sV a2 K.2 a3]) (bd:Al (rL rI) E az a0 K.1) (be:Al Au E a2 a3 K.2) (bi:Al rI E a4 a5 O.1) (bn:At E Z ac [.func (.func 79) ([Ak Y 0]:Lv_).toArray #[]]) (bo:At E ag al [(fV 80)]) (bv:At E am ap (([]:Lv_)++a6)) (bw:(rA 5 rI).r E a6 a7) (bx:At E aq aw [.func (.func 82) #[] ([Ak U V,Ak Z ac,Ak ag al,Ak am ap,Ak aq aw]:Lv_).toArray]) {r:((List Int)×Bool)} (ay:PS n fu_ p0 p1 p2 K O a7=some r),AM J 82 [sV a1 p0 c2,.agg w4.toArray,iV p2,Ak U V,Ak Z ac,Ak ag al,Ak am ap,Ak aq aw] E [(Y,.cells #[sV a4 O.1 a5,.bool O.2] 116 (0,0))] (λw E' B'=>∃(bz:Ao) (bY:Nat),w= .tuple #[]/\B'= [(Y,.cells #[sV bz r.1 bY,.bool r.2] 116 (0,0))]/\Al rI E' bz bY r.1):=by
 induction n with
 | zero=>intros;rename_i ay;cases ay
 | succ n bZ=>intro E a1 c2 w4 U V az a0 a2 a3 Y a4 a5 Z ac ag al am ap a6 aq aw p0 p1 p2 K O a7 a8 a9 bb bd be bi bn bo bv bw bx r ay;exact XY bZ a8 a9 bb bd be bi bn bo bv bw bx ay
def f99(fu_:Nat)(p0:List Int)(p1:List Int)(p2:Int)(K:AT)(O:(List Int)×Bool)(U:List Int):Option (((List Int)×Bool)):=PS fu_ fu_ p0 p1 p2 K O U
theorem aG{a1:Ao}{c2:Nat}{w4:Lv_}{U:Nat}{V:Nat}{ay:Ao}{az:Nat}{a0:Ao}{a2:Nat}{Y:Nat}{a3:Ao}{a4:Nat}{Z:Nat}{ac:Nat}{ag:Nat}{al:Nat}{am:Nat}{ap:Nat}{a5:Lv_}{aq:Nat}{aw:Nat}{p0:List Int}{p1:List Int}{p2:Int}{K:AT}{O:(List Int)×Bool}{a6:List Int}(a9:Al rI E a1 c2 p0)(bb:(rA 5 rI).r E w4 p1)(bd:At E U V [sV ay K.1 az,sV a0 K.2 a2])(be:Al (rL rI) E ay az K.1)(bi:Al Au E a0 a2 K.2)(bn:Al rI E a3 a4 O.1)(bo:At E Z ac [.func (.func 79) ([Ak Y 0]:Lv_).toArray #[]])(bv:At E ag al [(fV 80)])(bw:At E am ap (([]:Lv_)++a5))(bx:(rA 5 rI).r E a5 a6)(bz:At E aq aw [.func (.func 82) #[] ([Ak U V,Ak Z ac,Ak ag al,Ak am ap,Ak aq aw]:Lv_).toArray]){fu_:Nat}{r:((List Int)×Bool)}(bY:f99 fu_ p0 p1 p2 K O a6=some r):AM J 82 [sV a1 p0 c2,.agg w4.toArray,iV p2,Ak U V,Ak Z ac,Ak ag al,Ak am ap,Ak aq aw] E [(Y,.cells #[sV a3 O.1 a4,.bool O.2] 116 (0,0))] (λw E' B'=>∃(a7:Ao) (a8:Nat),w= .tuple #[]/\B'= [(Y,.cells #[sV a7 r.1 a8,.bool r.2] 116 (0,0))]/\Al rI E' a7 a8 r.1):=YA a9 bb bd be bi bn bo bv bw bx bz bY
def f52(fu_:Nat)(p0:AT):Option ((List Int)×Int):= (f70 fu_ p0 ([])).bind λK=> if K.2≠0 then(some ([],K.2)) else((f84 fu_ K.1).bind λO=> (f99 fu_ ([]) (List.replicate 5 (0:Int)) 0 p0 ([],false) O).bind λU=> some (U.1,0))
theorem Ua{a1:Ao}{c2:Nat}{a2:Ao}{a3:Nat}{p0:AT}(a4:Al (rL rI) E a1 c2 p0.1)(a5:Al Au E a2 a3 p0.2){fu_:Nat}{r:(List Int)×Int}(a6:f52 fu_ p0=some r):AM J 37 [.agg #[sV a1 p0.1 c2,sV a2 p0.2 a3]] E [] (λw E' B'=>∃(a7:Ao) (a8:Nat),w= .tuple #[sV a7 r.1 a8,iV r.2]/\B'= []/\Al rI E' a7 a8 r.1):=by
 refine Be func37 λQ cN cs H bz a9=>?_;unfold f52 at a6;refine C 2 rfl (CC bz λbb cO V bd bY=>?_);refine C 5 rfl (BT bd Dk BP rfl rfl ?_);obtain⟨cP,bZ,b0⟩:=bs a6;refine A2 (HD (a4.Ag V) (a5.Ag V) Al.nil bZ) rfl rfl Hk bY ?_;rintro _ cQ _ ag ⟨cR,cT,cV,cW,rfl,rfl,b1,b2⟩ b3;refine C 3 rfl (Bz b3 FL λb4 b5=>?_);refine AQ (S':= [[],[],[],[(b4,.cells #[nS,nS] 78 (0,0))]]) rfl b5 λb6=>Bv 3 b6 Cr λb7=>?_;refine B7 3 b7 rfl λcX O b8 be=>C 8 rfl (AU b0 (λb9 ca=>?_) (λb9 cb=>?_))
 ·refine C 6 rfl ?_;obtain rfl:=oi ca;exact AS func37 rfl rfl (a9 ((V.Ad ag).Ad O) rfl ⟨none,0,rfl,(by first | rfl | simp),Al.nil⟩ be)
 ·refine C 3 rfl (BT b8 Ew Cr rfl rfl ?_);obtain⟨cY,cc,cd⟩:=bs cb;refine A2 (Ma (b1.Ag O) (b2.Ag O) cc) rfl rfl Lo be ?_;rintro _ bi _ aq ⟨al,rfl,rfl,am⟩ ce;refine Bz ce Hm λY cf=>?_;refine AQ (S':= [[],[],[],[],[],[(Y,.cells (([]:Lv_)++(List.replicate 5 (iV 0):Lv_)).toArray 82 (0,0))]]) rfl cf λcg=>FM (v:= .agg al.toArray) (l:= []) (ws:=(List.replicate 5 (iV 0):Lv_)) (us:=al) (o:=0) 5 rfl rfl rfl cg rfl rfl rfl (by rw [BG (kk:=5) (pp:=rI) am];exact AJ type82) ((rA 5 rI).one am) rfl (by rw [BG (kk:=5) (pp:=rI) am,BG (kk:=5) (pp:=rI) (Ez (E:=bi) (pp:=rI) rfl)];omega) λbn=>?_;rw [Ho (by rw [BG (kk:=5) (pp:=rI) am,BG (kk:=5) (pp:=rI) (Ez (E:=bi) (pp:=rI) rfl)])] at bn ⊢;refine AQ (S':= [[],[],[],[],[],[(Y,.cells (([]:Lv_)++al).toArray 82 (0,0))]]) rfl bn λci=>C 3 rfl (Bz ci (C5 type116) λZ ck=>?_);refine C 3 rfl (Am (v:= .func (.func 79) ([Ak Z 0]:Lv_).toArray #[]) rfl (λρ h=>Jl (by simp [h (.tmp 7) _ rfl]) (by simp)) ?_);refine Bz ck (C5 type117) λaw cm=>?_;refine AQ (S':= [[],[],[],[],[],[(Y,.cells (([]:Lv_)++al).toArray 82 (0,0))],[(Z,.cells #[nS,.bool false] 116 (0,0))],[(aw,.cells #[.nilFunc] 117 (0,0))]]) rfl cm λcn=>Bv 7 cn (AJ type117) λco=>?_;refine B7 7 co rfl λcZ ap cp cq=>C 3 rfl (Bz cq (C5 type34) λbo cr=>?_);refine Bv 8 cr (AJ type34) λct=>?_;refine B7 8 ct rfl λc0 ac cu cv=>AQ (S':= [[],[],[],[],[],[(Y,.cells (([]:Lv_)++al).toArray 82 (0,0))],[(Z,.cells #[nS,.bool false] 116 (0,0))],[],[]]) rfl cv λcw=>C 3 rfl (Bz cw (C5 type118) λbv cy=>?_);refine C 2 rfl (B7 5 cy rfl λc1 U cz cA=>?_);refine JL.region (Am (v:= .func (.func 82) #[] ([Ak bb 0,Ak aw 0,Ak bo 0,Ak Y 0,Ak bv 0]:Lv_).toArray) rfl (λρ h=>Jl (by simp) (by simp [h (.tmp 1) _ rfl,h (.tmp 8) _ rfl,h (.tmp 9) _ rfl,h (.tmp 6) _ rfl,h (.tmp 10) _ rfl])) ?_);refine Bv 9 cA (AJ type118) λcB=>?_;refine B7 9 cB rfl λcC K bw cD=>AQ (S':= [[],[],[],[],[],[],[(Z,.cells #[nS,.bool false] 116 (0,0))],[],[],[]]) rfl cD λcE=>C 3 rfl (CG 0 bw (Cm underlying118) rfl rfl rfl ?_);refine Am (v:= .agg (List.replicate 5 (iV 0):Lv_).toArray) rfl (λρ h=>MS underlying82 Hm Ay rfl) ?_;obtain⟨ay,cF,cG⟩:=bs cd;refine AQ (S':= [[],[],[],[],[],[],[(Z,.cells #[nS,.bool false] 116 (0,0))],[],[],[]]) rfl cE λcH=>IX (vs:= [nS,.agg (List.replicate 5 (iV 0):Lv_).toArray,iV 0]) 6 (EM.ofFn (caps:= [Ak bb 0,Ak aw 0,Ak bo 0,Ak Y 0,Ak bv 0]) (A1 func82 rfl) (aG Al.nil (Ez (E:=cC) (pp:=rI) rfl) (bd.Ag ((((((ag.Ad O).Ad aq).Ad ap).Ad ac).Ad U).Ad K)) (a4.Ag (((((((V.Ad ag).Ad O).Ad aq).Ad ap).Ad ac).Ad U).Ad K)) (a5.Ag (((((((V.Ad ag).Ad O).Ad aq).Ad ap).Ad ac).Ad U).Ad K)) Al.nil (cp.Ag ((ac.Ad U).Ad K)) (cu.Ag (U.Ad K)) (cz.Ag K) (Rp.Ag _ (((ap.Ad ac).Ad U).Ad K) am) bw cF)) rfl rfl rfl rfl rfl cH rfl ?_;rintro _ c3 _ cI ⟨az,a0,rfl,rfl,cJ⟩ cK;refine AQ (S':= [[],[],[],[],[],[],[(Z,.cells #[sV az ay.1 a0,.bool ay.2] 116 (0,0))],[],[],[]]) rfl cK λbx=>C 3 rfl (JL.fd underlying116 De rfl rfl rfl ?_);refine Am (v:= sV az ay.1 a0) rfl (λρ h=>Yl.load It (h _ _ rfl) (BC (j:=6) (off:=0) bx rfl rfl)) (C 3 rfl ?_);refine JS.drop 6 bx rfl λcM=>?_;obtain rfl:=oi cG;exact AS func37 rfl rfl (a9 ((((((((V.Ad ag).Ad O).Ad aq).Ad ap).Ad ac).Ad U).Ad K).Ad cI) rfl ⟨az,a0,rfl,(by first | rfl | simp),cJ⟩ cM)
end Pal
namespace Pal
open Go Go.Conc Go.Proofs
variable {E:LH}
variable {J:Judge Tryz.prog}
def Md(fu_:Nat)(p0:AT)(p1:Aw):Option ((List Int)×Int):=
 (f70 fu_ p0 ([])).bind λK=>
 if K.2≠0 then(
  some ([],K.2)
 ) else(
  (NL fu_ K.1 p1).bind λV=>
  (PO fu_ V).bind λO=>
  if O≠0 then(
   some ([],O)
  ) else(
   (f77 fu_ K.1 p1).bind λU=>
   if(!U.2)=true then(
    some ([],11)
   ) else(
    some (U.1,0)
   )
  )
 )
theorem O6{E:LH}{a1:Ao}{c2:Nat}{ac:Ao}{ag:Nat}{al:Ao}{am:Nat}{p0:AT}{p1:Aw}(a7:GE E)(a8:Al (rL rI) E a1 c2 (p0.1))(a9:Al Au E ac ag (p0.2))(ap:Al Au E al am (p1)){fu_:Nat}{r:(List Int)×Int}(aq:Md fu_ p0 p1=some r):AM (Gi Tryz.prog) 23 [.agg #[.slice a1 (p0.1).length c2,.slice ac (p0.2).length ag],.slice al (p1).length am] E [] (λw E' B'=>∃(aw:Ao) (ay:Nat),w= .tuple #[.slice aw (r.1).length ay,iV r.2]/\B'= []/\Al rI E' aw ay (r.1)):=by
 refine Be Tryz.func23 λQ ci cs H bb Z=>?_;unfold Md at aq;refine C 2 rfl (CC bb λck cm O bd be=>?_);refine C 5 rfl (BT bd Dk BP rfl rfl ?_);obtain⟨cn,bi,bn⟩:=bs aq;refine A2 (HD (a8.Ag O) (a9.Ag O) Al.nil bi) rfl rfl Hk be ?_;rintro _ co _ V ⟨cp,cq,cr,ct,rfl,rfl,az,a0⟩ bo;refine C 3 rfl (Bz bo FL λcu bv=>?_);refine Bv 3 bv Cr λbw=>?_;refine B7 3 bw rfl λcv K a2 a3=>C 8 rfl (AU bn (λbx bz=>?_) (λbx bY=>?_))
 ·refine C 6 rfl ?_;obtain rfl:=oi bz;exact AS Tryz.func23 rfl rfl (Z ((O.trans V).trans K) rfl ⟨none,0,rfl,rfl,Al.nil⟩ a3)
 ·refine C 4 rfl (BT a2 Ew Cr rfl rfl ?_);obtain⟨cw,bZ,b0⟩:=bs bY;refine C 1 rfl (A2 (S6 (az.Ag K) (a0.Ag K) (ap.Ag ((O.trans V).trans K)) bZ) rfl rfl (A1 Tryz.func59 rfl) a3 ?_);rintro cy cz _ U ⟨_,rfl,rfl,b1⟩ b2;obtain⟨cA,b3,b4⟩:=bs b0;refine BH (R7 (a7.Ag (((O.trans V).trans K).trans U)) b1 b3) rfl rfl (A1 Tryz.func58 rfl) b2 λcB Y a4=>C 7 rfl (AU b4 (λb5 b6=>?_) (λb5 b7=>?_))
  ·refine C 6 rfl ?_;obtain rfl:=oi b6;exact AS Tryz.func23 rfl rfl (Z ((((O.trans V).trans K).trans U).trans Y) rfl ⟨none,0,rfl,rfl,Al.nil⟩ a4)
  ·refine C 3 rfl (BT (a2.Ag (U.trans Y)) Ew Cr rfl rfl ?_);obtain⟨b8,b9,ca⟩:=bs b7;refine C 1 rfl (A2 (Uj (az.Ag ((K.trans U).trans Y)) (a0.Ag ((K.trans U).trans Y)) (ap.Ag ((((O.trans V).trans K).trans U).trans Y)) b9) rfl rfl (A1 Tryz.func61 rfl) a4 ?_);rintro _ cC _ a5 ⟨cb,cc,rfl,rfl,cd⟩ a6;refine C 10 rfl (Am (v:= .bool (!b8.2)) rfl (λρ h=>Yl.not (h _ _ rfl)) ?_);refine JL.done (Cd ca (λce cf=>?_) (λce cg=>?_))
   ·refine C 5 rfl ?_;obtain rfl:=oi cf;exact AS Tryz.func23 rfl rfl (Z (((((O.trans V).trans K).trans U).trans Y).trans a5) rfl ⟨none,0,rfl,rfl,Al.nil⟩ a6)
   ·refine C 7 rfl ?_;obtain rfl:=oi cg;exact AS Tryz.func23 rfl rfl (Z (((((O.trans V).trans K).trans U).trans Y).trans a5) rfl ⟨cb,cc,rfl,rfl,cd⟩ a6)
def JF(fu_:Nat)(p0:List Int)(p1:List Int):Option (AT):=
 (f67 fu_ ([0,1,5,1,2,5,2,3,2,0,3,1,3,1,1]:List Int)).bind λK=>
 (f67 fu_ p1).bind λO=>
 (Dw K O).bind λU=>
 some (([p0,[],([3]:List Int),([1]:List Int)]:Bc),U)
theorem Ke{a1:Ao}{c2:Nat}{aw:Ao}{ay:Nat}{p0:List Int}{p1:List Int}(a8:Al rI E a1 c2 (p0))(a9:Al rI E aw ay (p1)){fu_:Nat}{r:AT}(az:JF fu_ p0 p1=some r):AM J 42 [.slice a1 (p0).length c2,.slice aw (p1).length ay] E [] (λw E' B'=>∃(a0:Ao) (a2:Nat) (a3:Seg) (a4:Ao) (a5:Nat),w= .agg #[.slice a0 (r.1).length a2,.slice a4 (r.2).length a5]/\B'=a3/\OL 22 (rL rI) E' a0 a2 a3 (r.1)/\Al Au E' a4 a5 (r.2)):=by
 refine Be Tryz.func42 λQ cB cs H bb bd=>?_;unfold JF at az;refine C 2 rfl (Bz bb Fg λV be=>?_);refine C 4 rfl (Da (pp:=rI) [iV 3] [3] rfl rfl rfl Tryz.underlying22 Ay Bx (by decide) rfl rfl rfl ⟨rfl,trivial⟩ be λbi bn bo bv=>?_);refine Da (pp:=rI) [iV 1] [1] rfl rfl rfl Tryz.underlying22 Ay Bx (by decide) rfl rfl rfl ⟨rfl,trivial⟩ bv λbw bx bz bY=>AQ (S':= [[],[(V,.cells #[.slice none 0 0,.slice none 0 0] 28 (0,0))],bn,bx]) rfl bY λbZ=>Bd 2 bo bZ rfl λcC Y b0 b1=>Bd 3 (bz.Ag Y) b1 rfl λcD Z b2 b3=>Da (pp:=(rL rI)) [.slice a1 (p0).length c2,.slice none 0 0,.slice (some ⟨bi,0,none⟩) (([3]:List Int)).length 1,.slice (some ⟨bw,0,none⟩) (([1]:List Int)).length 1] [p0,[],([3]:List Int),([1]:List Int)] rfl rfl rfl Tryz.underlying25 De HT (by decide) rfl rfl rfl ⟨⟨_,_,rfl,(a8.Ag (Y.trans Z))⟩,⟨_,_,rfl,Al.nil⟩,⟨_,_,rfl,(b0.Ag Z)⟩,⟨_,_,rfl,b2⟩,trivial⟩ b3 λK ac b4 b5=>AQ (S':= [[],[(V,.cells #[.slice none 0 0,.slice none 0 0] 28 (0,0))],[],[],ac]) rfl b5 λb6=>Da (pp:=rI) [iV 0,iV 1,iV 5,iV 1,iV 2,iV 5,iV 2,iV 3,iV 2,iV 0,iV 3,iV 1,iV 3,iV 1,iV 1] [0,1,5,1,2,5,2,3,2,0,3,1,3,1,1] rfl rfl rfl Tryz.underlying22 Ay Bx (by decide) rfl rfl rfl ⟨rfl,rfl,rfl,rfl,rfl,rfl,rfl,rfl,rfl,rfl,rfl,rfl,rfl,rfl,rfl,trivial⟩ b6 λcE cF b7 b8=>Bd 5 b7 b8 rfl λcG al b9 ca=>?_;obtain⟨cH,cb,cc⟩:=bs az;refine A2 (K3 b9 cb) rfl rfl Gw ca ?_;rintro _ cI cd am ⟨cJ,cK,_,rfl,rfl,ce⟩ cf;refine AQ (S':= [[],[(V,.cells #[.slice none 0 0,.slice none 0 0] 28 (0,0))],[],[],ac,[],cd]) rfl cf λcg=>?_;obtain⟨cM,ci,ck⟩:=bs cc;refine C 1 rfl (A2 (K3 (a9.Ag (((Y.trans Z).trans al).trans am)) ci) rfl rfl Gw cg ?_);rintro _ cN cO ap ⟨cP,cQ,_,rfl,rfl,cm⟩ cn;refine Bd 7 cm cn rfl λcR aq co cp=>?_;obtain⟨ag,cq,cr⟩:=bs ck;refine Hs (pp:=Au) 6 cq rfl rfl rfl rfl rfl rfl rfl Tryz.underlying26 Tryz.underlying26 Bi (Dt Tryz.type42) BM rfl (by decide) (by decide) (ce.Ag (ap.trans aq)) co cp rfl λO U ct cu cv=>AQ (S':= [[],[(V,.cells #[.slice none 0 0,.slice none 0 0] 28 (0,0))],[],[],ac,[],ct,[]]) rfl cv λcw=>Am (v:= .agg #[.slice (some ⟨K,0,none⟩) (([p0,[],([3]:List Int),([1]:List Int)]:Bc)).length 4,.slice O (ag).length U]) rfl (λρ h=>Ch [(0,1),(1,1)] h Fg Tryz.underlying28 ⟨rfl,AJ Tryz.type25,rfl,AJ Tryz.type26,trivial⟩ rfl rfl) (Bv 1 cw BP λcy=>?_);refine JL.done (Bd 6 cu cy rfl λcT a6 cz a7=>?_);obtain rfl:=oi cr;refine JL.ret (v:= .agg #[.slice (some ⟨K,0,none⟩) (([p0,[],([3]:List Int),([1]:List Int)]:Bc)).length 4,.slice O (ag).length U]) rfl rfl (BB.list Tryz.func42 rfl (vs:= [.agg #[.slice (some ⟨K,0,none⟩) (([p0,[],([3]:List Int),([1]:List Int)]:Bc)).length 4,.slice O (ag).length U]]) ⟨⟨_,rfl,Ld.many (vs:= [.slice (some ⟨K,0,none⟩) (([p0,[],([3]:List Int),([1]:List Int)]:Bc)).length 4,.slice O (ag).length U]) Dk BP (EY (off:=0) 1 a7 rfl rfl)⟩,trivial⟩) (DF 1 a7 rfl λcA=>?_);exact bd ((((((Y.trans Z).trans al).trans am).trans ap).trans aq).trans a6) rfl ⟨(some ⟨K,0,none⟩),4,ac,O,U,rfl,(by first | rfl | simp | (simp [Value.cells])),(b4.Ag ((((al.trans am).trans ap).trans aq).trans a6)),cz⟩ cA
def EA(fu_:Nat):Option (AT):=
 (JF fu_ ([1,2,3]:List Int) ([])).bind λK=>
 some K
theorem Fa{fu_:Nat}{r:AT}(Z:EA fu_=some r):AM J 40 [] E [] (λw E' B'=>∃(ac:Ao) (ag:Nat) (al:Seg) (am:Ao) (ap:Nat),w= .agg #[.slice ac (r.1).length ag,.slice am (r.2).length ap]/\B'=al/\OL 22 (rL rI) E' ac ag al (r.1)/\Al Au E' am ap (r.2)):=by
 refine Be Tryz.func40 λQ bn cs H aw ay=>?_;unfold EA at Z;refine C 2 rfl (Bz aw Fg λr1 az=>?_);refine C 3 rfl (Da (pp:=rI) [iV 1,iV 2,iV 3] [1,2,3] rfl rfl rfl Tryz.underlying22 Ay Bx (by decide) rfl rfl rfl ⟨rfl,rfl,rfl,trivial⟩ az λbo bv a0 a1=>?_);refine Bd 2 a0 a1 rfl λbw a2 a3 a4=>AQ (S':= [[],[(r1,.cells #[.slice none 0 0,.slice none 0 0] 28 (0,0))],[]]) rfl a4 λa5=>?_;obtain⟨K,a6,a7⟩:=bs Z;refine A2 (Ke a3 Al.nil a6) rfl rfl Iu a5 ?_;rintro _ bx a8 a9 ⟨O,U,_,V,Y,rfl,rfl,bb,bd⟩ be;refine Bv 1 be BP λaq=>?_;refine JL.done ?_;obtain rfl:=oi a7;refine JL.ret (v:= .agg #[.slice O (K.1).length U,.slice V (K.2).length Y]) rfl rfl (BB.list Tryz.func40 rfl (vs:= [.agg #[.slice O (K.1).length U,.slice V (K.2).length Y]]) ⟨⟨_,rfl,Ld.many (vs:= [.slice O (K.1).length U,.slice V (K.2).length Y]) Dk BP (EY (off:=0) 1 aq rfl rfl)⟩,trivial⟩) (DF 1 aq rfl λbi=>?_);exact ay (a2.trans a9) rfl ⟨O,U,a8,V,Y,rfl,(by first | rfl | simp | (simp [Value.cells])),bb,bd⟩ bi
def Ja(fu_:Nat):Option (Aw):=
 (JN fu_ ([0,1,1,0,2,3,0,3,2]:List Int)).bind λK=>
 some K
theorem Ki{fu_:Nat}{r:Aw}(K:Ja fu_=some r):AM J 46 [] E [] (λw E' B'=>∃(O:Ao) (U:Nat) (g0:Seg),w= .slice O (r).length U/\B'=g0/\OL 42 Au E' O U g0 (r)):=by
 refine Be Tryz.func46 λQ a3 cs H V Y=>?_;unfold Ja at K;refine C 6 rfl (Da (pp:=rI) [iV 0,iV 1,iV 1,iV 0,iV 2,iV 3,iV 0,iV 3,iV 2] [0,1,1,0,2,3,0,3,2] rfl rfl rfl Tryz.underlying22 Ay Bx (by decide) rfl rfl rfl ⟨rfl,rfl,rfl,rfl,rfl,rfl,rfl,rfl,rfl,trivial⟩ V λr1 g2 Z ac=>?_);refine Bd 1 Z ac rfl λa4 ag al am=>?_;obtain⟨a5,ap,aq⟩:=bs K;refine A2 (Jy al ap) rfl rfl Gw am ?_;rintro _ a6 aw ay ⟨az,a0,_,rfl,rfl,a1⟩ a2;refine C 2 rfl ?_;obtain rfl:=oi aq;exact AS Tryz.func46 rfl rfl (Y (ag.trans ay) rfl ⟨az,a0,aw,rfl,(by first | rfl | simp | (simp [Value.cells])),a1⟩ a2)
end Pal
namespace Pal
open Go Go.Conc
def SA(ops:Ao_)(m:Nat):Bool:=
 (List.range ops.size).all λj=>decide (j<m) || (List.range m).all λi=>match ops[j]? with
  | some K=>K.after.any λe=>Region.binds .any e&&e.on==i
  | none=>true
theorem Wg{ops:Ao_}{m:Nat}(h:SA ops m=true):DG ops m=true:=by
 unfold DG;unfold SA at h;rw [List.all_eq_true] at h ⊢;intro j V;have K:=h j V;have ac:=List.mem_range.1 V;rw [Bool.or_eq_true] at K ⊢;rcases K with K | K
 ·exact .inl K
 refine .inr ?_;rw [List.all_eq_true] at K ⊢;intro i hi;have O:=K i hi;obtain⟨k,Y⟩:∃k,ops.size=k+1:=⟨ops.size - 1,by omega⟩;rw [Y];unfold waits;split at O
 ·rename_i ag e;rw [e];rw [Array.any_eq_true'] at O ⊢;obtain⟨x,Z,U⟩:=O;refine⟨x,Z,?_⟩;rw [Bool.and_eq_true] at U ⊢;exact⟨U.1,by rw [U.2];rfl⟩
 ·rename_i e;rw [e]
theorem RN{P:Program}{J:Judge P}{Q:Gs_}{b:Frame}{n:Nat}{ds:Ld_}{ops:Ao_}{k:Li_}{cs:Lf_}{m fuel:Nat}{D:Nat->Bool}{listed:Array Bool}{L:Env}{E H:LH}{S S':List Seg}(K:S=S')(O:Ap E H S)(h:Ap E H S'->AO J Q b n ds ops k cs m D fuel listed L (Aj E H S')):AO J Q b n ds ops k cs m D fuel listed L (Aj E H S):=by
 subst K;exact h O
end Pal
