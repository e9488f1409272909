/- DebtApart, row of debt: for every input the law is true and its argument reads behind the call as before it. Part 5 of 8. -/
import Derived.Test.YtmeophcclkejkaaGreatApb
import Derived.Test.YtmeophcclkejkaaGreatApc
import Derived.Test.YtmeophcclkejkaaGreatApd
set_option linter.all false
set_option maxRecDepth 100000
namespace Pal
open Go Go.Conc Go.Conc.Lib Go.Proofs Go.ConcR.Gen
theorem ZU{P:Program}{J:Judge P}{Q:GP}{n:Nat}{L:Env}{ds:Ld_}{c:Code}{k:Li_}{cs:Lf_}{s:St}{b:Frame}(h:∀K,K=k->JL J Q b n L ds (.code c::K) cs s):JL J Q b n L ds (.code c::k) cs s:=h _ rfl
theorem TT{P:Program}{J:Judge P}{Q:GP}{n:Nat}{L:Env}{ds:Ld_}{k:Li_}{cs:Lf_}{s:St}{b:Frame}(h:∀K,K=k->JL J Q b n L ds K cs s):JL J Q b n L ds k cs s:=h _ rfl
theorem Ir:(Tryz.prog.funcs[189]?).any (·.norace)=true:=by rw [Tryz.func189];rfl
theorem aO:(Tryz.prog.funcs[163]?).any (·.norace)=true:=by rw [Tryz.func163];rfl
theorem aP:(Tryz.prog.funcs[191]?).any (·.norace)=true:=by rw [Tryz.func191];rfl
theorem Qf:(Tryz.prog.funcs[211]?).any (·.norace)=true:=by rw [Tryz.func211];rfl
theorem Px:(Tryz.prog.info? 140).map (λi=>decide (i.size=0))=some false:=(congrArg (Option.map (λi=>decide (i.size=0))) Tryz.type140).trans rfl
abbrev G3:=Bool×Bool×Nat×M4×Int
def Ud(a:G3):Prop:=(a.2.1=true->a.2.2.2.1.k=true)/\a.2.2.1<=4/\CX a.2.2.2.1
def P1(a:G3):LP:= .Cg a.1 a.2.1 a.2.2.1 a.2.2.2.1
theorem XH{F:Fam}{sv aw:Bool}{it:Nat}{old:M4}{q:Nat}(h:old.l=false/\old.s=false):(mN sv aw old,q,#[Fam.B9 F.uA,Fam.El F.uA],some LP.len)∈F.BW (.Cg sv aw it old) old q:=by
 obtain⟨l,k,s,w⟩:=old;obtain⟨K,O⟩:=h;simp only at K O;subst K O;simp [Fam.BW,Fam.Fy,mN]
theorem RN{F:Fam}{sv aw:Bool}{it:Nat}{old:M4}{q:Nat}(h:¬(old.l=false/\old.s=false))(x:LP)(K:x= .Ip sv∨x= .Cn sv):(mN sv aw old,q,#[Fam.B9 F.uA,Fam.El F.uA],some x)∈F.BW (.Cg sv aw it old) old q:=by
 obtain⟨l,k,s,w⟩:=old;show _∈F.Fy _ _ _ _ _ _;unfold Fam.Fy;rw [List.mem_append];right;rw [if_pos rfl,if_neg h];cases l <;> cases s <;> simp [mN] at h ⊢ <;> rcases K with rfl | rfl <;> simp
theorem W5{F:Fam}{sv aw:Bool}{it:Nat}{old m:M4}{q:Nat}(h:m≠old):(m,q,#[Fam.B9 F.uA],some (LP.Ec sv aw it))∈F.BW (.Cg sv aw it old) m q:=by
 show _∈F.Fy _ _ _ _ _ _;unfold Fam.Fy;rw [List.mem_append];right;rw [if_neg h];exact List.mem_singleton.2 rfl
theorem XR{F:Fam}{sv:Bool}{it:Nat}{old:M4}{q:Nat}(K:old.l=true/\old.s=false)(O:it<4)(U:old.k=false)(Y:old.w≠0):(({old with k:=true}:M4),q,#[Fam.B9 F.uA,Fam.El F.uA],some (LP.Ec sv true (it+1)))∈F.BW (.Cg sv false it old) old q:=by
 show _∈F.Fy _ _ _ _ _ _;unfold Fam.Fy;rw [List.mem_append];left;rw [if_pos ⟨K.1,K.2,O⟩,if_pos ⟨rfl,U,Y⟩,if_pos rfl];exact List.mem_singleton.2 rfl
theorem Yx{F:Fam}{sv:Bool}{it:Nat}{old m:M4}{q:Nat}(K:old.l=true/\old.s=false)(O:it<4)(U:old.k=false)(Y:old.w≠0)(hm:m≠old):(m,q,#[Fam.B9 F.uA],some (LP.Ec sv false (it+1)))∈F.BW (.Cg sv false it old) m q:=by
 show _∈F.Fy _ _ _ _ _ _;unfold Fam.Fy;rw [List.mem_append];left;rw [if_pos ⟨K.1,K.2,O⟩,if_pos ⟨rfl,U,Y⟩,if_neg hm];exact List.mem_singleton.2 rfl
theorem Po{F:Fam}{sv aw:Bool}{it:Nat}{old m:M4}{q:Nat}(K:old.l=true/\old.s=false)(O:it<4)(U:¬(aw=false/\old.k=false/\old.w≠0)):(m,q,#[],some (LP.Cg sv aw (it+1) m))∈F.BW (.Cg sv aw it old) m q:=by
 show _∈F.Fy _ _ _ _ _ _;unfold Fam.Fy;rw [List.mem_append];left;rw [if_pos ⟨K.1,K.2,O⟩,if_neg U];exact List.mem_singleton.2 rfl
theorem G2(m:M4)(h:m.s=true):m={m with l:=m.l || !m.s}:=by
 obtain⟨l,k,s,w⟩:=m;simp only at h;subst h;simp
set_option maxHeartbeats 4000000 in
theorem Wu{F:Fam}{n:Nat}{L:Env}{ds:Ld_}{k:Li_}{cs:Lf_}{s:St}{b:Frame}{ops:Ao_}{i:Nat}{rest:List Nat}{d:Option Tmp}{x:Operand}{ats:Array TypeId}{ty:TypeId}{pp:String}{af:Ae_}{g:On_}{kk:Nat}(ac:s.q=false)(ce:ops[i]? =some ⟨d,.call ⟨.value (.func 189),#[x],ats⟩,ty,pp,af,g⟩)(hw:AI L ops ⟨d,.call ⟨.value (.func 189),#[x],ats⟩,ty,pp,af,g⟩=some true)(cf:((b.kind != .early)&&Bb n d)=true)(cg:ev L x=some (.pointer (some F.uA)))
  (h:JL (AO Tryz.prog false) (Stop Tryz.prog F (.lk kk .FC)) b n (Au L d (.tuple #[])) ds (.inRegion ops rest::k) cs s):
  JL (AO Tryz.prog false) (Stop Tryz.prog F (.lk kk (.Ec false false 0))) b n L ds (.inRegion ops (i::rest)::k) cs s:=by
 refine Hj (vs:= [.pointer (some F.uA)]) ce hw cf Tryz.func189 (by decide+kernel) rfl (by simp [evs,cg]) (Nat.le_of_ble_eq_true rfl) λb0 back=>zg 20 rfl (Al (v:= .pointer (some F.uA)) rfl (λρ h=>Ct (a:=F.uA) 0 0 Tryz.underlying140 Dg rfl rfl rfl (h _ _ rfl)) ?_);refine Hi (kk:=kk) (p:= .Ec false false 0) CQ.stop ac rfl rfl rfl rfl rfl Ha Ir rfl λb1 cw bU=>⟨some (.Cg false false 0 b1),List.mem_singleton.2 rfl,?_⟩;refine zg 3 rfl (ZU λci ck=>?_);have a1:∀X:Ph->GP,CQ Tryz.prog F X->(∀p g s,Stop Tryz.prog F p g s->X p g s)->∀L',look L' 0=some (.pointer (some F.uA))->JL (AO Tryz.prog false) (X (.lk kk .len)) (base 189) Tryz.f189.ntmps L' [] ci (b0::cs) s:=by
  intro X O ay L' cm;rw [ck];refine Fs (L':= [(0,.pointer (some F.uA))]) ⟨cm,trivial⟩ (zg 3 rfl ?_);refine K8 (kk:=kk) (p:= .len) O ac rfl (λ_ _=>rfl) rfl rfl rfl rfl (by simp) Oc (zg 3 rfl ?_);refine OV (kk:=kk) (p:= .KP) O ac rfl (λ_ _=>rfl) rfl rfl rfl rfl Tryz.underlying229 Tryz.underlying185 Px rfl (Pq (kk:=kk) (p:= .J0) (ad:=F.uA) O ac rfl (λ_ _=>rfl) rfl rfl rfl rfl (by simp) T0 rfl rfl ?_);refine JL.done (JL.fin rfl rfl (BE.none Tryz.func189 rfl) (back _ _ _ _ ?_));exact M9 (λg s=>ay _ g s) h
 refine JL.block (IK ?_);refine Er [(0,.pointer (some F.uA)),(2,iV 0),(3,.bool false),(4,.bool false),(5,iV ((0:Nat):Int)),(6,.int .i32 (b1:M4).num)] rfl (TT λb2 a6=>?_);refine Ta (P:=Tryz.prog) (F:=F) (s:=s) (kk:=kk) (ph:=P1) (ok:=Ud) (head:=λ(X:Ph->GP) (a:G3)=>JL (AO Tryz.prog false) (X (.lk kk (P1 a))) (base 189) Tryz.f189.ntmps ([(0,.pointer (some F.uA)),(2,iV a.2.2.2.2),(3,.bool a.1),(4,.bool a.2.1),(5,iV (a.2.2.1:Int)),(6,.int .i32 (a.2.2.2.1:M4).num)]) [] b2 (b0::cs) s) ?_ (false,false,0,b1,0) ⟨(λe=>by cases e),Nat.zero_le _,bU.2.2.1⟩;intro Y bV cy hC;have key:∀N (a:G3),4 - a.2.2.1<N->Ud a->(λ(X:Ph->GP) (a:G3)=>JL (AO Tryz.prog false) (X (.lk kk (P1 a))) (base 189) Tryz.f189.ntmps ([(0,.pointer (some F.uA)),(2,iV a.2.2.2.2),(3,.bool a.1),(4,.bool a.2.1),(5,iV (a.2.2.1:Int)),(6,.int .i32 (a.2.2.2.1:M4).num)]) [] b2 (b0::cs) s) Y a:=by
  intro N
  induction N with
  | zero=>intro a b5;omega
  | succ N bW=>
   rintro⟨sv,aw,it,old,wt⟩ cn bU;simp only at cn;have co:aw=true->old.k=true:=bU.1;have b3:CX old:=bU.2.2;have a2:Ch old:=b3.Ch;show JL (AO Tryz.prog false) (Y (.lk kk (.Cg sv aw it old))) (base 189) Tryz.f189.ntmps [(0,.pointer (some F.uA)),(2,iV wt),(3,.bool sv),(4,.bool aw),(5,iV (it:Int)),(6,.int .i32 (old:M4).num)] [] b2 (b0::cs) s;rw [a6];refine zg 2 rfl (Bw (λL s'=>s=s'/\L= [(0,.pointer (some F.uA)),(2,iV wt),(3,.bool sv),(4,.bool aw),(5,iV (it:Int)),(6,.int .i32 (old:M4).num)]) ?_ ?_)
   rotate_left
   ·intro az;refine zg 3 rfl (Al (v:=CL (BA old&&& 5)) rfl (λρ h=>Eo (c:=5) a2 (h _ _ rfl) (h _ _ rfl) (by decide)) ?_);refine zg 2 rfl (LY (q:=((BA old&&& 5:Nat):Int)=1) (i:=17) rfl (λb6=>?_) (λb6=>?_))
    ·refine Al (v:=iV (it:Int)) rfl (λρ h=>Yl.move (h _ _ rfl)) (JL.canSpin (it:=(it:Int)) ac rfl rfl rfl rfl Z0 rfl (λGp=>?_) ?_)
     ·refine Al (v:= .bool true) rfl (λρ h=>LV (h _ _ rfl) (h _ _ rfl)) ?_;have a3:=(bC old).1 b6;refine zg 5 rfl ?_;have bY:it<4:=by omega
      refine zg 1 rfl (Al (v:= .bool (!aw)) rfl (λρ h=>Yl.not (h _ _ rfl)) ?_);refine zg 1 rfl (Ko (c:= !aw) (i:=23) rfl (λc1=>?_) (λc1=>?_))
      ·refine Al (v:= .int .i32 (old:M4).num) rfl (λρ h=>Yl.move (h _ _ rfl)) (Al (v:=CL (BA old&&& 2)) rfl (λρ h=>Eo (c:=2) a2 (h _ _ rfl) (h _ _ rfl) (by decide)) ?_);refine zg 3 rfl (LY (q:=((BA old&&& 2:Nat):Int)=0) (i:=28) rfl (λc2=>?_) (λc2=>?_))
       ·refine Al (v:= .int .i32 (old:M4).num) rfl (λρ h=>Yl.move (h _ _ rfl)) (Al (v:=CL old.w) rfl (λρ h=>IP a2 (h _ _ rfl) (h _ _ rfl)) ?_);refine zg 3 rfl (LY (q:=(old.w:Int)≠0) (i:=33) rfl (λc3=>?_) (λc3=>?_))
        ·have cp:aw=false:=by simpa using c1
         subst cp;have b7:=(P4 old).1 c2;have b8:old.w≠0:=by omega
         refine zg 2 rfl (Al (v:= .pointer (some F.uA)) rfl (λρ h=>Ct (a:=F.uA) 0 0 Tryz.underlying140 Dg rfl rfl rfl (h _ _ rfl)) ?_);refine zg 2 rfl (Al (v:= .int .i32 ({old with k:=true}:M4).num) rfl (λρ h=>NG (c:=2) a2 (by decide) (Qp old) rfl (h _ _ rfl) (h _ _ rfl)) ?_);refine RI (kk:=kk) (p:= .Cg sv false it old) (old:=old) (nw:={old with k:=true}) bV ac rfl rfl rfl rfl rfl N1 rfl rfl rfl (λq a4=>⟨some (.Ec sv true (it+1)),XR a3 bY b7 b8,?_⟩) (λm q hm a4=>⟨some (.Ec sv false (it+1)),Yx a3 bY b7 b8 hm,?_⟩)
         ·refine Al (v:= .bool true) rfl (λρ h=>LV (h _ _ rfl) (h _ _ rfl)) (zg 7 rfl ?_);refine JL.ext (v:= .tuple #[]) rfl rfl rfl L3 rfl rfl (zg 4 rfl ?_);refine Al (v:=iV ((it+1:Nat):Int)) rfl (λρ h=>Gc (h _ _ rfl) (h _ _ rfl) (by unfold Aw;rw [if_pos (by omega)];congr 1)) (zg 6 rfl ?_);refine Al (v:= .pointer (some F.uA)) rfl (λρ h=>Ct (a:=F.uA) 0 0 Tryz.underlying140 Dg rfl rfl rfl (h _ _ rfl)) (Hi (kk:=kk) (p:= .Ec sv true (it+1)) bV ac rfl rfl rfl rfl rfl Ha Ir rfl λa7 b9 bv=>⟨some (.Cg sv true (it+1) a7),List.mem_singleton.2 rfl,?_⟩);refine zg 3 rfl (JL.again ?_);rw [← a6];exact Er [(0,.pointer (some F.uA)),(2,iV wt),(3,.bool sv),(4,.bool true),(5,iV ((it+1:Nat):Int)),(6,.int .i32 (a7:M4).num)] rfl (bW (sv,true,it+1,a7,wt) (by show 4 - (it+1)<N;omega) ⟨bv.2.2.2,(by show it+1<=4;omega),bv.2.2.1⟩)
         ·refine Al (v:= .bool false) rfl (λρ h=>LV (h _ _ rfl) (h _ _ rfl)) (zg 5 rfl ?_);refine JL.ext (v:= .tuple #[]) rfl rfl rfl L3 rfl rfl (zg 4 rfl ?_);refine Al (v:=iV ((it+1:Nat):Int)) rfl (λρ h=>Gc (h _ _ rfl) (h _ _ rfl) (by unfold Aw;rw [if_pos (by omega)];congr 1)) (zg 6 rfl ?_);refine Al (v:= .pointer (some F.uA)) rfl (λρ h=>Ct (a:=F.uA) 0 0 Tryz.underlying140 Dg rfl rfl rfl (h _ _ rfl)) (Hi (kk:=kk) (p:= .Ec sv false (it+1)) bV ac rfl rfl rfl rfl rfl Ha Ir rfl λa7 b9 bv=>⟨some (.Cg sv false (it+1) a7),List.mem_singleton.2 rfl,?_⟩);refine zg 3 rfl (JL.again ?_);rw [← a6];exact Er [(0,.pointer (some F.uA)),(2,iV wt),(3,.bool sv),(4,.bool false),(5,iV ((it+1:Nat):Int)),(6,.int .i32 (a7:M4).num)] rfl (bW (sv,false,it+1,a7,wt) (by show 4 - (it+1)<N;omega) ⟨bv.2.2.2,(by show it+1<=4;omega),bv.2.2.1⟩)
        ·refine Is rfl rfl rfl (zg 12 rfl ?_);refine JL.ext (v:= .tuple #[]) rfl rfl rfl L3 rfl rfl (zg 4 rfl ?_);refine Al (v:=iV ((it+1:Nat):Int)) rfl (λρ h=>Gc (h _ _ rfl) (h _ _ rfl) (by unfold Aw;rw [if_pos (by omega)];congr 1)) (zg 6 rfl ?_);refine Al (v:= .pointer (some F.uA)) rfl (λρ h=>Ct (a:=F.uA) 0 0 Tryz.underlying140 Dg rfl rfl rfl (h _ _ rfl)) (Hi (kk:=kk) (p:= .Cg sv aw it old) bV ac rfl rfl rfl rfl rfl Ha Ir rfl λm q a4=>⟨some (.Cg sv aw (it+1) m),Po a3 bY (λe=>c3 (by omega)),?_⟩);refine zg 3 rfl (JL.again ?_);rw [← a6];exact Er [(0,.pointer (some F.uA)),(2,iV wt),(3,.bool sv),(4,.bool aw),(5,iV ((it+1:Nat):Int)),(6,.int .i32 (m:M4).num)] rfl (bW (sv,aw,it+1,m,wt) (by show 4 - (it+1)<N;omega) ⟨a4.2.2.2.2.2,(by show it+1<=4;omega),a4.2.2.2.2.1⟩)
       ·refine Is rfl rfl rfl (zg 17 rfl ?_);refine JL.ext (v:= .tuple #[]) rfl rfl rfl L3 rfl rfl (zg 4 rfl ?_);refine Al (v:=iV ((it+1:Nat):Int)) rfl (λρ h=>Gc (h _ _ rfl) (h _ _ rfl) (by unfold Aw;rw [if_pos (by omega)];congr 1)) (zg 6 rfl ?_);refine Al (v:= .pointer (some F.uA)) rfl (λρ h=>Ct (a:=F.uA) 0 0 Tryz.underlying140 Dg rfl rfl rfl (h _ _ rfl)) (Hi (kk:=kk) (p:= .Cg sv aw it old) bV ac rfl rfl rfl rfl rfl Ha Ir rfl λm q a4=>⟨some (.Cg sv aw (it+1) m),Po a3 bY (λe=>c2 ((P4 old).2 e.2.1)),?_⟩);refine zg 3 rfl (JL.again ?_);rw [← a6];exact Er [(0,.pointer (some F.uA)),(2,iV wt),(3,.bool sv),(4,.bool aw),(5,iV ((it+1:Nat):Int)),(6,.int .i32 (m:M4).num)] rfl (bW (sv,aw,it+1,m,wt) (by show 4 - (it+1)<N;omega) ⟨a4.2.2.2.2.2,(by show it+1<=4;omega),a4.2.2.2.2.1⟩)
      ·refine Is rfl rfl rfl (zg 22 rfl ?_);refine JL.ext (v:= .tuple #[]) rfl rfl rfl L3 rfl rfl (zg 4 rfl ?_);refine Al (v:=iV ((it+1:Nat):Int)) rfl (λρ h=>Gc (h _ _ rfl) (h _ _ rfl) (by unfold Aw;rw [if_pos (by omega)];congr 1)) (zg 6 rfl ?_);refine Al (v:= .pointer (some F.uA)) rfl (λρ h=>Ct (a:=F.uA) 0 0 Tryz.underlying140 Dg rfl rfl rfl (h _ _ rfl)) (Hi (kk:=kk) (p:= .Cg sv aw it old) bV ac rfl rfl rfl rfl rfl Ha Ir rfl λm q a4=>⟨some (.Cg sv aw (it+1) m),Po a3 bY (λe=>by rw [e.1] at c1;cases c1),?_⟩);refine zg 3 rfl (JL.again ?_);rw [← a6];exact Er [(0,.pointer (some F.uA)),(2,iV wt),(3,.bool sv),(4,.bool aw),(5,iV ((it+1:Nat):Int)),(6,.int .i32 (m:M4).num)] rfl (bW (sv,aw,it+1,m,wt) (by show 4 - (it+1)<N;omega) ⟨a4.2.2.2.2.2,(by show it+1<=4;omega),a4.2.2.2.2.1⟩)
     ·refine Al (v:= .bool false) rfl (λρ h=>LV (h _ _ rfl) (h _ _ rfl)) (zg 3 rfl ?_);exact AB (az _ _ ⟨rfl,rfl⟩) rfl
    ·refine Is rfl rfl rfl (zg 5 rfl ?_);exact AB (az _ _ ⟨rfl,rfl⟩) rfl
   rintro _ _ ⟨rfl,rfl⟩;refine zg 6 rfl (Bw (λL s'=>s=s'/\L= [(0,.pointer (some F.uA)),(2,iV wt),(3,.bool sv),(4,.bool aw),(5,iV (it:Int)),(6,.int .i32 (old:M4).num),(7,.int .i32 ({old with l:=old.l || !old.s}:M4).num)]) ?_ ?_)
   rotate_left
   ·intro az;refine zg 3 rfl (Al (v:=CL (BA old&&& 4)) rfl (λρ h=>Eo (c:=4) a2 (h _ _ rfl) (h _ _ rfl) (by decide)) ?_);refine zg 2 rfl (Gd (p:=((BA old&&& 4:Nat):Int)=0) rfl (λc=>?_) (λc=>?_))
    ·refine JL.region (zg 1 rfl ?_);refine Al (v:= .int .i32 ({old with l:=true}:M4).num) rfl (λρ h=>NG (c:=1) a2 (by decide) (bN old) rfl (h _ _ rfl) (h _ _ rfl)) (zg 2 rfl ?_);refine Fs ?_ (az _ _ ⟨rfl,rfl⟩);exact⟨rfl,rfl,rfl,rfl,rfl,rfl,congrArg (λm:M4=>some (Value.int .i32 m.num)) (by rw [(HS old).1 c];simp),trivial⟩
    ·refine JL.skip (Fs ?_ (az _ _ ⟨rfl,rfl⟩));exact⟨rfl,rfl,rfl,rfl,rfl,rfl,congrArg (λm:M4=>some (Value.int .i32 m.num)) ((Bool.eq_false_or_eq_true old.s).elim (G2 old) (λhh=>absurd ((HS old).2 hh) c)),trivial⟩
   rintro _ _ ⟨rfl,rfl⟩;have cz:Ch {old with l:=old.l || !old.s}:=a2;refine JL.seq (Bw (λL s'=>s=s'/\L= [(0,.pointer (some F.uA)),(2,iV wt),(3,.bool sv),(4,.bool aw),(5,iV (it:Int)),(6,.int .i32 (old:M4).num),(7,.int .i32 ({old with l:=old.l || !old.s,w:=if old.l=true∨old.s=true then old.w+1 else old.w}:M4).num)]) ?_ ?_)
   rotate_left
   ·intro az;refine zg 3 rfl (Al (v:=CL (BA old&&& 5)) rfl (λρ h=>Eo (c:=5) a2 (h _ _ rfl) (h _ _ rfl) (by decide)) ?_);refine zg 2 rfl (Gd (p:=((BA old&&& 5:Nat):Int)≠0) rfl (λc=>?_) (λc=>?_))
    ·refine JL.region (zg 1 rfl ?_);refine Al (v:= .int .i32 ({old with l:=old.l || !old.s,w:=old.w+1}:M4).num) rfl (λρ h=>XJ (m:={old with l:=old.l || !old.s}) b3 (h _ _ rfl) (h _ _ rfl)) (zg 2 rfl ?_);refine Fs ?_ (az _ _ ⟨rfl,rfl⟩);exact⟨rfl,rfl,rfl,rfl,rfl,rfl,congrArg (λm:M4=>some (Value.int .i32 m.num)) (by rw [if_pos (by have:=λe=>c ((Mn old).2 e);cases cA:old.l <;> cases cB:old.s <;> simp_all)]),trivial⟩
    ·refine JL.skip (Fs ?_ (az _ _ ⟨rfl,rfl⟩));exact⟨rfl,rfl,rfl,rfl,rfl,rfl,congrArg (λm:M4=>some (Value.int .i32 m.num)) (by rw [if_neg (by have:=(Mn old).1 (Decidable.not_not.1 c);rw [this.1,this.2];simp)]),trivial⟩
   rintro _ _ ⟨rfl,rfl⟩;have ca:Ch ({old with l:=old.l || !old.s,w:=if old.l=true∨old.s=true then old.w+1 else old.w}:M4):=by unfold CX at b3;unfold Ch;simp only;split <;> omega
   refine JL.seq (Bw (λL s'=>s=s'/\L= [(0,.pointer (some F.uA)),(2,iV wt),(3,.bool sv),(4,.bool aw),(5,iV (it:Int)),(6,.int .i32 (old:M4).num),(7,.int .i32 ({old with l:=old.l || !old.s,s:=old.s || (sv&&old.l),w:=if old.l=true∨old.s=true then old.w+1 else old.w}:M4).num)]) ?_ ?_)
   rotate_left
   ·intro az;refine zg 4 rfl (Ko (c:=sv) (i:=61) rfl (λc1=>?_) (λc1=>?_))
    ·refine Al (v:= .int .i32 (old:M4).num) rfl (λρ h=>Yl.move (h _ _ rfl)) (Al (v:=CL (BA old&&& 1)) rfl (λρ h=>Eo (c:=1) a2 (h _ _ rfl) (h _ _ rfl) (by decide)) ?_);refine zg 3 rfl (Gd (p:=((BA old&&& 1:Nat):Int)≠0) rfl (λc=>?_) (λc=>?_))
     ·refine JL.region (zg 1 rfl ?_);refine Al (v:= .int .i32 ({old with s:=true,l:=old.l || !old.s,w:=if old.l=true∨old.s=true then old.w+1 else old.w}:M4).num) rfl (λρ h=>NG (c:=4) (m:={old with l:=old.l || !old.s,w:=if old.l=true∨old.s=true then old.w+1 else old.w}) ca (by decide) (bL _) rfl (h _ _ rfl) (h _ _ rfl)) ?_
      refine zg 2 rfl (Fs ?_ (az _ _ ⟨rfl,rfl⟩));exact⟨rfl,rfl,rfl,rfl,rfl,rfl,congrArg (λm:M4=>some (Value.int .i32 m.num)) (by rcases Bool.eq_false_or_eq_true old.l with hh | hh <;> first | exact absurd ((Qe old).2 hh) c | (rw [c1,hh];simp)),trivial⟩
     ·refine JL.skip (Fs ?_ (az _ _ ⟨rfl,rfl⟩));exact⟨rfl,rfl,rfl,rfl,rfl,rfl,congrArg (λm:M4=>some (Value.int .i32 m.num)) (by have:=(Qe old).1 (Decidable.not_not.1 c);rw [this];simp),trivial⟩
    ·refine Is rfl rfl rfl (zg 6 rfl ?_);refine Fs ?_ (az _ _ ⟨rfl,rfl⟩);exact⟨rfl,rfl,rfl,rfl,rfl,rfl,congrArg (λm:M4=>some (Value.int .i32 m.num)) (by rw [c1];simp),trivial⟩
   rintro _ _ ⟨rfl,rfl⟩;have cb:Ch ({old with l:=old.l || !old.s,s:=old.s || (sv&&old.l),w:=if old.l=true∨old.s=true then old.w+1 else old.w}:M4):=ca
   refine JL.seq (Bw (λL s'=>s=s'/\L= [(0,.pointer (some F.uA)),(2,iV wt),(3,.bool sv),(4,.bool aw),(5,iV (it:Int)),(6,.int .i32 (old:M4).num),(7,.int .i32 (mN sv aw old:M4).num)]) ?_ ?_)
   rotate_left
   ·intro az;refine zg 4 rfl (Pd (t:=aw) rfl (λc=>?_) (λc=>?_))
    ·have cc:old.k=true:=co c;refine zg 4 rfl ?_;refine Al (v:=CL (BA ({old with l:=old.l || !old.s,s:=old.s || (sv&&old.l),w:=if old.l=true∨old.s=true then old.w+1 else old.w}:M4)&&& 2)) rfl (λρ h=>Eo (c:=2) (m:={old with l:=old.l || !old.s,s:=old.s || (sv&&old.l),w:=if old.l=true∨old.s=true then old.w+1 else old.w}) cb (h _ _ rfl) (h _ _ rfl) (by decide)) ?_
     refine Al (v:= .bool false) rfl (λρ h=>Yl.to (Yl.eql (h _ _ rfl) (h _ _ rfl)) (by rw [decide_eq_false (λe=>by have q:=(P4 _).1 e;simp only at q;rw [cc] at q;cases q)])) (zg 5 rfl ?_);refine Al (v:= .int .i32 ({old with k:=false,l:=old.l || !old.s,s:=old.s || (sv&&old.l),w:=if old.l=true∨old.s=true then old.w+1 else old.w}:M4).num) rfl (λρ h=>Yl.Pr (m:={old with l:=old.l || !old.s,s:=old.s || (sv&&old.l),w:=if old.l=true∨old.s=true then old.w+1 else old.w}) cb cc (h _ _ rfl) (h _ _ rfl)) ?_
     refine zg 2 rfl (Fs ?_ (az _ _ ⟨rfl,rfl⟩));exact⟨rfl,rfl,rfl,rfl,rfl,rfl,congrArg (λm:M4=>some (Value.int .i32 m.num)) (by simp [mN,c]),trivial⟩
    ·refine JL.skip (Fs ?_ (az _ _ ⟨rfl,rfl⟩));exact⟨rfl,rfl,rfl,rfl,rfl,rfl,congrArg (λm:M4=>some (Value.int .i32 m.num)) (by simp [mN,c]),trivial⟩
   rintro _ _ ⟨rfl,rfl⟩;refine zg 4 rfl (Al (v:= .pointer (some F.uA)) rfl (λρ h=>Ct (a:=F.uA) 0 0 Tryz.underlying140 Dg rfl rfl rfl (h _ _ rfl)) ?_);refine zg 2 rfl (λT cq=>(AO Tryz.prog false).stop (hC (sv,aw,it,old,wt) _ bU λX cC cr O ay bZ=>?_));refine Pa (kk:=kk) (p:= .Cg sv aw it old) (old:=old) (nw:=mN sv aw old) cr ac rfl rfl rfl rfl rfl N1 rfl rfl rfl (λq a4=>?_) (λm q hm a4=>⟨some (.Ec sv aw it),W5 hm,?_⟩) T cq
   ·by_cases a3:old.l=false/\old.s=false
    ·refine⟨some .len,XH a3,?_⟩;refine zg 6 rfl (Al (v:=CL (BA old&&& 5)) rfl (λρ h=>Eo (c:=5) a2 (h _ _ rfl) (h _ _ rfl) (by decide)) ?_);refine Al (v:= .bool true) rfl (λρ h=>Yl.to (Yl.eql (h _ _ rfl) (h _ _ rfl)) (by rw [decide_eq_true ((Mn old).2 a3)])) (zg 3 rfl ?_);exact a1 X O ay _ rfl
    ·by_cases cd:wt=0
     ·refine⟨some ((.Ip sv)),RN a3 _ (.inl rfl),?_⟩;refine zg 6 rfl (Al (v:=CL (BA old&&& 5)) rfl (λρ h=>Eo (c:=5) a2 (h _ _ rfl) (h _ _ rfl) (by decide)) ?_);refine Al (v:= .bool false) rfl (λρ h=>Yl.to (Yl.eql (h _ _ rfl) (h _ _ rfl)) (by rw [decide_eq_false (λe=>a3 ((Mn old).1 e))])) ?_;refine zg 13 rfl (Al (v:= .bool true) rfl (λρ h=>Yl.to (Yl.eql (h _ _ rfl) (h _ _ rfl)) (by rw [decide_eq_true cd])) ?_);refine zg 3 rfl (OT (kk:=kk) (p:= .Ip sv) O ac rfl rfl rfl rfl rfl P0 Qf λm a5 v al=>⟨some (.Cn sv),List.mem_singleton.2 rfl,?_⟩);refine zg 6 rfl (Al (v:= .pointer (some F.qA)) rfl (λρ h=>Ct (a:=F.uA) 0 1 Tryz.underlying140 MM rfl rfl rfl (h _ _ rfl)) ?_);refine zg 1 rfl (Rf (kk:=kk) (sv:=sv) O ac rfl rfl rfl rfl TL rfl rfl ?_);refine JL.done ?_;cases sv
      ·rw [if_neg (by decide)];refine zg 4 rfl (OT (kk:=kk) (p:= .F1) O ac rfl rfl rfl rfl rfl P0 Qf λct cu v2 cv=>⟨some (.Es (decide (IntKind.i64.wrap (v2 - v)>1000000))),by (cases decide (IntKind.i64.wrap (v2 - v)>1000000) <;> simp [Fam.BW]),?_⟩);refine zg 1 rfl (Al (v:= .int .i64 (IntKind.i64.wrap (v2 - v))) rfl (λρ h=>Yl.sub (h _ _ rfl) (h _ _ rfl)) ?_);refine zg 4 rfl ?_;generalize decide (IntKind.i64.wrap (v2 - v)>1000000)=av;refine zg 4 rfl (Al (v:= .pointer (some F.uA)) rfl (λρ h=>Ct (a:=F.uA) 0 0 Tryz.underlying140 Dg rfl rfl rfl (h _ _ rfl)) ?_);refine Hi (kk:=kk) (p:= .Es av) O ac rfl rfl rfl rfl rfl Ha Ir rfl ?_;intro m b4 a0;have a8:CX m:=a0.2.2;have am:Ch m:=a8.Ch;by_cases ag:m.s=true
       ·refine⟨some (.DX (!av || m.w==1)),by simp [Fam.BW,ag],?_⟩;refine zg 2 rfl ?_;obtain⟨bw,bx,bz⟩:=a0.1 ag;refine zg 4 rfl (Al (v:=CL (BA m&&& 4)) rfl (λρ h=>Eo (c:=4) am (h _ _ rfl) (h _ _ rfl) (by decide)) ?_);refine Al (v:= .bool true) rfl (λρ h=>Yl.to (HJ (h _ _ rfl) (h _ _ rfl)) (by have bT:(((BA m&&& 4:Nat):Int)≠0):=(λe=>by rw [(HS m).1 e] at ag;cases ag);rw [decide_eq_true bT])) ?_;refine zg 6 rfl (Al (v:=CL (BA m&&& 3)) rfl (λρ h=>Eo (c:=3) am (h _ _ rfl) (h _ _ rfl) (by decide)) ?_);refine Al (v:= .bool false) rfl (λρ h=>Yl.to (HJ (h _ _ rfl) (h _ _ rfl)) (by rw [(NU m).2 ⟨bw,bx⟩];rfl)) (zg 2 rfl ?_);refine Al (v:=CL m.w) rfl (λρ h=>IP am (h _ _ rfl) (h _ _ rfl)) (Al (v:= .bool false) rfl (λρ h=>Yl.to (Yl.eql (h _ _ rfl) (h _ _ rfl)) (by rw [decide_eq_false (λe=>bz (by omega))])) ?_);refine zg 12 rfl (Al (v:= .bool (!av)) rfl (λρ h=>Yl.not (h _ _ rfl)) ?_);refine zg 1 rfl (Ko (c:= !av) (i:=119) rfl (λd1=>?_) (λd1=>?_))
        ·refine Is rfl rfl rfl (zg 5 rfl ?_);have hex:(!av || m.w==1)=true:=by rw [d1];simp
         rw [hex];refine zg 2 rfl (Al (v:= .int .i32 (-11)) rfl (λρ h=>Yl.to (Yl.sub (h _ _ rfl) (h _ _ rfl)) rfl) ?_);refine zg 6 rfl (Al (v:= .pointer (some F.uA)) rfl (λρ h=>Ct (a:=F.uA) 0 0 Tryz.underlying140 Dg rfl rfl rfl (h _ _ rfl)) ?_);refine zg 1 rfl (Hf (kk:=kk) (p:= .DX true) (dl:= -11) O ac rfl rfl rfl rfl rfl Hn rfl rfl λK a5 al=>⟨⟨true,K.k,false,K.w - 1⟩,some .len,?_,List.mem_singleton.2 rfl,?_⟩)
         ·obtain⟨a9,bb,be,w3⟩:=K;obtain⟨U,g2,Z,ap,bi,aq⟩:=al;simp only at U g2 Z ap;subst U g2 Z;have bn:w3<134217728:=aq;have e:(⟨false,false,true,w3⟩:M4).num+(-11)=((8*(w3 - 1)+1:Nat):Int):=by simp only [M4.num,Bool.toNat_true,Bool.toNat_false];omega
          rw [e,Fv (by omega)];simp only [M4.num,Bool.toNat_true,Bool.toNat_false];omega
         exact zg 2 rfl (a1 X O ay _ rfl)
        ·refine Al (v:= .int .i32 (m:M4).num) rfl (λρ h=>Yl.move (h _ _ rfl)) (Al (v:=CL m.w) rfl (λρ h=>IP am (h _ _ rfl) (h _ _ rfl)) ?_);refine zg 3 rfl (Gd (p:=(m.w:Int)=1) rfl (λd2=>?_) (λd2=>?_))
         ·have hex:(!av || m.w==1)=true:=by rw [d1];simp;omega
          rw [hex];refine zg 2 rfl (Al (v:= .int .i32 (-11)) rfl (λρ h=>Yl.to (Yl.sub (h _ _ rfl) (h _ _ rfl)) rfl) ?_);refine zg 6 rfl (Al (v:= .pointer (some F.uA)) rfl (λρ h=>Ct (a:=F.uA) 0 0 Tryz.underlying140 Dg rfl rfl rfl (h _ _ rfl)) ?_);refine zg 1 rfl (Hf (kk:=kk) (p:= .DX true) (dl:= -11) O ac rfl rfl rfl rfl rfl Hn rfl rfl λK a5 al=>⟨⟨true,K.k,false,K.w - 1⟩,some .len,?_,List.mem_singleton.2 rfl,?_⟩)
          ·obtain⟨a9,bb,be,w3⟩:=K;obtain⟨U,g2,Z,ap,bi,aq⟩:=al;simp only at U g2 Z ap;subst U g2 Z;have bn:w3<134217728:=aq;have e:(⟨false,false,true,w3⟩:M4).num+(-11)=((8*(w3 - 1)+1:Nat):Int):=by simp only [M4.num,Bool.toNat_true,Bool.toNat_false];omega
           rw [e,Fv (by omega)];simp only [M4.num,Bool.toNat_true,Bool.toNat_false];omega
          exact zg 2 rfl (a1 X O ay _ rfl)
         ·have hex:(!av || m.w==1)=false:=by rw [d1];simp;omega
          rw [hex];refine zg 5 rfl (Al (v:= .pointer (some F.uA)) rfl (λρ h=>Ct (a:=F.uA) 0 0 Tryz.underlying140 Dg rfl rfl rfl (h _ _ rfl)) ?_);refine zg 1 rfl (Hf (kk:=kk) (p:= .DX false) (dl:= -7) O ac rfl rfl rfl rfl rfl Hn rfl rfl λK a5 al=>⟨⟨true,K.k,true,K.w - 1⟩,some .len,?_,List.mem_singleton.2 rfl,?_⟩)
          ·obtain⟨a9,bb,be,w3⟩:=K;obtain⟨U,g2,Z,ap,bi,aq⟩:=al;simp only at U g2 Z ap;subst U g2 Z;have bn:w3<134217728:=aq;have e:(⟨false,false,true,w3⟩:M4).num+(-7)=((8*(w3 - 1)+5:Nat):Int):=by simp only [M4.num,Bool.toNat_true,Bool.toNat_false];omega
           rw [e,Fv (by omega)];simp only [M4.num,Bool.toNat_true,Bool.toNat_false];omega
          exact zg 2 rfl (a1 X O ay _ rfl)
       ·refine⟨some (.Cg av true 0 m),by simp [Fam.BW,ag],?_⟩;refine zg 2 rfl ?_;have bo:m.s=false:=by simpa using ag
        refine zg 4 rfl (Al (v:=CL (BA m&&& 4)) rfl (λρ h=>Eo (c:=4) am (h _ _ rfl) (h _ _ rfl) (by decide)) ?_);refine Al (v:= .bool false) rfl (λρ h=>Yl.to (HJ (h _ _ rfl) (h _ _ rfl)) (by rw [(HS m).2 bo];rfl)) (zg 11 rfl ?_);refine JL.again ?_;rw [← a6];exact Er [(0,.pointer (some F.uA)),(2,iV v),(3,.bool av),(4,.bool true),(5,iV ((0:Nat):Int)),(6,.int .i32 (m:M4).num)] rfl (bZ (av,true,0,m,v) ⟨λ_=>a0.2.1 bo,Nat.zero_le _,a8⟩)
      ·rw [if_pos rfl];refine zg 15 rfl (Al (v:= .pointer (some F.uA)) rfl (λρ h=>Ct (a:=F.uA) 0 0 Tryz.underlying140 Dg rfl rfl rfl (h _ _ rfl)) ?_);refine Hi (kk:=kk) (p:= .Es true) O ac rfl rfl rfl rfl rfl Ha Ir rfl ?_;intro m b4 a0;have a8:CX m:=a0.2.2;have am:Ch m:=a8.Ch;by_cases ag:m.s=true
       ·refine⟨some (.DX (!true || m.w==1)),by simp [Fam.BW,ag],?_⟩;refine zg 2 rfl ?_;obtain⟨bw,bx,bz⟩:=a0.1 ag;refine zg 4 rfl (Al (v:=CL (BA m&&& 4)) rfl (λρ h=>Eo (c:=4) am (h _ _ rfl) (h _ _ rfl) (by decide)) ?_);refine Al (v:= .bool true) rfl (λρ h=>Yl.to (HJ (h _ _ rfl) (h _ _ rfl)) (by have bT:(((BA m&&& 4:Nat):Int)≠0):=(λe=>by rw [(HS m).1 e] at ag;cases ag);rw [decide_eq_true bT])) ?_;refine zg 6 rfl (Al (v:=CL (BA m&&& 3)) rfl (λρ h=>Eo (c:=3) am (h _ _ rfl) (h _ _ rfl) (by decide)) ?_);refine Al (v:= .bool false) rfl (λρ h=>Yl.to (HJ (h _ _ rfl) (h _ _ rfl)) (by rw [(NU m).2 ⟨bw,bx⟩];rfl)) (zg 2 rfl ?_);refine Al (v:=CL m.w) rfl (λρ h=>IP am (h _ _ rfl) (h _ _ rfl)) (Al (v:= .bool false) rfl (λρ h=>Yl.to (Yl.eql (h _ _ rfl) (h _ _ rfl)) (by rw [decide_eq_false (λe=>bz (by omega))])) ?_);refine zg 12 rfl (Al (v:= .bool (!true)) rfl (λρ h=>Yl.not (h _ _ rfl)) ?_);refine zg 1 rfl (Ko (c:= !true) (i:=119) rfl (λd1=>?_) (λd1=>?_))
        ·refine Is rfl rfl rfl (zg 5 rfl ?_);have hex:(!true || m.w==1)=true:=by rw [d1];simp
         rw [hex];refine zg 2 rfl (Al (v:= .int .i32 (-11)) rfl (λρ h=>Yl.to (Yl.sub (h _ _ rfl) (h _ _ rfl)) rfl) ?_);refine zg 6 rfl (Al (v:= .pointer (some F.uA)) rfl (λρ h=>Ct (a:=F.uA) 0 0 Tryz.underlying140 Dg rfl rfl rfl (h _ _ rfl)) ?_);refine zg 1 rfl (Hf (kk:=kk) (p:= .DX true) (dl:= -11) O ac rfl rfl rfl rfl rfl Hn rfl rfl λK a5 al=>⟨⟨true,K.k,false,K.w - 1⟩,some .len,?_,List.mem_singleton.2 rfl,?_⟩)
         ·obtain⟨a9,bb,be,w3⟩:=K;obtain⟨U,g2,Z,ap,bi,aq⟩:=al;simp only at U g2 Z ap;subst U g2 Z;have bn:w3<134217728:=aq;have e:(⟨false,false,true,w3⟩:M4).num+(-11)=((8*(w3 - 1)+1:Nat):Int):=by simp only [M4.num,Bool.toNat_true,Bool.toNat_false];omega
          rw [e,Fv (by omega)];simp only [M4.num,Bool.toNat_true,Bool.toNat_false];omega
         exact zg 2 rfl (a1 X O ay _ rfl)
        ·refine Al (v:= .int .i32 (m:M4).num) rfl (λρ h=>Yl.move (h _ _ rfl)) (Al (v:=CL m.w) rfl (λρ h=>IP am (h _ _ rfl) (h _ _ rfl)) ?_);refine zg 3 rfl (Gd (p:=(m.w:Int)=1) rfl (λd2=>?_) (λd2=>?_))
         ·have hex:(!true || m.w==1)=true:=by rw [d1];simp;omega
          rw [hex];refine zg 2 rfl (Al (v:= .int .i32 (-11)) rfl (λρ h=>Yl.to (Yl.sub (h _ _ rfl) (h _ _ rfl)) rfl) ?_);refine zg 6 rfl (Al (v:= .pointer (some F.uA)) rfl (λρ h=>Ct (a:=F.uA) 0 0 Tryz.underlying140 Dg rfl rfl rfl (h _ _ rfl)) ?_);refine zg 1 rfl (Hf (kk:=kk) (p:= .DX true) (dl:= -11) O ac rfl rfl rfl rfl rfl Hn rfl rfl λK a5 al=>⟨⟨true,K.k,false,K.w - 1⟩,some .len,?_,List.mem_singleton.2 rfl,?_⟩)
          ·obtain⟨a9,bb,be,w3⟩:=K;obtain⟨U,g2,Z,ap,bi,aq⟩:=al;simp only at U g2 Z ap;subst U g2 Z;have bn:w3<134217728:=aq;have e:(⟨false,false,true,w3⟩:M4).num+(-11)=((8*(w3 - 1)+1:Nat):Int):=by simp only [M4.num,Bool.toNat_true,Bool.toNat_false];omega
           rw [e,Fv (by omega)];simp only [M4.num,Bool.toNat_true,Bool.toNat_false];omega
          exact zg 2 rfl (a1 X O ay _ rfl)
         ·have hex:(!true || m.w==1)=false:=by rw [d1];simp;omega
          rw [hex];refine zg 5 rfl (Al (v:= .pointer (some F.uA)) rfl (λρ h=>Ct (a:=F.uA) 0 0 Tryz.underlying140 Dg rfl rfl rfl (h _ _ rfl)) ?_);refine zg 1 rfl (Hf (kk:=kk) (p:= .DX false) (dl:= -7) O ac rfl rfl rfl rfl rfl Hn rfl rfl λK a5 al=>⟨⟨true,K.k,true,K.w - 1⟩,some .len,?_,List.mem_singleton.2 rfl,?_⟩)
          ·obtain⟨a9,bb,be,w3⟩:=K;obtain⟨U,g2,Z,ap,bi,aq⟩:=al;simp only at U g2 Z ap;subst U g2 Z;have bn:w3<134217728:=aq;have e:(⟨false,false,true,w3⟩:M4).num+(-7)=((8*(w3 - 1)+5:Nat):Int):=by simp only [M4.num,Bool.toNat_true,Bool.toNat_false];omega
           rw [e,Fv (by omega)];simp only [M4.num,Bool.toNat_true,Bool.toNat_false];omega
          exact zg 2 rfl (a1 X O ay _ rfl)
       ·refine⟨some (.Cg true true 0 m),by simp [Fam.BW,ag],?_⟩;refine zg 2 rfl ?_;have bo:m.s=false:=by simpa using ag
        refine zg 4 rfl (Al (v:=CL (BA m&&& 4)) rfl (λρ h=>Eo (c:=4) am (h _ _ rfl) (h _ _ rfl) (by decide)) ?_);refine Al (v:= .bool false) rfl (λρ h=>Yl.to (HJ (h _ _ rfl) (h _ _ rfl)) (by rw [(HS m).2 bo];rfl)) (zg 11 rfl ?_);refine JL.again ?_;rw [← a6];exact Er [(0,.pointer (some F.uA)),(2,iV v),(3,.bool true),(4,.bool true),(5,iV ((0:Nat):Int)),(6,.int .i32 (m:M4).num)] rfl (bZ (true,true,0,m,v) ⟨λ_=>a0.2.1 bo,Nat.zero_le _,a8⟩)
     ·refine⟨some ((.Cn sv)),RN a3 _ (.inr rfl),?_⟩;refine zg 6 rfl (Al (v:=CL (BA old&&& 5)) rfl (λρ h=>Eo (c:=5) a2 (h _ _ rfl) (h _ _ rfl) (by decide)) ?_);refine Al (v:= .bool false) rfl (λρ h=>Yl.to (Yl.eql (h _ _ rfl) (h _ _ rfl)) (by rw [decide_eq_false (λe=>a3 ((Mn old).1 e))])) ?_;refine zg 13 rfl (Al (v:= .bool false) rfl (λρ h=>Yl.to (Yl.eql (h _ _ rfl) (h _ _ rfl)) (by rw [decide_eq_false cd])) ?_);refine zg 7 rfl (Al (v:= .pointer (some F.qA)) rfl (λρ h=>Ct (a:=F.uA) 0 1 Tryz.underlying140 MM rfl rfl rfl (h _ _ rfl)) ?_);refine zg 1 rfl (Rf (kk:=kk) (sv:=sv) O ac rfl rfl rfl rfl TL rfl rfl ?_);refine JL.done ?_;cases sv
      ·rw [if_neg (by decide)];refine zg 4 rfl (OT (kk:=kk) (p:= .F1) O ac rfl rfl rfl rfl rfl P0 Qf λct cu v2 cv=>⟨some (.Es (decide (IntKind.i64.wrap (v2 - wt)>1000000))),by (cases decide (IntKind.i64.wrap (v2 - wt)>1000000) <;> simp [Fam.BW]),?_⟩);refine zg 1 rfl (Al (v:= .int .i64 (IntKind.i64.wrap (v2 - wt))) rfl (λρ h=>Yl.sub (h _ _ rfl) (h _ _ rfl)) ?_);refine zg 4 rfl ?_;generalize decide (IntKind.i64.wrap (v2 - wt)>1000000)=av;refine zg 4 rfl (Al (v:= .pointer (some F.uA)) rfl (λρ h=>Ct (a:=F.uA) 0 0 Tryz.underlying140 Dg rfl rfl rfl (h _ _ rfl)) ?_);refine Hi (kk:=kk) (p:= .Es av) O ac rfl rfl rfl rfl rfl Ha Ir rfl ?_;intro m b4 a0;have a8:CX m:=a0.2.2;have am:Ch m:=a8.Ch;by_cases ag:m.s=true
       ·refine⟨some (.DX (!av || m.w==1)),by simp [Fam.BW,ag],?_⟩;refine zg 2 rfl ?_;obtain⟨bw,bx,bz⟩:=a0.1 ag;refine zg 4 rfl (Al (v:=CL (BA m&&& 4)) rfl (λρ h=>Eo (c:=4) am (h _ _ rfl) (h _ _ rfl) (by decide)) ?_);refine Al (v:= .bool true) rfl (λρ h=>Yl.to (HJ (h _ _ rfl) (h _ _ rfl)) (by have bT:(((BA m&&& 4:Nat):Int)≠0):=(λe=>by rw [(HS m).1 e] at ag;cases ag);rw [decide_eq_true bT])) ?_;refine zg 6 rfl (Al (v:=CL (BA m&&& 3)) rfl (λρ h=>Eo (c:=3) am (h _ _ rfl) (h _ _ rfl) (by decide)) ?_);refine Al (v:= .bool false) rfl (λρ h=>Yl.to (HJ (h _ _ rfl) (h _ _ rfl)) (by rw [(NU m).2 ⟨bw,bx⟩];rfl)) (zg 2 rfl ?_);refine Al (v:=CL m.w) rfl (λρ h=>IP am (h _ _ rfl) (h _ _ rfl)) (Al (v:= .bool false) rfl (λρ h=>Yl.to (Yl.eql (h _ _ rfl) (h _ _ rfl)) (by rw [decide_eq_false (λe=>bz (by omega))])) ?_);refine zg 12 rfl (Al (v:= .bool (!av)) rfl (λρ h=>Yl.not (h _ _ rfl)) ?_);refine zg 1 rfl (Ko (c:= !av) (i:=119) rfl (λd1=>?_) (λd1=>?_))
        ·refine Is rfl rfl rfl (zg 5 rfl ?_);have hex:(!av || m.w==1)=true:=by rw [d1];simp
         rw [hex];refine zg 2 rfl (Al (v:= .int .i32 (-11)) rfl (λρ h=>Yl.to (Yl.sub (h _ _ rfl) (h _ _ rfl)) rfl) ?_);refine zg 6 rfl (Al (v:= .pointer (some F.uA)) rfl (λρ h=>Ct (a:=F.uA) 0 0 Tryz.underlying140 Dg rfl rfl rfl (h _ _ rfl)) ?_);refine zg 1 rfl (Hf (kk:=kk) (p:= .DX true) (dl:= -11) O ac rfl rfl rfl rfl rfl Hn rfl rfl λK a5 al=>⟨⟨true,K.k,false,K.w - 1⟩,some .len,?_,List.mem_singleton.2 rfl,?_⟩)
         ·obtain⟨a9,bb,be,w3⟩:=K;obtain⟨U,g2,Z,ap,bi,aq⟩:=al;simp only at U g2 Z ap;subst U g2 Z;have bn:w3<134217728:=aq;have e:(⟨false,false,true,w3⟩:M4).num+(-11)=((8*(w3 - 1)+1:Nat):Int):=by simp only [M4.num,Bool.toNat_true,Bool.toNat_false];omega
          rw [e,Fv (by omega)];simp only [M4.num,Bool.toNat_true,Bool.toNat_false];omega
         exact zg 2 rfl (a1 X O ay _ rfl)
        ·refine Al (v:= .int .i32 (m:M4).num) rfl (λρ h=>Yl.move (h _ _ rfl)) (Al (v:=CL m.w) rfl (λρ h=>IP am (h _ _ rfl) (h _ _ rfl)) ?_);refine zg 3 rfl (Gd (p:=(m.w:Int)=1) rfl (λd2=>?_) (λd2=>?_))
         ·have hex:(!av || m.w==1)=true:=by rw [d1];simp;omega
          rw [hex];refine zg 2 rfl (Al (v:= .int .i32 (-11)) rfl (λρ h=>Yl.to (Yl.sub (h _ _ rfl) (h _ _ rfl)) rfl) ?_);refine zg 6 rfl (Al (v:= .pointer (some F.uA)) rfl (λρ h=>Ct (a:=F.uA) 0 0 Tryz.underlying140 Dg rfl rfl rfl (h _ _ rfl)) ?_);refine zg 1 rfl (Hf (kk:=kk) (p:= .DX true) (dl:= -11) O ac rfl rfl rfl rfl rfl Hn rfl rfl λK a5 al=>⟨⟨true,K.k,false,K.w - 1⟩,some .len,?_,List.mem_singleton.2 rfl,?_⟩)
          ·obtain⟨a9,bb,be,w3⟩:=K;obtain⟨U,g2,Z,ap,bi,aq⟩:=al;simp only at U g2 Z ap;subst U g2 Z;have bn:w3<134217728:=aq;have e:(⟨false,false,true,w3⟩:M4).num+(-11)=((8*(w3 - 1)+1:Nat):Int):=by simp only [M4.num,Bool.toNat_true,Bool.toNat_false];omega
           rw [e,Fv (by omega)];simp only [M4.num,Bool.toNat_true,Bool.toNat_false];omega
          exact zg 2 rfl (a1 X O ay _ rfl)
         ·have hex:(!av || m.w==1)=false:=by rw [d1];simp;omega
          rw [hex];refine zg 5 rfl (Al (v:= .pointer (some F.uA)) rfl (λρ h=>Ct (a:=F.uA) 0 0 Tryz.underlying140 Dg rfl rfl rfl (h _ _ rfl)) ?_);refine zg 1 rfl (Hf (kk:=kk) (p:= .DX false) (dl:= -7) O ac rfl rfl rfl rfl rfl Hn rfl rfl λK a5 al=>⟨⟨true,K.k,true,K.w - 1⟩,some .len,?_,List.mem_singleton.2 rfl,?_⟩)
          ·obtain⟨a9,bb,be,w3⟩:=K;obtain⟨U,g2,Z,ap,bi,aq⟩:=al;simp only at U g2 Z ap;subst U g2 Z;have bn:w3<134217728:=aq;have e:(⟨false,false,true,w3⟩:M4).num+(-7)=((8*(w3 - 1)+5:Nat):Int):=by simp only [M4.num,Bool.toNat_true,Bool.toNat_false];omega
           rw [e,Fv (by omega)];simp only [M4.num,Bool.toNat_true,Bool.toNat_false];omega
          exact zg 2 rfl (a1 X O ay _ rfl)
       ·refine⟨some (.Cg av true 0 m),by simp [Fam.BW,ag],?_⟩;refine zg 2 rfl ?_;have bo:m.s=false:=by simpa using ag
        refine zg 4 rfl (Al (v:=CL (BA m&&& 4)) rfl (λρ h=>Eo (c:=4) am (h _ _ rfl) (h _ _ rfl) (by decide)) ?_);refine Al (v:= .bool false) rfl (λρ h=>Yl.to (HJ (h _ _ rfl) (h _ _ rfl)) (by rw [(HS m).2 bo];rfl)) (zg 11 rfl ?_);refine JL.again ?_;rw [← a6];exact Er [(0,.pointer (some F.uA)),(2,iV wt),(3,.bool av),(4,.bool true),(5,iV ((0:Nat):Int)),(6,.int .i32 (m:M4).num)] rfl (bZ (av,true,0,m,wt) ⟨λ_=>a0.2.1 bo,Nat.zero_le _,a8⟩)
      ·rw [if_pos rfl];refine zg 15 rfl (Al (v:= .pointer (some F.uA)) rfl (λρ h=>Ct (a:=F.uA) 0 0 Tryz.underlying140 Dg rfl rfl rfl (h _ _ rfl)) ?_);refine Hi (kk:=kk) (p:= .Es true) O ac rfl rfl rfl rfl rfl Ha Ir rfl ?_;intro m b4 a0;have a8:CX m:=a0.2.2;have am:Ch m:=a8.Ch;by_cases ag:m.s=true
       ·refine⟨some (.DX (!true || m.w==1)),by simp [Fam.BW,ag],?_⟩;refine zg 2 rfl ?_;obtain⟨bw,bx,bz⟩:=a0.1 ag;refine zg 4 rfl (Al (v:=CL (BA m&&& 4)) rfl (λρ h=>Eo (c:=4) am (h _ _ rfl) (h _ _ rfl) (by decide)) ?_);refine Al (v:= .bool true) rfl (λρ h=>Yl.to (HJ (h _ _ rfl) (h _ _ rfl)) (by have bT:(((BA m&&& 4:Nat):Int)≠0):=(λe=>by rw [(HS m).1 e] at ag;cases ag);rw [decide_eq_true bT])) ?_;refine zg 6 rfl (Al (v:=CL (BA m&&& 3)) rfl (λρ h=>Eo (c:=3) am (h _ _ rfl) (h _ _ rfl) (by decide)) ?_);refine Al (v:= .bool false) rfl (λρ h=>Yl.to (HJ (h _ _ rfl) (h _ _ rfl)) (by rw [(NU m).2 ⟨bw,bx⟩];rfl)) (zg 2 rfl ?_);refine Al (v:=CL m.w) rfl (λρ h=>IP am (h _ _ rfl) (h _ _ rfl)) (Al (v:= .bool false) rfl (λρ h=>Yl.to (Yl.eql (h _ _ rfl) (h _ _ rfl)) (by rw [decide_eq_false (λe=>bz (by omega))])) ?_);refine zg 12 rfl (Al (v:= .bool (!true)) rfl (λρ h=>Yl.not (h _ _ rfl)) ?_);refine zg 1 rfl (Ko (c:= !true) (i:=119) rfl (λd1=>?_) (λd1=>?_))
        ·refine Is rfl rfl rfl (zg 5 rfl ?_);have hex:(!true || m.w==1)=true:=by rw [d1];simp
         rw [hex];refine zg 2 rfl (Al (v:= .int .i32 (-11)) rfl (λρ h=>Yl.to (Yl.sub (h _ _ rfl) (h _ _ rfl)) rfl) ?_);refine zg 6 rfl (Al (v:= .pointer (some F.uA)) rfl (λρ h=>Ct (a:=F.uA) 0 0 Tryz.underlying140 Dg rfl rfl rfl (h _ _ rfl)) ?_);refine zg 1 rfl (Hf (kk:=kk) (p:= .DX true) (dl:= -11) O ac rfl rfl rfl rfl rfl Hn rfl rfl λK a5 al=>⟨⟨true,K.k,false,K.w - 1⟩,some .len,?_,List.mem_singleton.2 rfl,?_⟩)
         ·obtain⟨a9,bb,be,w3⟩:=K;obtain⟨U,g2,Z,ap,bi,aq⟩:=al;simp only at U g2 Z ap;subst U g2 Z;have bn:w3<134217728:=aq;have e:(⟨false,false,true,w3⟩:M4).num+(-11)=((8*(w3 - 1)+1:Nat):Int):=by simp only [M4.num,Bool.toNat_true,Bool.toNat_false];omega
          rw [e,Fv (by omega)];simp only [M4.num,Bool.toNat_true,Bool.toNat_false];omega
         exact zg 2 rfl (a1 X O ay _ rfl)
        ·refine Al (v:= .int .i32 (m:M4).num) rfl (λρ h=>Yl.move (h _ _ rfl)) (Al (v:=CL m.w) rfl (λρ h=>IP am (h _ _ rfl) (h _ _ rfl)) ?_);refine zg 3 rfl (Gd (p:=(m.w:Int)=1) rfl (λd2=>?_) (λd2=>?_))
         ·have hex:(!true || m.w==1)=true:=by rw [d1];simp;omega
          rw [hex];refine zg 2 rfl (Al (v:= .int .i32 (-11)) rfl (λρ h=>Yl.to (Yl.sub (h _ _ rfl) (h _ _ rfl)) rfl) ?_);refine zg 6 rfl (Al (v:= .pointer (some F.uA)) rfl (λρ h=>Ct (a:=F.uA) 0 0 Tryz.underlying140 Dg rfl rfl rfl (h _ _ rfl)) ?_);refine zg 1 rfl (Hf (kk:=kk) (p:= .DX true) (dl:= -11) O ac rfl rfl rfl rfl rfl Hn rfl rfl λK a5 al=>⟨⟨true,K.k,false,K.w - 1⟩,some .len,?_,List.mem_singleton.2 rfl,?_⟩)
          ·obtain⟨a9,bb,be,w3⟩:=K;obtain⟨U,g2,Z,ap,bi,aq⟩:=al;simp only at U g2 Z ap;subst U g2 Z;have bn:w3<134217728:=aq;have e:(⟨false,false,true,w3⟩:M4).num+(-11)=((8*(w3 - 1)+1:Nat):Int):=by simp only [M4.num,Bool.toNat_true,Bool.toNat_false];omega
           rw [e,Fv (by omega)];simp only [M4.num,Bool.toNat_true,Bool.toNat_false];omega
          exact zg 2 rfl (a1 X O ay _ rfl)
         ·have hex:(!true || m.w==1)=false:=by rw [d1];simp;omega
          rw [hex];refine zg 5 rfl (Al (v:= .pointer (some F.uA)) rfl (λρ h=>Ct (a:=F.uA) 0 0 Tryz.underlying140 Dg rfl rfl rfl (h _ _ rfl)) ?_);refine zg 1 rfl (Hf (kk:=kk) (p:= .DX false) (dl:= -7) O ac rfl rfl rfl rfl rfl Hn rfl rfl λK a5 al=>⟨⟨true,K.k,true,K.w - 1⟩,some .len,?_,List.mem_singleton.2 rfl,?_⟩)
          ·obtain⟨a9,bb,be,w3⟩:=K;obtain⟨U,g2,Z,ap,bi,aq⟩:=al;simp only at U g2 Z ap;subst U g2 Z;have bn:w3<134217728:=aq;have e:(⟨false,false,true,w3⟩:M4).num+(-7)=((8*(w3 - 1)+5:Nat):Int):=by simp only [M4.num,Bool.toNat_true,Bool.toNat_false];omega
           rw [e,Fv (by omega)];simp only [M4.num,Bool.toNat_true,Bool.toNat_false];omega
          exact zg 2 rfl (a1 X O ay _ rfl)
       ·refine⟨some (.Cg true true 0 m),by simp [Fam.BW,ag],?_⟩;refine zg 2 rfl ?_;have bo:m.s=false:=by simpa using ag
        refine zg 4 rfl (Al (v:=CL (BA m&&& 4)) rfl (λρ h=>Eo (c:=4) am (h _ _ rfl) (h _ _ rfl) (by decide)) ?_);refine Al (v:= .bool false) rfl (λρ h=>Yl.to (HJ (h _ _ rfl) (h _ _ rfl)) (by rw [(HS m).2 bo];rfl)) (zg 11 rfl ?_);refine JL.again ?_;rw [← a6];exact Er [(0,.pointer (some F.uA)),(2,iV wt),(3,.bool true),(4,.bool true),(5,iV ((0:Nat):Int)),(6,.int .i32 (m:M4).num)] rfl (bZ (true,true,0,m,wt) ⟨λ_=>a0.2.1 bo,Nat.zero_le _,a8⟩)
   ·refine JL.done (zg 4 rfl ?_);refine Al (v:= .pointer (some F.uA)) rfl (λρ h=>Ct (a:=F.uA) 0 0 Tryz.underlying140 Dg rfl rfl rfl (h _ _ rfl)) (Hi (kk:=kk) (p:= .Ec sv aw it) O ac rfl rfl rfl rfl rfl Ha Ir rfl λa7 b9 bv=>⟨some (.Cg sv aw it a7),List.mem_singleton.2 rfl,?_⟩);refine zg 3 rfl (JL.again ?_);rw [← a6];exact Er [(0,.pointer (some F.uA)),(2,iV wt),(3,.bool sv),(4,.bool aw),(5,iV (it:Int)),(6,.int .i32 (a7:M4).num)] rfl (bZ (sv,aw,it,a7,wt) ⟨bv.2.2.2,bU.2.1,bv.2.2.1⟩)
 exact λa b5=>key 5 a (by omega) b5
set_option maxHeartbeats 4000000 in
theorem Vp{F:Fam}{n:Nat}{L:Env}{ds:Ld_}{k:Li_}{cs:Lf_}{s:St}{b:Frame}{ops:Ao_}{i:Nat}{rest:List Nat}{d:Option Tmp}{x:Operand}{ats:Array TypeId}{ty:TypeId}{pp:String}{af:Ae_}{g:On_}{kk:Nat}(K:s.q=false)(O:ops[i]? =some ⟨d,.call ⟨.value (.func 162),#[x],ats⟩,ty,pp,af,g⟩)(hw:AI L ops ⟨d,.call ⟨.value (.func 162),#[x],ats⟩,ty,pp,af,g⟩=some true)(U:((b.kind != .early)&&Bb n d)=true)(Y:ev L x=some (.pointer (some F.uA)))
  (h:JL (AO Tryz.prog false) (Stop Tryz.prog F (.lk kk .FC)) b n (Au L d (.tuple #[])) ds (.inRegion ops rest::k) cs s):
  JL (AO Tryz.prog false) (Stop Tryz.prog F (.lk kk .F4)) b n L ds (.inRegion ops (i::rest)::k) cs s:=by
 refine Hj (vs:= [.pointer (some F.uA)]) O hw U Tryz.func162 (by decide+kernel) rfl (by simp [evs,Y]) (Nat.le_of_ble_eq_true rfl) λac back=>zg 2 rfl (K8 (kk:=kk) (p:= .F4) CQ.stop K rfl (λ_ _=>rfl) rfl rfl rfl rfl (by simp) TX ?_);refine zg 6 rfl (Al (v:= .pointer (some F.uA)) rfl (λρ h=>Ct (a:=F.uA) 0 0 Tryz.underlying140 Dg rfl rfl rfl (h _ _ rfl)) ?_);refine RI (kk:=kk) (p:= .Ho) (old:=M4.zero) (nw:=⟨true,false,false,0⟩) CQ.stop K rfl rfl rfl rfl rfl N1 rfl rfl rfl (λq Z=>⟨some .len,by simp [Fam.BW],?_⟩) (λm q hm Z=>⟨some (.Ec false false 0),by simp [Fam.BW,hm],?_⟩)
 ·refine JL.done (zg 5 rfl ?_);refine K8 (kk:=kk) (p:= .len) CQ.stop K rfl (λ_ _=>rfl) rfl rfl rfl rfl (by simp) Oc (zg 3 rfl ?_);refine OV (kk:=kk) (p:= .KP) CQ.stop K rfl (λ_ _=>rfl) rfl rfl rfl rfl Tryz.underlying229 Tryz.underlying185 Px rfl (Pq (kk:=kk) (p:= .J0) (ad:=F.uA) CQ.stop K rfl (λ_ _=>rfl) rfl rfl rfl rfl (by simp) T0 rfl rfl ?_);exact JL.done (JL.ret rfl rfl (BE.none Tryz.func162 rfl) (back _ _ _ _ h))
 ·refine JL.done (zg 4 rfl ?_);refine Wu (kk:=kk) K rfl rfl rfl rfl (JL.done ?_);exact JL.fin rfl rfl (BE.none Tryz.func162 rfl) (back _ _ _ _ h)
set_option maxHeartbeats 4000000 in
theorem Wa{F:Fam}{n:Nat}{L:Env}{ds:Ld_}{k:Li_}{cs:Lf_}{s:St}{b:Frame}{ops:Ao_}{i:Nat}{rest:List Nat}{d:Option Tmp}{x:Operand}{ats:Array TypeId}{ty:TypeId}{pp:String}{af:Ae_}{g:On_}{kk:Nat}(K:s.q=false)(O:ops[i]? =some ⟨d,.call ⟨.value (.func 121),#[x],ats⟩,ty,pp,af,g⟩)(hw:AI L ops ⟨d,.call ⟨.value (.func 121),#[x],ats⟩,ty,pp,af,g⟩=some true)(U:((b.kind != .early)&&Bb n d)=true)(Y:ev L x=some (.pointer (some F.uA)))
  (h:JL (AO Tryz.prog false) (Stop Tryz.prog F (.lk kk .FC)) b n (Au L d (.tuple #[])) ds (.inRegion ops rest::k) cs s):
  JL (AO Tryz.prog false) (Stop Tryz.prog F (.lk kk .F4)) b n L ds (.inRegion ops (i::rest)::k) cs s:=by
 refine Hj (vs:= [.pointer (some F.uA)]) O hw U Tryz.func121 (by decide+kernel) rfl (by simp [evs,Y]) (Nat.le_of_ble_eq_true rfl) λZ back=>zg 3 rfl (Al (v:= .pointer (some F.uA)) rfl (λρ h=>Ct (a:=F.uA) 1 0 Tryz.underlying142 (AR Tryz.type140) rfl rfl rfl (h _ _ rfl)) ?_);refine Vp (kk:=kk) K rfl rfl rfl rfl (JL.done ?_);exact JL.fin rfl rfl (BE.none Tryz.func121 rfl) (back _ _ _ _ h)
end Pal
namespace Pal
open Go Go.Conc Go.Conc.Lib Go.Proofs Go.ConcR.Gen
def IC(m:M4):LP:=if m.l=false/\m.k=false/\m.s=false/\m.w≠0 then .EB m else .EZ
def Qo(m:M4):LP:=if m.s=true then .EX true else if m.k=false/\m.w≠0 then .EB {m with l:=false} else .EZ
set_option maxHeartbeats 4000000 in
theorem Vg{F:Fam}{n:Nat}{L:Env}{ds:Ld_}{k:Li_}{cs:Lf_}{s:St}{b:Frame}{ops:Ao_}{i:Nat}{rest:List Nat}{d:Option Tmp}{x Z:Operand}{nw:M4}{ats:Array TypeId}{ty:TypeId}{pp:String}{af:Ae_}{g:On_}{kk:Nat}(U:s.q=false)(a3:ops[i]? =some ⟨d,.call ⟨.value (.func 191),#[x,Z],ats⟩,ty,pp,af,g⟩)(hw:AI L ops ⟨d,.call ⟨.value (.func 191),#[x,Z],ats⟩,ty,pp,af,g⟩=some true)(a4:((b.kind != .early)&&Bb n d)=true)(a5:ev L x=some (.pointer (some F.uA)))(a6:ev L Z=some (.int .i32 nw.num))(al:nw.l=false)(a7:CX nw)(ac:Ch nw)
  (h:JL (AO Tryz.prog false) (Stop Tryz.prog F (.lk kk .EZ)) b n (Au L d (.tuple #[])) ds (.inRegion ops rest::k) cs s):
  JL (AO Tryz.prog false) (Stop Tryz.prog F (.lk kk (if nw.s=true then .EX true else if nw.k=false/\nw.w≠0 then .EB nw else .EZ))) b n L ds (.inRegion ops (i::rest)::k) cs s:=by
 refine Hj (vs:= [.pointer (some F.uA),.int .i32 nw.num]) a3 hw a4 Tryz.func191 (by decide+kernel) rfl (by simp [evs,a5,a6]) (Nat.le_of_ble_eq_true rfl) λam back=>zg 4 rfl (Al (v:= .int .i32 ({nw with l:=true}:M4).num) rfl (λρ h=>Yg ac al (h _ _ rfl) (h _ _ rfl)) ?_);refine Al (v:=CL (BA ({nw with l:=true}:M4)&&& 1)) rfl (λρ h=>Eo (c:=1) (m:={nw with l:=true}) ac (h _ _ rfl) (h _ _ rfl) (by decide)) (Al (v:= .bool false) rfl (λρ h=>Yl.to (Yl.eql (h _ _ rfl) (h _ _ rfl)) (by rw [decide_eq_false (λe=>by have q:=(Qe _).1 e;cases q)])) ?_);refine zg 6 rfl (Al (v:=CL (BA nw&&& 4)) rfl (λρ h=>Eo (c:=4) ac (h _ _ rfl) (h _ _ rfl) (by decide)) ?_);refine zg 2 rfl (Gd (p:=((BA nw&&& 4:Nat):Int)=0) rfl (λc=>?_) (λc=>?_))
 ·have ap:=(HS nw).1 c;rw [if_neg (by rw [ap];exact Bool.false_ne_true)];refine zg 6 rfl ?_;refine IK ?_;refine Er [(0,.pointer (some F.uA)),(4,.int .i32 nw.num)] rfl ?_;refine TT λaq av=>?_;have a8:(if nw.k=false/\nw.w≠0 then LP.EB nw else .EZ)=IC nw:=by unfold IC;rw [al,ap];simp
  rw [a8];refine Ta (P:=Tryz.prog) (F:=F) (s:=s) (kk:=kk) (ph:=λm=>LP.EB m) (ok:=CX) (head:=λ(X:Ph->GP) (a:M4)=>JL (AO Tryz.prog false) (X (.lk kk (IC a))) (base 191) Tryz.f191.ntmps ([(0,.pointer (some F.uA)),(4,.int .i32 (a:M4).num)]) [] aq (am::cs) s) ?_ nw a7;intro Y bx aw hC old ay;have K:Ch old:=ay.Ch;show JL (AO Tryz.prog false) (Y (.lk kk (IC old))) (base 191) Tryz.f191.ntmps [(0,.pointer (some F.uA)),(4,.int .i32 old.num)] [] aq (am::cs) s;rw [av];refine zg 5 rfl (Al (v:=CL old.w) rfl (λρ h=>IP K (h _ _ rfl) (h _ _ rfl)) ?_);refine zg 2 rfl (LY (q:=(old.w:Int)=0) (i:=17) rfl (λc2=>?_) (λc2=>?_))
  ·have O:IC old= .EZ:=by unfold IC;rw [if_neg (λe=>e.2.2.2 (by omega))]
   refine zg 6 rfl ?_;rw [O];exact JL.ret rfl rfl (BE.none Tryz.func191 rfl) (back _ _ _ _ (M9 (λg s=>aw _ g s) h))
  ·refine Al (v:= .int .i32 (old:M4).num) rfl (λρ h=>Yl.move (h _ _ rfl)) (Al (v:=CL (BA old&&& 7)) rfl (λρ h=>Eo (c:=7) K (h _ _ rfl) (h _ _ rfl) (by decide)) ?_);refine zg 3 rfl (Gd (p:=((BA old&&& 7:Nat):Int)≠0) rfl (λc3=>?_) (λc3=>?_))
   ·have O:IC old= .EZ:=by unfold IC;rw [if_neg (λe=>c3 ((TY old).2 ⟨e.1,e.2.1,e.2.2.1⟩))]
    rw [O];exact JL.ret rfl rfl (BE.none Tryz.func191 rfl) (back _ _ _ _ (M9 (λg s=>aw _ g s) h))
   ·have a9:=(TY old).1 (Decidable.not_not.1 c3);obtain⟨l0,bz,bT,w0⟩:=old;obtain⟨z1,az,a0⟩:=a9;simp only at z1 az a0 c2;subst z1 az a0;have a1:w0≠0:=by omega
    have O:IC ⟨false,false,false,w0⟩= .EB ⟨false,false,false,w0⟩:=by unfold IC;rw [if_pos ⟨rfl,rfl,rfl,a1⟩]
    rw [O];refine zg 4 rfl (Al (v:= .int .i32 (⟨false,false,false,w0 - 1⟩:M4).num) rfl (λρ h=>YE (m:=⟨false,false,false,w0⟩) K a1 (h _ _ rfl) (h _ _ rfl)) ?_);refine Al (v:= .int .i32 (⟨false,true,false,w0 - 1⟩:M4).num) rfl (λρ h=>NG (c:=2) (m:=⟨false,false,false,w0 - 1⟩) (by unfold Ch at K ⊢;simp only at K ⊢;omega) (by decide) (Qp _) rfl (h _ _ rfl) (h _ _ rfl)) (zg 7 rfl ?_);refine Al (v:= .pointer (some F.uA)) rfl (λρ h=>Ct (a:=F.uA) 0 0 Tryz.underlying140 Dg rfl rfl rfl (h _ _ rfl)) (zg 2 rfl ?_);refine λT bb=>(AO Tryz.prog false).stop (hC ⟨false,false,false,w0⟩ _ ay λX bU be a2 bi bn=>?_);refine Pa (kk:=kk) (p:= .EB ⟨false,false,false,w0⟩) (old:=⟨false,false,false,w0⟩) (nw:=⟨false,true,false,w0 - 1⟩) be U rfl rfl rfl rfl rfl N1 rfl rfl rfl (λq bo=>⟨some (.EX false),by simp [Fam.BW],?_⟩) (λm q hm bo=>⟨some .Hs,by simp [Fam.BW,hm],?_⟩) T bb
    ·refine JL.done (zg 5 rfl ?_);refine Al (v:= .pointer (some F.qA)) rfl (λρ h=>Ct (a:=F.uA) 0 1 Tryz.underlying140 MM rfl rfl rfl (h _ _ rfl)) (Rj (kk:=kk) (st:=false) a2 U rfl rfl rfl rfl Tx rfl rfl ?_);exact JL.done (JL.ret rfl rfl (BE.none Tryz.func191 rfl) (back _ _ _ _ (M9 (λg s=>bi _ g s) h)))
    ·refine JL.done (zg 5 rfl ?_);refine Al (v:= .pointer (some F.uA)) rfl (λρ h=>Ct (a:=F.uA) 0 0 Tryz.underlying140 Dg rfl rfl rfl (h _ _ rfl)) (Hi (kk:=kk) (p:= .Hs) a2 U rfl rfl rfl rfl rfl Ha aP rfl λag bV bv=>⟨some (IC ag),List.mem_singleton.2 rfl,?_⟩);refine zg 3 rfl (JL.again ?_);rw [← av];exact Er [(0,.pointer (some F.uA)),(4,.int .i32 ag.num)] rfl (bn ag bv)
 ·have bw:nw.s=true:=by rcases Bool.eq_false_or_eq_true nw.s with hh | hh;exact hh;exact absurd ((HS nw).2 hh) c
  rw [if_pos bw];refine zg 3 rfl (Al (v:= .pointer (some F.qA)) rfl (λρ h=>Ct (a:=F.uA) 0 1 Tryz.underlying140 MM rfl rfl rfl (h _ _ rfl)) ?_);refine Rj (kk:=kk) (st:=true) CQ.stop U rfl rfl rfl rfl Tx rfl rfl (JL.done ?_);exact JL.fin rfl rfl (BE.none Tryz.func191 rfl) (back _ _ _ _ h)
set_option maxHeartbeats 4000000 in
theorem UM{F:Fam}{n:Nat}{L:Env}{ds:Ld_}{k:Li_}{cs:Lf_}{s:St}{b:Frame}{ops:Ao_}{i:Nat}{rest:List Nat}{d:Option Tmp}{x:Operand}{ats:Array TypeId}{ty:TypeId}{pp:String}{af:Ae_}{g:On_}{kk:Nat}(K:s.q=false)(al:ops[i]? =some ⟨d,.call ⟨.value (.func 163),#[x],ats⟩,ty,pp,af,g⟩)(hw:AI L ops ⟨d,.call ⟨.value (.func 163),#[x],ats⟩,ty,pp,af,g⟩=some true)(am:((b.kind != .early)&&Bb n d)=true)(ap:ev L x=some (.pointer (some F.uA)))
  (h:JL (AO Tryz.prog false) (Stop Tryz.prog F .H0) b n (Au L d (.tuple #[])) ds (.inRegion ops rest::k) cs s):
  JL (AO Tryz.prog false) (Stop Tryz.prog F (.lk kk .GD)) b n L ds (.inRegion ops (i::rest)::k) cs s:=by
 refine Hj (vs:= [.pointer (some F.uA)]) al hw am Tryz.func163 (by decide+kernel) rfl (by simp [evs,ap]) (Nat.le_of_ble_eq_true rfl) λa0 back=>zg 6 rfl (Al (v:= .pointer (some F.uA)) rfl (λρ h=>Ct (a:=F.uA) 0 0 Tryz.underlying140 Dg rfl rfl rfl (h _ _ rfl)) ?_);refine Hi (kk:=kk) (p:= .GD) CQ.stop K rfl rfl rfl rfl rfl Ha aO rfl λa1 a2 a3=>⟨some .Kb,List.mem_singleton.2 rfl,?_⟩;refine zg 4 rfl (OV (kk:=kk) (p:= .Kb) CQ.stop K rfl (λ_ _=>rfl) rfl rfl rfl rfl Tryz.underlying229 Tryz.underlying185 Px rfl ?_);refine Pq (kk:=kk) (p:= .J8) (ad:=F.uA) CQ.stop K rfl (λ_ _=>rfl) rfl rfl rfl rfl (by simp) bD rfl rfl (zg 2 rfl ?_);refine K8 (kk:=kk) (p:= .J1) CQ.stop K rfl (λ_ _=>rfl) rfl rfl rfl rfl (by simp) TX (zg 5 rfl ?_);refine Al (v:= .pointer (some F.uA)) rfl (λρ h=>Ct (a:=F.uA) 0 0 Tryz.underlying140 Dg rfl rfl rfl (h _ _ rfl)) (Hf (kk:=kk) (p:= .HU) (dl:= -1) CQ.stop K rfl rfl rfl rfl rfl Hn rfl rfl λm q Y=>⟨{m with l:=false},some (Qo m),?_,List.mem_singleton.2 rfl,?_⟩)
 ·obtain⟨aq,O,U,w3⟩:=m;obtain⟨Z,av⟩:=Y;simp only at Z;subst Z;have a4:w3<134217728:=av;have a5:=Bool.toNat_le O;have a6:=Bool.toNat_le U;have e:(⟨true,O,U,w3⟩:M4).num+(-1)=((2*O.toNat+4*U.toNat+8*w3:Nat):Int):=by simp only [M4.num,Bool.toNat_true];omega
  rw [e,Fv (by omega)];simp only [M4.num,Bool.toNat_false];omega
 ·have ac:CX m:=Y.2;have aw:Ch ({m with l:=false}:M4):=(show CX ({m with l:=false}:M4) from ac).Ch;refine zg 8 rfl ?_;refine Gd (p:=({m with l:=false}:M4).num≠0) rfl (λc=>?_) (λc=>?_)
  ·refine JL.region (zg 2 rfl ?_);refine Vg (kk:=kk) (nw:={m with l:=false}) K rfl rfl rfl rfl rfl rfl ac aw (zg 2 rfl ?_);refine K8 (kk:=kk) (p:= .EZ) CQ.stop K rfl (λ_ _=>rfl) rfl rfl rfl rfl (by simp) Oc (JL.done ?_);exact JL.fin rfl rfl (BE.none Tryz.func163 rfl) (back _ _ _ _ h)
  ·have ay:({m with l:=false}:M4).num=0:=Decidable.not_not.1 c;have ag:m.k=false/\m.s=false/\m.w=0:=by
    obtain⟨aq,O,U,w3⟩:=m;cases O <;> cases U <;> simp [M4.num] at ay ⊢ <;> omega
   have az:Qo m= .EZ:=by unfold Qo;rw [if_neg (by rw [ag.2.1];exact Bool.false_ne_true),if_neg (λe=>e.2 ag.2.2)]
   rw [az];refine zg 2 rfl (K8 (kk:=kk) (p:= .EZ) CQ.stop K rfl (λ_ _=>rfl) rfl rfl rfl rfl (by simp) Oc ?_);exact JL.done (JL.fin rfl rfl (BE.none Tryz.func163 rfl) (back _ _ _ _ h))
theorem JO.Yi{F:Fam}{n:Nat}{M:Env}{ds:Ld_}{cs:Lf_}{s:St}{b:Frame}{kk:Nat}(K:b.roundOf=none)(O:s.q=false)(h:JO (AO Tryz.prog false) (Stop Tryz.prog F .H0) b n M ds cs s):
  JO (AO Tryz.prog false) (Stop Tryz.prog F (.lk kk .GD)) b n M (dcall 122 #[.pointer (some F.uA)]::ds) cs s:=by
 refine JO.enter (vs:= [.pointer (some F.uA)]) K Tryz.func122 (by decide+kernel) rfl (Nat.le_of_ble_eq_true rfl) λT U todo=>zg 3 rfl (Al (v:= .pointer (some F.uA)) rfl (λρ h=>Ct (a:=F.uA) 1 0 Tryz.underlying142 (AR Tryz.type140) rfl rfl rfl (h _ _ rfl)) ?_);refine UM (kk:=kk) O rfl rfl rfl rfl (JL.done ?_);exact JL.out rfl (JO.leaveD rfl Tryz.func122 rfl (.inl rfl) (h T U todo))
end Pal
namespace Pal
open Go Go.Conc
open Go.ConcN (upd)
section
variable {P:Program}{F:Fam}{n:Nat}{L L':Env}{ds:Ld_}{k:Li_}{cs:Lf_}{s s':St}{b:Frame}
variable {ops:Ao_}{i:Nat}{rest:List Nat}{d:Option Tmp}{f:FuncId}{x y z:Operand}{ats:Array TypeId}{ty t u tw:TypeId}{pp:String}{af:Ae_}{g:On_}{kk:Nat}
theorem US{m:Nat}(h:Bh P t=some m)(w:World):(Go.sizeOf t).run P w= .ok m w:=by
 unfold Bh at h;simp only [Go.sizeOf,typeInfo,bind,Sem.bind,program,Sem.run];cases hi:P.info? t with
 | none=>rw [hi] at h;cases h
 | some j=>rw [hi] at h;simp at h;subst h;rfl
theorem XD{w:World}{K:Nat->Value}(h:F.FD w K)(O:kk<F.n):w.cell? ⟨F.fd,kk,none⟩=some (K kk)/\w.frozen? ⟨F.fd,kk,none⟩=false:=by
 unfold Fam.FD Fam.IG at h;constructor
 ·simp [World.cell?,h,O]
 ·simp [World.frozen?,h]
theorem Vh{w:World}{O:Nat->Value}{v:Value}(h:F.FD w O)(ac:kk<F.n):w.setCell ⟨F.fd,kk,none⟩ v=F.Hr w (upd O kk v):=by
 unfold Fam.Hr World.setCell;congr 1;apply Array.ext_getElem?;intro i;unfold Fam.FD Fam.IG at h;rw [Array.getElem?_modify];have U:F.fd<w.heap.size:=by
  rcases Nat.lt_or_ge F.fd w.heap.size with K | K
  ·exact K
  ·simp [Array.getElem?_eq_none K] at h
 by_cases e:F.fd=i
 ·subst e;rw [Array.getElem?_setIfInBounds_self_of_lt U,h];simp only [if_true,Option.map_some,Fam.IG,Option.some.injEq,Obj.cells.injEq,and_true];apply Array.ext
  ·simp
  ·intro j ag Y;by_cases e2:kk=j
   ·subst e2;simp [upd]
   ·have Z:¬j=kk:=λe=>e2 e.symm;simp [upd,Z];rw [Array.getElem_setIfInBounds (by simpa using Y),if_neg e2];simp
 ·rw [Array.getElem?_setIfInBounds_ne e,if_neg e]
theorem Vq{X:Ph->GP}(av:CQ P F X){a:Option Addr}{l c:Nat}(aw:s.q=false)(Y:kk<F.n)
  (ay:ops[i]? =some ⟨d,.store t x y,ty,pp,af,g⟩) (Z:b.roundOf=none) (hw:AI L ops ⟨d,.store t x y,ty,pp,af,g⟩=some true) (U:((b.kind != .early)&&Bb n d)=true)
  (az:Bh P t=some 1) (a0:(P.funcs[b.fn]?).any (·.norace)=false) (a1:ev L x=some (.pointer (some ⟨F.fd,kk,none⟩))) (a2:ev L y=some (.slice a l c)) (hm:F.msg kk (.slice a l c) s.E)
  (h:JL (AO P false) (X (.lk kk .GD)) b n (Au L d undef) ds (.inRegion ops rest::k) cs s):
  JL (AO P false) (X (.lk kk .FC)) b n L ds (.inRegion ops (i::rest)::k) cs s:=λT K=>by
 simp only [Bool.and_eq_true] at U
 refine(AO P _).stop (av _ _ _ {
  run:=rfl,offers:=rfl,quiet:=(by simp [Fam.CH]),live:=λ_=>aw,act:=(by simp [Fam.act]),IZ:=(by simp),EY:=(by simp),go:=(by simp),lk:=λk' l e a3=>by cases e;exact absurd rfl a3
  Cn:=(by simp),store:=λk' e=>?_,fin:=(by simp)})
 cases e
 refine⟨_,hm,G (fr b (CC T d undef) ds (.inRegion ops rest::k)) cs,rfl,λw a4 ac=>?_,h _ (K.put U.2 _)⟩
 obtain⟨c1,c2⟩:=XD ac Y
 have ag:execOp (⟨T,ds⟩:Act).eval ⟨d,.store t x y,ty,pp,af,g⟩=(do Instr.storeAt t (.pointer (some ⟨F.fd,kk,none⟩)) (.slice a l c);pure Next.skip):=by
  rw [K0];simp only [execOp,K.ev a1,K.ev a2]
 have al:(Value.slice a l c).cells= #[.slice a l c]:=rfl;have am:(Value.slice a l c).oneCell'=true:=rfl;have ap:(Addr.add ⟨F.fd,kk,none⟩ 0)=⟨F.fd,kk,none⟩:=by rw [Dz rfl];rfl
 have aq:=US (P:=P) az w;have O:=run_store P w ⟨F.fd,kk,none⟩ (.slice a l c) .plain am;rw [c1] at O;simp only [c2,Bool.false_eq_true,if_false] at O;rw [BK Z,BK Z,stepG_none (a:=⟨T,ds⟩) (w':=F.Hr w (upd a4 kk (.slice a l c))) ay (B6 K hw) (by simpa using U.1) (by
  rw [ag]
  simp [Instr.storeAt,Instr.sureAddr,storeVar,al,aq,storeCells,ap,O,Vh ac Y,Result.andThen]),DU]
 have e2:listed P b.fn ⟨T,ds⟩ ⟨d,.store t x y,ty,pp,af,g⟩ w= #[⟨.cell ⟨F.fd,kk,none⟩,true,false⟩]:=by
  unfold listed;rw [ag];have a5:=events_store (P:=P) (w:=w) (es:= #[]) ⟨F.fd,kk,none⟩ (.slice a l c) .plain am;have a6:(do Instr.storeAt t (.pointer (some ⟨F.fd,kk,none⟩)) (.slice a l c);pure Next.skip:Sem Next).events P w #[]= #[⟨.cell ⟨F.fd,kk,none⟩,true,false⟩]:=by
   simp [Instr.storeAt,Instr.sureAddr,storeVar,al,aq,storeCells,ap,O,c1,c2,a5,Result.evThen]
  rw [a6,seen_def];simp [seenStep,a0]
 rw [e2]
end
end Pal
namespace Pal
open Go Go.Conc Go.Proofs
open Go.Proofs.Tryz
open Go.Conc.Lib Go.ConcR.Gen
theorem aE:(Tryz.prog.funcs[117]?).any (·.norace)=false:=by rw [func117];rfl
def KI(fu_:Nat)(K:A4)(p:Ay)(j:Nat):Option (List Int):=
 (f120 fu_ K).bind λO=>
 (f119 fu_ ([O]:List (List (AD))) ((j:Nat):Int) p ([]:List ((Nat×Bn)×Bool))).bind λU=>
 some U.1
set_option maxHeartbeats 1000000 in
theorem ZK{F:Fam}{j:Nat}{E:LH}{ap a1 aq:Ao}{Z c2 av ac op ag al am oi kf off:Nat}{p:Ay}{O:A4}(a3:At E ac op [.slice ap p.length Z])(a4:Am AA E ap Z p)(a5:At E ag al [sV a1 O.1 c2,sV aq O.2 av])(a6:Am (rL rI) E a1 c2 O.1)(a7:Am AA E aq av O.2)(hi:At E am oi [iV ((j:Nat):Int)])(a8:At E kf off [.slice (some ⟨F.fd,0,none⟩) F.n F.n]){fu_:Nat}{r:List Int}(az:KI fu_ O p j=some r)(a0:j<F.n)(a9:∀E' a c,Le E E'->Am rI E' a c r->(r= []->a=none)->F.msg j (.slice a r.length c) E'):
  Way Tryz.prog false (Stop Tryz.prog F (F.start j)) (born Tryz.prog ⟨.fn (.func 117) [.pointer (some F.sA),Ak ac op,Ak ag al,Ak am oi,.pointer (some F.uA),Ak kf off].toArray,#[]⟩) ⟨E,λ_=>none,false⟩:=by
 refine W6 (fn:=Tryz.f117) (vs:= [.pointer (some F.sA),Ak ac op,Ak ag al,Ak am oi,.pointer (some F.uA),Ak kf off]) func117 (by decide+kernel) rfl (by simp) (Nat.le_of_ble_eq_true rfl) ?_;obtain⟨H,bb⟩:∃H:LH,H=λ_=>none:=⟨_,rfl⟩;rw [← bb];have be:Aq E H []:=trivial;refine(?_:JL (AO Tryz.prog false) (Stop Tryz.prog F (.lk j .F4)) (baseD 117) Tryz.f117.ntmps (Gh 0 [.pointer (some F.sA),Ak ac op,Ak ag al,Ak am oi,.pointer (some F.uA),Ak kf off]) [] [.code _] [Lp Tryz.prog] (Aj E H []));unfold KI at az;refine zg 2 rfl (JL.defer (vs:= [.pointer (some F.sA)]) rfl rfl rfl rfl rfl ?_);refine zg 3 rfl (C8 0 a3 BC rfl rfl rfl ?_);refine JS.makeMap rfl rfl rfl be λr1 bi=>Al (v:= .agg #[sV ap p Z,.map (some r1)]) rfl (λρ h=>Dh [(0,1),(1,1)] h (Dj type153) underlying153 ⟨rfl,AR type80,rfl,AR type151,trivial⟩ rfl rfl) (JS.box (v:= .agg #[sV ap p Z,.map (some r1)]) rfl rfl rfl bi rfl λb7 bn=>?_);refine zg 3 rfl (Di 1 bn rfl λb8 K bo bv=>?_);refine Fg 5 λaw=>DF 0 aw rfl rfl (Jj 1 aw (a5.Ah K) FI Df rfl rfl rfl ?_);refine EP 4 aw 0 (hi.Ah K) Bg rfl rfl rfl rfl ?_;obtain⟨a2,bw,bx⟩:=bs az;refine JG.call (i:=2) (vs:= [.agg #[sV a1 O.1 c2,sV aq O.2 av]]) (Z6 (a6.Ah K) (a7.Ah K) bw) (by decide+kernel) rfl rfl rfl (A6 func120 rfl) rfl bv ?_;rintro _ b9 _ U ⟨bz,bT,rfl,rfl,bU⟩ bV;refine JG.one (i:=3) rfl (by decide+kernel) (Take.EV (pp:=(rL (rM rI false rI false))) [sV bz a2 bT] ([a2]:List (List AD)) bV rfl rfl rfl underlying158 JC MI (by decide) rfl rfl rfl ⟨⟨_,_,rfl,bU⟩,trivial⟩ λca cb bW bY=>?_);refine Dk [5,6] (Ce 3 bW bY rfl λcc Y bZ b0=>?_);obtain⟨b1,b2,b3⟩:=bs bx;refine Cu 0 (ZF bZ (bo.Ah (U.Ad Y)) (a4.Ah ((K.Ad U).Ad Y)) BF.nil b2) rfl rfl (A6 func119 rfl) b0 rfl ?_;rintro _ cd _ ay ⟨ce,cf,cg,rfl,rfl,b4,b5,ci⟩ ck;refine zg 3 rfl ?_;have b6:r=b1.1:=(Option.some.inj b3).symm;subst b6;refine JL.region (Wa (kk:=j) rfl rfl rfl rfl rfl ?_);refine zg 3 rfl (JL.defer (vs:= [.pointer (some F.uA)]) rfl rfl rfl rfl rfl ?_);refine zg 2 rfl (C8 0 (a8.Ah (((K.Ad U).Ad Y).Ad ay)) FY rfl rfl rfl ?_);refine C8 0 (hi.Ah (((K.Ad U).Ad Y).Ad ay)) Bg rfl rfl rfl (zg 1 rfl ?_);refine Al (v:= Ak F.fd j) rfl (λρ h=>Yl.to (Ft (xs:=List.replicate F.n ()) (m:=((j:Nat):Int)) (xv:=()) (List.length_replicate) (by simp [ix,a0]) underlying22 GK (h _ _ rfl) (h _ _ rfl)) (by show Ak F.fd (j*1)=_;rw [Nat.mul_one])) (Vq (kk:=j) CQ.stop rfl a0 rfl rfl rfl rfl GK aE rfl rfl (a9 _ _ _ (((K.Ad U).Ad Y).Ad ay) b4 b5) ?_);exact JL.done (JL.out rfl (JO.Yi (kk:=j) rfl rfl (JO.ar Tryz.Kx rfl rfl (JO.leaveD rfl func117 rfl (.inr rfl) Vb))))
end Pal
namespace Pal
open Go Go.Conc Go.Proofs
open Go.Proofs.Tryz
open Go.Conc.Lib Go.ConcR.Gen
theorem OL.YZ{e:TypeId}{E:LH}{r c:Nat}{seg:Seg}{xs:Lv_}(h:OL e rV E (AS r) c seg xs)(Y:c=xs.length):seg= [(r,.cells xs.toArray e (0,0))]:=by
 obtain⟨wss,ag,K,Z⟩:=h;rcases ag with⟨al,_⟩ | ⟨bk,f,am,e2,ac,ap,O⟩
 ·cases al
 cases am;have hw:wss=xs.map λx=> [x]:=by
  apply List.ext_getElem?;intro i;rw [List.getElem?_map];cases U:xs[i]? with
  | none=>rw [List.getElem?_eq_none (by rw [K];exact List.getElem?_eq_none_iff.1 U)];rfl
  | some x=>
   have hi:i<wss.length:=by rw [K];exact(List.getElem?_eq_some_iff.1 U).1
   have:=(Z i x wss[i] U (List.getElem?_eq_getElem hi)).1;rw [List.getElem?_eq_getElem hi,this];rfl
 have aq:wss.flatten=xs:=by
  rw [hw];clear hw O Z K ac ap Y
  induction xs with
  | nil=>rfl
  | cons x xs av=>simp [av]
 rw [aq] at O;have ay:rV.n=1:=rfl;have aw:f.toList=xs:=by
  rw [O];rw [List.take_of_length_le (by rw [Array.length_toList,ac,Y];exact Nat.le_refl _)]
 rw [e2,← aw]
noncomputable def KF:Code:=match(Tryz.f77.body).bind (Jp 0) with | some (.loop c)=>c | _=> .skip
noncomputable def Ui:Code:=match(Tryz.f77.body).bind (Jp 2) with | some (.loop c)=>c | _=> .skip
set_option maxHeartbeats 1000000 in
theorem Yn{F:Fam}{n:Nat}(aw:F.n=n)(bx:0<n)(bz:n<=1000){E:LH}{ap a1 al:Ao}{am c2 aq:Nat}{p:Ay}{O:A4}(ay:Am AA E ap am p)(az:Am (rL rI) E a1 c2 O.1)(a0:Am AA E al aq O.2)(hlen:p.length=n){Y Z kf:Nat}(a2:At E Y 0 [.slice ap p.length am])(a3:At E Z 0 [sV a1 O.1 c2,sV al O.2 aq])(a4:At E kf 0 [.slice (some ⟨F.fd,0,none⟩) F.n F.n]){fu_:Nat}{xs:Nat->List Int}(a5:∀j,j<n->KI fu_ O p j=some (xs j))(a6:∀j,j<n->∀E' a c,Am rI E' a c (xs j)->(xs j= []->a=none)->F.msg j (.slice a (xs j).length c) E'){j:Nat}(ac:j<n){ag H:LH}(hle:Le E ag)(a7:Aq ag H []){k:Li_}{cs:Lf_}
  (h:∀U,Le E U->Aq U H []->JL (AO Tryz.prog true) (Stop Tryz.prog F (F.Eu j)) (base 77) Tryz.f77.ntmps [(2,Ak Z 0),(3,Ak Y 0),(6,.pointer (some F.uA)),(7,.pointer (some F.sA)),(8,Ak kf 0),(19,iV (p.length:Int)),(20,iV ((j+1:Nat):Int))] [] (.inLoop KF::k) cs (Aj U H [])):
  JL (AO Tryz.prog true) (Stop Tryz.prog F (.Gi j)) (base 77) Tryz.f77.ntmps [(2,Ak Z 0),(3,Ak Y 0),(6,.pointer (some F.uA)),(7,.pointer (some F.sA)),(8,Ak kf 0),(19,iV (p.length:Int)),(20,iV ((j:Nat):Int))] [] (.code KF:: .inLoop KF::k) cs (Aj ag H []):=by
 refine zg 2 rfl (Al (v:= .bool true) rfl (λρ h=>Yl.to (Yl.lss (h _ _ rfl) (h _ _ rfl)) (by rw [decide_eq_true (show((j:Nat):Int)<(p.length:Int) by omega)])) ?_);refine zg 9 rfl (BV a7 CG λrn a8=>?_);refine BL 0 a8 AH λa9=>?_;refine Di 0 a9 rfl λU bb be bi=>Ii (S':= []) (by simp) bi λbn=>?_;have K:=hle.trans bb;refine zg 3 rfl (VX Tryz.Kx rfl rfl rfl rfl rfl rfl ?_);refine zg 2 rfl (Al (v:= .func (.func 117) #[] ([.pointer (some F.sA),Ak Y 0,Ak Z 0,Ak rn 0,.pointer (some F.uA),Ak kf 0]:Lv_).toArray) rfl (λρ h=>KY (by simp) (by simp [h (.tmp 7) _ rfl,h (.tmp 3) _ rfl,h (.tmp 2) _ rfl,h (.tmp 9) _ rfl,h (.tmp 6) _ rfl,h (.tmp 8) _ rfl])) ?_);have av:=ZK (F:=F) (j:=j) (a2.Ah K) (ay.Ah K) (a3.Ah K) (az.Ah K) (a0.Ah K) be (a4.Ah K) (a5 j ac) (by rw [aw];exact ac) (λE' a c _ bo bv=>a6 j ac E' a c bo bv);refine ZT (fi:= #[]) rfl rfl rfl rfl rfl rfl rfl (by first | exact av | (simp only [List.append_toArray,List.nil_append,Array.append_empty,Array.empty_append];exact av)) ?_
 refine zg 3 rfl ?_;have bw:Aw (((j:Nat):Int)+1)=some (((j+1:Nat)):Int):=by unfold Aw;rw [if_pos (by omega)];simp
 refine Bq bw rfl rfl rfl (zg 2 rfl ?_);exact AB (h U K bn) rfl
theorem Vl{F:Fam}{n:Nat}(Y:F.n=n)(aw:0<n)(ay:n<=1000){E:LH}{ap a1 ag:Ao}{al c2 am:Nat}{p:Ay}{O:A4}(az:Am AA E ap al p)(a0:Am (rL rI) E a1 c2 O.1)(a2:Am AA E ag am O.2)(hlen:p.length=n){Z ac kf:Nat}(a3:At E Z 0 [.slice ap p.length al])(a4:At E ac 0 [sV a1 O.1 c2,sV ag O.2 am])(a5:At E kf 0 [.slice (some ⟨F.fd,0,none⟩) F.n F.n]){fu_:Nat}{xs:Nat->List Int}(a6:∀j,j<n->KI fu_ O p j=some (xs j))(a7:∀j,j<n->∀E' a c,Am rI E' a c (xs j)->(xs j= []->a=none)->F.msg j (.slice a (xs j).length c) E'){H:LH}{k:Li_}{cs:Lf_}
  (h:∀K,Le E K->Aq K H []->JL (AO Tryz.prog true) (Stop Tryz.prog F .Dc) (base 77) Tryz.f77.ntmps [(2,Ak ac 0),(3,Ak Z 0),(6,.pointer (some F.uA)),(7,.pointer (some F.sA)),(8,Ak kf 0),(19,iV (p.length:Int)),(20,iV (p.length:Int))] [] (.code KF:: .inLoop KF::k) cs (Aj K H [])):
  ∀(m j:Nat),j+m=n->0<m->∀U,Le E U->Aq U H []->JL (AO Tryz.prog true) (Stop Tryz.prog F (.Gi j)) (base 77) Tryz.f77.ntmps [(2,Ak ac 0),(3,Ak Z 0),(6,.pointer (some F.uA)),(7,.pointer (some F.sA)),(8,Ak kf 0),(19,iV (p.length:Int)),(20,iV ((j:Nat):Int))] [] (.code KF:: .inLoop KF::k) cs (Aj U H []):=by
 intro m
 induction m with
 | zero=>intro j _ a8;cases a8
 | succ m a9=>
  intro j bi _ U hle bb;refine Yn Y aw ay az a0 a2 hlen a3 a4 a5 a6 a7 (by omega) hle bb λK aq av=>JL.again ?_;by_cases hm:m=0
  ·subst hm;have be:j+1=F.n:=by rw [Y];omega
   have e:F.Eu j= .Dc:=by unfold Fam.Eu;rw [if_pos be]
   rw [e];have e2:((j+1:Nat):Int)=(p.length:Int):=by rw [hlen];omega
   rw [e2];exact h K aq av
  ·have e:F.Eu j= .Gi (j+1):=by unfold Fam.Eu;rw [if_neg (by rw [Y];omega)]
   rw [e];exact a9 (j+1) (by omega) (by omega) K aq av
def Oi(fu_:Nat)(K:A4)(p:Ay)(j:Nat):List Int:=(KI fu_ K p j).getD []
def Md(n:Nat)(xs:Nat->List Int):(List Int)×Bool:=match(List.range n).find? (λj=> !(xs j).isEmpty) with | some j=>(xs j,true) | none=>([],false)
def f77(fu_:Nat)(K:A4)(p:Ay):Option ((List Int)×Bool):= if p.length=0 then some ([],true) else if p.length<=1000/\(List.range p.length).all (λj=>(KI fu_ K p j).isSome)=true then some (Md p.length (Oi fu_ K p)) else none
theorem VG{n:Nat}{xs:Nat->List Int}{i:Nat}(hi:i<n)(K:xs i≠ [])(O:∀k,k<i->xs k= []):Md n xs=(xs i,true):=by
 unfold Md;have:(List.range n).find? (λj=> !(xs j).isEmpty)=some i:=by
  rw [List.find?_range_eq_some];refine⟨by simp [K],by simpa using hi,λj U=>by simp [O j U]⟩
 rw [this]
theorem VJ{n:Nat}{xs:Nat->List Int}(K:∀k,k<n->xs k= []):Md n xs=([],false):=by
 unfold Md;have:(List.range n).find? (λj=> !(xs j).isEmpty)=none:=by
  rw [List.find?_eq_none];intro j O;simp [K j (List.mem_range.1 O)]
 rw [this]
theorem XX{E:LH}{a:Ao}{c:Nat}{xs:List Int}(h:Am rI E a c xs)(K:xs≠ []):a.isNone=false:=by
 rcases h.2 with⟨e,_⟩ | ⟨bk,off,e,_⟩
 ·exact absurd e K
 ·rw [e];rfl
set_option maxHeartbeats 1000000 in
theorem ZW{J:Judge Tryz.prog}{Q:Gs_}{Y:Frame}{cs:Lf_}{fd n:Nat}{f:Nat->Value}{xs:Nat->List Int}(ay:n<=1000){E H:LH}{k:Li_}(ag:Aq E H [[(fd,.cells (Array.ofFn λi:Fin n=>f i) 28 (0,0))]])(hm:∀k,k<n->∃a c,f k= .slice a (xs k).length c/\Am rI E a c (xs k)/\(xs k= []->a=none))
  (al:∀i a c L',i<n->xs i≠ []->(∀k,k<i->xs k= [])->Am rI E a c (xs i)->look L' 4=some (.slice a (xs i).length c)->look L' 5=some (.bool true)->∀k',JL J Q (base 77) Tryz.f77.ntmps L' [] (.code .ret::k') (Y::cs) (Aj E H [[(fd,.cells (Array.ofFn λi:Fin n=>f i) 28 (0,0))]]))
  (am:(∀k,k<n->xs k= [])->JL J Q (base 77) Tryz.f77.ntmps [] [] k (Y::cs) (Aj E H [[(fd,.cells (Array.ofFn λi:Fin n=>f i) 28 (0,0))]])):
  ∀m i,i+m=n->(∀k,k<i->xs k= [])->JL J Q (base 77) Tryz.f77.ntmps [(27,.slice (AS fd) n n),(28,iV (n:Int)),(29,iV (i:Int))] [] (.code Ui:: .inLoop Ui:: .inBlock 2::k) (Y::cs) (Aj E H [[(fd,.cells (Array.ofFn λi:Fin n=>f i) 28 (0,0))]]):=by
 intro m
 induction m with
 | zero=>
  intro i hi K;refine zg 2 rfl (Al (v:= .bool false) rfl (λρ h=>Yl.to (Yl.lss (h _ _ rfl) (h _ _ rfl)) (by rw [decide_eq_false (show ¬((i:Int)<(n:Int)) by omega)])) ?_);refine zg 4 rfl (Er [] rfl ?_);exact am λk az=>K k (by omega)
 | succ m ap=>
  intro i hi K;have O:i<n:=by omega
  obtain⟨a,c,aq,ac,av⟩:=hm i O;refine zg 2 rfl (Al (v:= .bool true) rfl (λρ h=>Yl.to (Yl.lss (h _ _ rfl) (h _ _ rfl)) (by rw [decide_eq_true (show(i:Int)<(n:Int) by omega)])) ?_);refine zg 8 rfl (Al (v:= Ak fd i) rfl (λρ h=>Yl.to (Ft (xs:=List.replicate n ()) (m:=((i:Nat):Int)) (xv:=()) (List.length_replicate) (by simp [ix,O]) underlying22 GK (h _ _ rfl) (h _ _ rfl)) (by show Ak fd (i*1)=_;rw [Nat.mul_one])) ?_);refine Al (v:= .slice a (xs i).length c) rfl (λρ h=>Yl.load Kg (h _ _ rfl) (BY (j:=0) (off:=i) ag rfl (by simp [O,aq]))) (zg 5 rfl ?_);refine Al (v:= .bool (!a.isNone)) rfl (λρ h=>VB underlying28 (h _ _ rfl) (h _ _ rfl)) (JL.done ?_);by_cases U:xs i= []
  ·have Z:(!a.isNone)=false:=by rw [av U];rfl
   rw [Z];refine zg 4 rfl ?_;have aw:Aw (((i:Nat):Int)+1)=some (((i+1:Nat)):Int):=by unfold Aw;rw [if_pos (by omega)];simp
   refine Bq aw rfl rfl rfl ?_;refine zg 2 rfl ?_;refine JL.again ?_;refine Fs ?_ (ap (i+1) (by omega) (λk a0=>by
    by_cases e:k=i
    ·subst e;exact U
    ·exact K k (by omega)))
   exact⟨rfl,rfl,rfl,trivial⟩
  ·have Z:(!a.isNone)=true:=by rw [XX ac U];rfl
   rw [Z];exact zg 7 rfl (al i a c _ O U K ac rfl rfl _)
end Pal
namespace Pal
open Go Go.Conc Go.Proofs
open Go.Proofs.Tryz
open Go.Conc.Lib Go.ConcR.Gen
set_option maxHeartbeats 2000000 in
theorem bp{E:LH}{a1:Ao}{c2:Nat}{a8:Ao}{a9:Nat}{ap:Ao}{bb:Nat}{O:A4}{p:Ay}(b2:Am (rL rI) E a1 c2 O.1)(b3:Am AA E a8 a9 O.2)(b4:Am AA E ap bb p){fu_:Nat}{r:(List Int)×Bool}(U:f77 fu_ O p=some r):
  AN (GN Tryz.prog) 77 [.agg #[sV a1 O.1 c2,sV a8 O.2 a9],sV ap p bb] E [] (λw E' B'=>∃(be:Ao) (bi:Nat),w= .tuple #[sV be r.1 bi,.bool r.2]/\B'= []/\Am rI E' be bi r.1):=by
 refine PO func77 rfl rfl λQ cG cs H b5 Y=>?_;unfold f77 at U;refine zg 2 rfl (Du b5 λb6 cH b7 b8 b9=>?_);refine Du b9 λca cI bn am cb=>?_;refine Ii (S':= []) (by simp) cb λbo=>?_;have bv:=b7.Ad bn;refine zg 6 rfl (C8 0 am BC rfl rfl rfl ?_);refine JL.ln underlying80 rfl rfl rfl (zg 2 rfl ?_);refine Gd (p:=(p.length:Int)=0) rfl (λcc=>?_) (λcc=>?_)
 ·rw [if_pos (by omega)] at U;have Z:=(Option.some.inj U).symm;subst Z;refine zg 5 rfl (AY func77 rfl rfl ?_);exact Y _ _ _ _ bv rfl ⟨none,0,rfl,rfl,Am.nil⟩ bo
 rw [if_neg (by omega)] at U;split at U
 rotate_left
 ·cases U
 rename_i hb;obtain⟨bw,cd⟩:=hb;have Z:=(Option.some.inj U).symm;have ag:∀j,j<p.length->KI fu_ O p j=some (Oi fu_ O p j):=λj az=>by
  have aq:=List.all_eq_true.1 cd j (List.mem_range.2 az);obtain⟨x,a0⟩:=Option.isSome_iff_exists.1 aq;unfold Oi;rw [a0];rfl
 generalize cJ:Oi fu_ O p=xs at ag Z;have bx:0<p.length:=by omega
 refine zg 3 rfl (BV bo (Dj type142) λmu ce=>?_);refine zg 3 rfl (BV ce (Dj type148) λwg cf=>?_);refine JL.done (Ii (S':= [[(mu,.cells #[.int .i32 0,.int .u32 0] 142 (0,0))],[(wg,.cells #[.int .u64 0,.int .u32 0] 148 (0,0))]]) (by simp [Value.cells]) cf λcg=>?_);refine zg 2 rfl (C8 0 am BC rfl rfl rfl ?_);refine JL.ln underlying80 rfl rfl rfl ?_;have ci:Lq (p.length:Int) (Value.slice none 0 0)=some (List.replicate p.length nS):=by unfold Lq;rw [if_pos (by omega)];simp
 refine JS.make (pp:=rV) ci rfl rfl rfl rfl rfl underlying22 GK (Eh type28) (by decide) LJ (by decide) ⟨rfl,rfl⟩ cg λfd cK ck bz=>?_;have cm:=OL.YZ ck rfl;subst cm;obtain⟨K,bT⟩:∃K,K=List.replicate p.length (Value.slice none 0 0):=⟨_,rfl⟩;have bU:(List.replicate p.length (Value.slice none 0 0)).length=p.length:=by simp
 rw [← bT] at bz bU ⊢;rw [bU];refine BV bz (Dj type22) λkf cn=>?_;refine BL 3 cn FJ λco=>?_;refine Di 3 co rfl λac av bV cp=>Ii (S':= [[(mu,.cells #[.int .i32 0,.int .u32 0] 142 (0,0))],[(wg,.cells #[.int .u64 0,.int .u32 0] 148 (0,0))],[(fd,.cells K.toArray 28 (0,0))]]) (by simp) cp λal=>?_;have aw:=bv.Ad av;refine zg 4 rfl (C8 0 (am.Ah av) BC rfl rfl rfl ?_);refine JL.ln underlying80 rfl rfl rfl (zg 3 rfl ?_);refine IK (Er [(2,Ak b6 0),(3,Ak ca 0),(6,.pointer (some (⟨mu,0,none⟩:Addr))),(7,.pointer (some (⟨wg,0,none⟩:Addr))),(8,Ak kf 0),(19,iV (p.length:Int)),(20,iV ((0:Nat):Int))] rfl ?_);have bW:=Nd.iff.1 al;intro T cq;let F:Fam:=⟨wg,mu,fd,148,142,28,p.length,λkk v E=>kk<p.length/\∃a c,v= .slice a (xs kk).length c/\Am rI E a c (xs kk)/\(xs kk= []->a=none),λg s=>(GN Tryz.prog).ok Q g s⟩;have ay:=bW.1;simp only [List.flatten_cons,List.flatten_nil,List.append_nil,List.cons_append,List.nil_append,List.map_cons,List.map_nil,List.nodup_cons,List.mem_cons,List.not_mem_nil,not_or,or_false,not_false_eq_true,and_true,List.nodup_nil] at ay;have cr:(Aj ac H [[(mu,.cells #[.int .i32 0,.int .u32 0] 142 (0,0))],[(wg,.cells #[.int .u64 0,.int .u32 0] 148 (0,0))],[(fd,.cells K.toArray 28 (0,0))]]).H fd=some (F.IG λ_=> nS):=by
  rw [J5 (j:=2) al rfl];have:(Array.ofFn λ_:Fin p.length=>Value.slice none 0 0)=K.toArray:=by
   rw [bT];apply Array.ext
   ·simp
   ·intro i aq bY;simp
  show some (Obj.cells K.toArray 28 (0,0))=some (Obj.cells (Array.ofFn λ_:Fin p.length=>Value.slice none 0 0) 28 (0,0));rw [this]
 refine X9 F (f₀:=λ_=> .slice none 0 0) (show 1<=p.length by omega) (show p.length<134217728 by omega) ?_ ay.1.1 (λe=>ay.2 e.symm) (λe=>ay.1.2 e.symm) (J5 (j:=1) al rfl) (J5 (j:=0) al rfl) cr ?_ (λg s h=>h)
 ·rintro kk v cM cN ct ⟨aq,a,c,bY,a2,a3⟩;exact⟨aq,a,c,bY,a2.Ah ct,a3⟩
 have cu:=Vj al;show Way Tryz.prog true (Stop Tryz.prog F (.Gi 0)) _ (⟨(Aj ac H [[(mu,.cells #[.int .i32 0,.int .u32 0] 142 (0,0))],[(wg,.cells #[.int .u64 0,.int .u32 0] 148 (0,0))],[(fd,.cells K.toArray 28 (0,0))]]).E,JK (Aj ac H [[(mu,.cells #[.int .i32 0,.int .u32 0] 142 (0,0))],[(wg,.cells #[.int .u64 0,.int .u32 0] 148 (0,0))],[(fd,.cells K.toArray 28 (0,0))]]).H wg mu fd,false⟩:St);rw [show(Aj ac H [[(mu,.cells #[.int .i32 0,.int .u32 0] 142 (0,0))],[(wg,.cells #[.int .u64 0,.int .u32 0] 148 (0,0))],[(fd,.cells K.toArray 28 (0,0))]]).E=ac from rfl,cu];have cv:Aq ac H []:=trivial;have cw:H fd=none:=(bW.2 (fd,.cells K.toArray 28 (0,0)) (by simp)).2;refine Vl (F:=F) (n:=p.length) rfl bx bw (b4.Ah aw) (b2.Ah aw) (b3.Ah aw) rfl (am.Ah av) (b8.Ah (bn.Ad av)) bV ag (λj az E' a c cy cz=>⟨az,a,c,rfl,cy,cz⟩) (λcA bZ cO=>?_) p.length 0 (by omega) bx ac Ax cv T cq;refine zg 2 rfl ?_;refine Al (v:= .bool false) rfl (λρ h=>Yl.to (Yl.lss (h _ _ rfl) (h _ _ rfl)) (by rw [decide_eq_false (show ¬((p.length:Int)<(p.length:Int)) by omega)])) ?_;refine zg 6 rfl ?_;refine JL.wait Tryz.Kx (F:=F) (show p.length<2147483648 by omega) rfl rfl rfl rfl rfl (Q:=Q) (λg s h=>h) λa4 f b0 cB cP cC=>?_;have a5:Aq a4 H [[(fd,F.IG f)]]:=Nd.iff.2 ⟨by simp,λq ag=>by
  simp at ag;subst ag;exact⟨cB,cw⟩⟩
 have es:(⟨a4,F.JU (Aj cA H []).H f,false⟩:St)=Aj a4 H [[(fd,F.IG f)]]:=by
  unfold Aj mk;congr 1
 rw [es];have b1:=(aw.Ad bZ).Ad b0;refine zg 4 rfl (C8 0 (bV.Ah (bZ.Ad b0)) FY rfl rfl rfl ?_);refine JL.ln underlying22 rfl rfl rfl (zg 3 rfl ?_);refine IK (Er [(27,.slice (AS fd) p.length p.length),(28,iV (p.length:Int)),(29,iV ((0:Nat):Int))] rfl ?_);refine ZW (n:=p.length) (f:=f) (xs:=xs) bw a5 (λk Y=>?_) (λi a c L' hi a0 a6 cD a2 a3 k'=>?_) (λa6=>?_) p.length 0 (by omega) (λk Y=>absurd Y (Nat.not_lt_zero _))
 ·obtain⟨_,a,c,cE,e2,cF⟩:=cC k Y;exact⟨a,c,cE,e2,cF⟩
 ·rw [VG hi a0 a6] at Z;subst Z;exact JL.ret (v:= .tuple #[.slice a (xs i).length c,.bool true]) rfl rfl (BE.list func77 rfl (vs:= [.slice a (xs i).length c,.bool true]) ⟨a2,a3,trivial⟩) (QW a5 λa7=>Y _ _ _ _ b1 rfl ⟨a,c,rfl,rfl,cD⟩ a7)
 ·rw [VJ a6] at Z;subst Z;refine zg 5 rfl (AY func77 rfl rfl ?_);exact QW a5 λa7=>Y _ _ _ _ b1 rfl ⟨none,0,rfl,rfl,Am.nil⟩ a7
end Pal
namespace Pal
open Go Go.Conc Go.Proofs
open Go.Proofs.Tryz
def TH(fu_:Nat)(Z:A4×Int)(O:AT)(K:Int):Option (Bo Int ((Ay×(List Int)×Int)⊕(Unit))):= if K<(O.length:Int) then((ix O K).bind λU=> (f77 fu_ Z.1 U).bind λY=> if Y.2=true then(some (.done (Sum.inl (U,Y.1,0)))) else((Aw (K+1)).bind λac=> some (.more ac))) else(some (.done (Sum.inr ())))
def f27(fu_:Nat)(p0:A4):Option (Ay×(List Int)×Int):= (f70 fu_ p0 ([])).bind λK=> if K.2≠0 then(some ([],[],K.2)) else((f71 fu_ K.1 0).bind λO=> (f76 fu_ O).bind λU=> Option.bind (iter (TH fu_ K U) fu_ 0) λY=> Sum.elim (λr=>some r) (λZ=> some ([],[],11)) Y)
theorem bf{E:LH}{a1:Ao}{c2:Nat}{al:Ao}{am:Nat}{p0:A4}(b3:Am (rL rI) E a1 c2 p0.1)(b4:Am AA E al am p0.2){fu_:Nat}{r:Ay×(List Int)×Int}(a8:f27 fu_ p0=some r):AN (GN Tryz.prog) 27 [.agg #[sV a1 p0.1 c2,sV al p0.2 am]] E [] (λw E' B'=>∃(a9:Ao) (bb:Nat) (be:Ao) (bi:Nat),w= .tuple #[sV a9 r.1 bb,sV be r.2.1 bi,iV r.2.2]/\B'= []/\Am AA E' a9 bb r.1/\Am rI E' be bi r.2.1):=by
 refine Bi func27 λQ c4 cs H b5 a2=>?_;unfold f27 at a8;refine zg 2 rfl (Du b5 λb6 c5 Y b7 b8=>?_);refine zg 6 rfl (Cj b7 ET CV rfl rfl ?_);obtain⟨K,b9,ca⟩:=bs a8;refine B2 (JX (b3.Ah Y) (b4.Ah Y) Am.nil b9) rfl rfl Jy b8 ?_;rintro _ c6 _ a3 ⟨ap,aq,av,aw,rfl,rfl,bn,bo⟩ cb;refine zg 3 rfl (BV cb Hb λbv cc=>?_);refine BL 3 cc Df λcd=>?_;refine Di 3 cd rfl λc7 O bw bx=>zg 8 rfl (AQ ca (λce cf=>?_) (λce cg=>?_))
 ·refine zg 7 rfl ?_;obtain rfl:=oi cf;exact AY func27 rfl rfl (a2 ((Y.Ad a3).Ad O) rfl ⟨none,0,none,0,rfl,rfl,Am.nil,Am.nil⟩ bx)
 ·refine zg 3 rfl (Cj bw FI Df rfl rfl ?_);obtain⟨c8,ci,ck⟩:=bs cg;refine B2 (NZ (bn.Ah O) (bo.Ah O) ci) rfl rfl LG bx ?_;rintro _ c9 da Z ⟨ay,az,_,rfl,rfl,cm⟩ cn;obtain⟨ac,co,cp⟩:=bs ck;refine zg 5 rfl (Cu 4 (Y4 cm co) rfl rfl (A6 func76 rfl) cn rfl ?_);rintro _ cq cr ag ⟨rfl,ct,a4⟩ cu;refine Fs (L':= [(23,.tuple #[]),(0,.agg #[.slice a1 p0.1.length c2,.slice al p0.2.length am]),(1,Ak b6 0),(2,.slice none 0 0),(3,.slice none 0 0),(4,iV 0),(13,.agg #[.slice a1 p0.1.length c2,.slice al p0.2.length am]),(14,.tuple #[.agg #[.slice ap K.1.1.length aq,.slice av K.1.2.length aw],iV K.2]),(12,.tuple #[.agg #[.slice ap K.1.1.length aq,.slice av K.1.2.length aw],iV K.2]),(15,.agg #[.slice ap K.1.1.length aq,.slice av K.1.2.length aw]),(16,iV K.2),(5,Ak bv 0),(6,iV K.2),(17,iV K.2),(18,.bool (decide (K.2≠0))),(20,.agg #[.slice ap K.1.1.length aq,.slice av K.1.2.length aw]),(21,.slice ay ac.length az),(7,.slice ay ac.length az),(22,.slice ay ac.length az)]) ⟨rfl,rfl,rfl,rfl,rfl,rfl,rfl,rfl,rfl,rfl,rfl,rfl,rfl,rfl,rfl,rfl,by rw [a4];rfl,by rw [a4];rfl,by rw [a4];rfl,trivial⟩ ?_;refine zg 5 rfl (JL.ln underlying83 rfl rfl rfl ?_);obtain⟨bz,cv,bT⟩:=bs cp;refine zg 2 rfl (Bw (λL s=>∃(bU:Unit) (bV:LH),bz=Sum.inr bU/\Jm cq H bV [] [] L s) ?_ ?_)
  ·rintro _ _ ⟨bU,bV,rfl,rfl,rfl,cw,cy⟩;have cz:=elim_inr bT;refine zg 6 rfl ?_;obtain rfl:=oi cz;exact AY func27 rfl rfl (a2 (((((Y.Ad a3).Ad O).Ad Z).Ad ag).Ad cw) rfl ⟨none,0,none,0,rfl,rfl,Am.nil,Am.nil⟩ cy)
  ·intro cA;refine JL.block (Dm cv (λa5=> [cr]) (λa5=> [(5,Ak bv 0),(24,sV ay ac az),(25,iV (ac.length:Int)),(26,iV a5)]) Ax cu ?_);rintro a5 cB U a6 bW ⟨db,a0⟩ cC;have bY:=a0;unfold TH at bY;refine zg 5 rfl (AQ bY (λcD cE=>?_) (λcD cF=>?_))
   ·obtain⟨cG,cH,cI⟩:=bs cE;refine zg 5 rfl (L4 0 (ct.Ah U) cH rfl rfl rfl rfl rfl rfl underlying83 A8 ?_);rintro dc dd f93 _ cJ ⟨bZ,b0,rfl,b1⟩ cK de df dg dh;refine Al (v:= sV bZ cG b0) rfl (λρ h=>Yl.load BC (h _ _ rfl) (BY (j:=0) a6 cJ (cK 0 _ rfl))) (zg 4 rfl ?_);refine Cj (bw.Ah ((Z.Ad ag).Ad U)) FI Df rfl rfl ?_;obtain⟨di,cM,cN⟩:=bs cI;refine zg 1 rfl (B2 (bp (bn.Ah (((O.Ad Z).Ad ag).Ad U)) (bo.Ah (((O.Ad Z).Ad ag).Ad U)) b1 cM) rfl rfl (A6 func77 rfl) a6 ?_);rintro _ dj _ a7 ⟨cO,cP,rfl,rfl,cQ⟩ b2;refine zg 10 rfl (CB cN (λcR cT=>?_) (λcR cV=>?_))
    ·refine zg 8 rfl (JS.drop 0 b2 rfl λcW=>?_);obtain rfl:=oi cT;obtain rfl:=bW _ a0;have cX:=elim_inl bT;obtain rfl:=oi cX;exact AY func27 rfl rfl (a2 ((((((Y.Ad a3).Ad O).Ad Z).Ad ag).Ad U).Ad a7) rfl ⟨bZ,b0,cO,cP,rfl,rfl,(b1.Ah a7),cQ⟩ cW)
    ·obtain⟨cY,cZ,c0⟩:=bs cV;refine zg 3 rfl (Bq cZ rfl rfl rfl ?_);refine zg 2 rfl ?_;obtain rfl:=oi c0;exact cC cY (U.Ad a7) b2 rfl a0
   ·refine JL.exit rfl (JS.drop 0 a6 rfl λc1=>?_);obtain rfl:=oi cF;have c3:bz=(Sum.inr ()):=(bW _ a0).symm;exact AB (cA _ _ ⟨(),cB,c3,rfl,rfl,U,c1⟩) rfl
end Pal
namespace Pal
open Go Go.Conc Go.Proofs
open Go.Proofs.Tryz
variable {J:Judge Tryz.prog}{E:LH}
def Tt(fu_:Nat)(p0:List Int)(K:Ay×Int):Option (Bo (Ay×Int) (Ay)):= (Aw (K.2+2)).bind λO=> if O<(p0.length:Int) then((ix p0 K.2).bind λU=> (Aw (K.2+1)).bind λY=> (ix p0 Y).bind λZ=> (Aw (K.2+2)).bind λac=> (ix p0 ac).bind λag=> (Ek K.1 ([(U,Z,ag)]:Ay)).bind λal=> (Aw (K.2+3)).bind λam=> some (.more (al,am))) else(some (.done K.1))
def f67(fu_:Nat)(p0:List Int):Option (Ay):= Option.bind (iter (Tt fu_ p0) fu_ ([],0)) λK=> some K
theorem N9{a1:Ao}{c2:Nat}{p0:List Int}(aq:Am rI E a1 c2 p0){fu_:Nat}{r:Ay}(a2:f67 fu_ p0=some r):AN J 67 [sV a1 p0 c2] E [] (λw E' B'=>∃(a3:Ao) (a4:Nat) (g0:Seg),w= sV a3 r a4/\B'=g0/\OL 27 AA E' a3 a4 g0 r):=by
 refine Bi func67 λQ cB cs H be bi=>?_;unfold f67 at a2;obtain⟨a5,bn,bo⟩:=bs a2;refine zg 13 rfl (Bw (λL s=>∃(av:LH) (Y:Ao) (Z:Nat) (ac:Seg),Jn E H av [ac] [(3,sV Y a5 Z)] L s (OL 27 AA av Y Z ac a5)) ?_ ?_)
 ·rintro _ _ ⟨av,Y,Z,ac,rfl,rfl,bv,bw,bx⟩;refine zg 5 rfl ?_;obtain rfl:=oi bo;exact AY func67 rfl rfl (bi bv rfl ⟨Y,Z,ac,rfl,(by first | rfl | simp | (simp [Value.cells])),bx⟩ bw)
 ·intro bz;refine JL.block (CY bn (λL s ag=>∃(al:LH) (am:Ao) (ap:Nat) (O:Seg),Jn E H al [O] [(0,sV a1 p0 c2),(3,sV am ag.1 ap),(4,iV ag.2)] L s (OL 27 AA al am ap O ag.1)) ⟨E,none,0,[],rfl,rfl,Ax,be,OL.nil⟩ ?_);rintro _ _ ag ⟨al,am,ap,O,rfl,rfl,U,a6,a7⟩ bT ⟨cC,aw⟩ bU;have a8:=aw;unfold Tt at a8;obtain⟨cD,bV,bW⟩:=bs a8;refine zg 4 rfl (Bq bV rfl rfl rfl ?_);refine zg 1 rfl (JL.ln underlying28 rfl rfl rfl ?_);refine zg 2 rfl (AQ bW (λbY bZ=>?_) (λbY b0=>?_))
  ·refine zg 3 rfl (Fg 17 λK=>?_);refine A7 K rfl [0,1,2] rfl ?_;obtain⟨ay,b1,b2⟩:=bs bZ;refine FN 3 (aq.Ah U) b1 K underlying28 AH ?_;rintro cE cF _ rfl b3;refine EP 4 K 0 b3 Bg rfl rfl rfl rfl (A7 K rfl [5,6] rfl ?_);obtain⟨cG,b4,b5⟩:=bs b2;refine AM 7 K rfl rfl (λρ h s' a9=>Gc (h _ _ rfl) (h _ _ rfl) b4) ?_;obtain⟨az,b6,b7⟩:=bs b5;refine FN 8 (aq.Ah U) b6 K underlying28 AH ?_;rintro cH cI _ rfl b8;refine EP 9 K 0 b8 Bg rfl rfl rfl rfl (A7 K rfl [10,11] rfl ?_);obtain⟨cJ,b9,ca⟩:=bs b7;refine AM 12 K rfl rfl (λρ h s' a9=>Gc (h _ _ rfl) (h _ _ rfl) b9) ?_;obtain⟨a0,cb,cc⟩:=bs ca;refine FN 13 (aq.Ah U) cb K underlying28 AH ?_;rintro cK cM _ rfl cd;refine EP 14 K 0 cd Bg rfl rfl rfl rfl (AM (v:= .agg #[iV ay,iV az,iV a0]) 15 K rfl rfl (λρ h s' a9=>Dh [(0,1),(1,1),(2,1)] h BS underlying27 ⟨rfl,AR type3,rfl,AR type3,rfl,AR type3,trivial⟩ rfl rfl) ?_);refine JG.one (i:=16) rfl (by decide+kernel) (Take.EV (pp:=AA) [.agg #[iV ay,iV az,iV a0]] ([(ay,az,a0)]:Ay) a6 rfl rfl rfl underlying23 Bp BS (by decide) rfl rfl rfl ⟨⟨_,_,rfl,rfl,⟨_,_,rfl,rfl,rfl⟩⟩,trivial⟩ λcN ce cf cg=>?_);refine Dk [17,18] (BB (S':= [O,ce]) rfl cg λci=>?_);refine Ce 1 cf ci rfl λck bb cm cn=>?_;obtain⟨co,cp,cq⟩:=bs cc;refine JM (pp:=AA) 0 cp rfl rfl rfl rfl rfl rfl rfl underlying23 underlying23 Bp (Eh type27) BS rfl (by decide) (by decide) (a7.Ah bb) cm cn rfl λcr ct cu cv cw=>?_;obtain⟨cy,cz,cA⟩:=bs cq;refine zg 5 rfl (Bq cz rfl rfl rfl ?_);refine zg 2 rfl ?_;obtain rfl:=oi cA;exact AB (bU _ _ (co,cy) ⟨ck,cr,ct,cu,rfl,rfl,(U.Ad bb),cw,cv⟩ aw) rfl
  ·refine JL.exit rfl ?_;obtain rfl:=oi b0;obtain rfl:=bT _ aw;exact AB (bz _ _ ⟨al,am,ap,O,rfl,rfl,U,a6,a7⟩) rfl
def f110(fu_:Nat)(p0:List Int)(K:List Int):Option (A4):= (f67 fu_ ([0,1,5,1,2,5,2,3,2,0,3,1,3,1,1]:List Int)).bind λO=> (f67 fu_ K).bind λU=> (Ek O U).bind λY=> some (([p0,[],([3]:List Int),([1]:List Int)]:Bn),Y)
theorem PW{a1:Ao}{c2:Nat}{ay:Ao}{az:Nat}{p0:List Int}{al:List Int}(a9:Am rI E a1 c2 p0)(bb:Am rI E ay az al){fu_:Nat}{r:A4}(a0:f110 fu_ p0 al=some r):AN J 110 [sV a1 p0 c2,sV ay al az] E [] (λw E' B'=>∃(a2:Ao) (a3:Nat) (a4:Ao) (a5:Nat),w= .agg #[sV a2 r.1 a3,sV a4 r.2 a5]/\B'= []/\Am (rL rI) E' a2 a3 r.1/\Am AA E' a4 a5 r.2):=by
 refine Bi func110 λQ cC cs H be bi=>?_;unfold f110 at a0;refine zg 2 rfl (BV be Jz λY bn=>?_);refine zg 4 rfl (Fu (pp:=rI) [iV 3] [3] rfl rfl rfl underlying28 AH CG (by decide) rfl rfl rfl ⟨rfl,trivial⟩ bn λbo bv bw bx=>?_);refine Fu (pp:=rI) [iV 1] [1] rfl rfl rfl underlying28 AH CG (by decide) rfl rfl rfl ⟨rfl,trivial⟩ bx λbz bT bU bV=>BB (S':= [[],[(Y,.cells #[nS,nS] 25 (0,0))],bv,bT]) rfl bV λbW=>Ce 2 bw bW rfl λcD ac bY bZ=>Ce 3 (bU.Ah ac) bZ rfl λcE ag b0 b1=>Fu (pp:=(rL rI)) [sV a1 p0 c2,nS,.slice (AS bo) (([3]:List Int)).length 1,.slice (AS bz) (([1]:List Int)).length 1] [p0,[],([3]:List Int),([1]:List Int)] rfl rfl rfl underlying22 GK LJ (by decide) rfl rfl rfl ⟨⟨_,_,rfl,(a9.Ah (ac.Ad ag))⟩,⟨_,_,rfl,Am.nil⟩,⟨_,_,rfl,(bY.Ah ag)⟩,⟨_,_,rfl,b0⟩,trivial⟩ b1 λK am b2 b3=>BB (S':= [[],[(Y,.cells #[nS,nS] 25 (0,0))],[],[],am]) rfl b3 λb4=>Fu (pp:=rI) [iV 0,iV 1,iV 5,iV 1,iV 2,iV 5,iV 2,iV 3,iV 2,iV 0,iV 3,iV 1,iV 3,iV 1,iV 1] [0,1,5,1,2,5,2,3,2,0,3,1,3,1,1] rfl rfl rfl underlying28 AH CG (by decide) rfl rfl rfl ⟨rfl,rfl,rfl,rfl,rfl,rfl,rfl,rfl,rfl,rfl,rfl,rfl,rfl,rfl,rfl,trivial⟩ b4 λcF cG b5 b6=>Ce 5 b5 b6 rfl λcH ap b7 b8=>?_;obtain⟨cI,b9,ca⟩:=bs a0;refine B2 (N9 b7 b9) rfl rfl MJ b8 ?_;rintro _ cJ cb aq ⟨cK,cM,_,rfl,rfl,cc⟩ cd;refine BB (S':= [[],[(Y,.cells #[nS,nS] 25 (0,0))],[],[],am,[],cb]) rfl cd λce=>?_;obtain⟨cN,cf,cg⟩:=bs ca;refine zg 1 rfl (B2 (N9 (bb.Ah (((ac.Ad ag).Ad ap).Ad aq)) cf) rfl rfl MJ ce ?_);rintro _ cO cP av ⟨cQ,cR,_,rfl,rfl,ci⟩ ck;refine Ce 7 ci ck rfl λcT aw cm cn=>?_;obtain⟨Z,co,cp⟩:=bs cg;refine JM (pp:=AA) 6 co rfl rfl rfl rfl rfl rfl rfl underlying23 underlying23 Bp (Eh type27) BS rfl (by decide) (by decide) (cc.Ah (av.Ad aw)) cm cn rfl λO U cq cr ct=>BB (S':= [[],[(Y,.cells #[nS,nS] 25 (0,0))],[],[],am,[],cq,[]]) rfl ct λcu=>Al (v:= .agg #[.slice (AS K) (([p0,[],([3]:List Int),([1]:List Int)]:Bn)).length 4,sV O Z U]) rfl (λρ h=>Dh [(0,1),(1,1)] h Jz underlying25 ⟨rfl,AR type22,rfl,AR type23,trivial⟩ rfl rfl) (BL 1 cu CV λcv=>?_);refine JL.done (Ce 4 (b2.Ah (((ap.Ad aq).Ad av).Ad aw)) cv rfl λcV a6 cw cy=>?_);refine Ce 6 (cr.Ah a6) cy rfl λcW a7 cz cA=>BB (S':= [[],[(Y,.cells #[.slice (AS K) (([p0,[],([3]:List Int),([1]:List Int)]:Bn)).length 4,sV O Z U] 25 (0,0))],[],[],[],[],[],[]]) rfl cA λa8=>?_;obtain rfl:=oi cp;refine JL.ret (v:= .agg #[.slice (AS K) (([p0,[],([3]:List Int),([1]:List Int)]:Bn)).length 4,sV O Z U]) rfl rfl (BE.list func110 rfl (vs:= [.agg #[.slice (AS K) (([p0,[],([3]:List Int),([1]:List Int)]:Bn)).length 4,sV O Z U]]) ⟨⟨_,rfl,Ld.many (vs:= [.slice (AS K) (([p0,[],([3]:List Int),([1]:List Int)]:Bn)).length 4,sV O Z U]) ET CV (Hc (off:=0) 1 a8 rfl rfl)⟩,trivial⟩) (En 1 a8 rfl λcB=>?_);exact bi (((((((ac.Ad ag).Ad ap).Ad aq).Ad av).Ad aw).Ad a6).Ad a7) rfl ⟨(AS K),4,O,U,rfl,rfl,(cw.Ah a7),cz⟩ cB
def f63(fu_:Nat):Option (A4):= (f110 fu_ ([1,2,3]:List Int) ([])).bind λK=> some K
theorem NY{fu_:Nat}{r:A4}(ac:f63 fu_=some r):AN J 63 [] E [] (λw E' B'=>∃(ag:Ao) (al:Nat) (am:Ao) (ap:Nat),w= .agg #[sV ag r.1 al,sV am r.2 ap]/\B'= []/\Am (rL rI) E' ag al r.1/\Am AA E' am ap r.2):=by
 refine Bi func63 λQ be cs H av aw=>?_;unfold f63 at ac;refine zg 2 rfl (BV av Jz λr1 ay=>?_);refine zg 3 rfl (Fu (pp:=rI) [iV 1,iV 2,iV 3] [1,2,3] rfl rfl rfl underlying28 AH CG (by decide) rfl rfl rfl ⟨rfl,rfl,rfl,trivial⟩ ay λbi bn az a0=>?_);refine Ce 2 az a0 rfl λbo a1 a2 a3=>?_;obtain⟨K,a4,a5⟩:=bs ac;refine B2 (PW a2 Am.nil a4) rfl rfl Ox a3 ?_;rintro _ bv _ a6 ⟨O,U,Y,Z,rfl,rfl,a7,a8⟩ a9;refine BL 1 a9 CV λaq=>?_;refine JL.done ?_;obtain rfl:=oi a5;refine JL.ret (v:= .agg #[sV O K.1 U,sV Y K.2 Z]) rfl rfl (BE.list func63 rfl (vs:= [.agg #[sV O K.1 U,sV Y K.2 Z]]) ⟨⟨_,rfl,Ld.many (vs:= [sV O K.1 U,sV Y K.2 Z]) ET CV (Hc (off:=0) 1 aq rfl rfl)⟩,trivial⟩) (En 1 aq rfl λbb=>?_);exact aw (a1.Ad a6) rfl ⟨O,U,Y,Z,rfl,rfl,a7,a8⟩ bb
def f64(fu_:Nat):Option (A4):= (f110 fu_ ([]) ([])).bind λK=> some K
theorem aB{fu_:Nat}{r:A4}(ac:f64 fu_=some r):AN J 64 [] E [] (λw E' B'=>∃(ag:Ao) (al:Nat) (am:Ao) (ap:Nat),w= .agg #[sV ag r.1 al,sV am r.2 ap]/\B'= []/\Am (rL rI) E' ag al r.1/\Am AA E' am ap r.2):=by
 refine Bi func64 λQ a6 cs H av aw=>?_;unfold f64 at ac;refine zg 2 rfl (BV av Jz λr1 ay=>?_);obtain⟨K,az,a0⟩:=bs ac;refine zg 3 rfl (B2 (PW Am.nil Am.nil az) rfl rfl Ox ay ?_);rintro _ a7 _ a1 ⟨O,U,Y,Z,rfl,rfl,a2,a3⟩ a4;refine BL 1 a4 CV λaq=>?_;refine JL.done ?_;obtain rfl:=oi a0;refine JL.ret (v:= .agg #[sV O K.1 U,sV Y K.2 Z]) rfl rfl (BE.list func64 rfl (vs:= [.agg #[sV O K.1 U,sV Y K.2 Z]]) ⟨⟨_,rfl,Ld.many (vs:= [sV O K.1 U,sV Y K.2 Z]) ET CV (Hc (off:=0) 1 aq rfl rfl)⟩,trivial⟩) (En 1 aq rfl λa5=>?_);exact aw a1 rfl ⟨O,U,Y,Z,rfl,rfl,a2,a3⟩ a5
def f65(fu_:Nat):Option (A4):= (f110 fu_ ([5,1]:List Int) ([])).bind λK=> some K
theorem bl{fu_:Nat}{r:A4}(ac:f65 fu_=some r):AN J 65 [] E [] (λw E' B'=>∃(ag:Ao) (al:Nat) (am:Ao) (ap:Nat),w= .agg #[sV ag r.1 al,sV am r.2 ap]/\B'= []/\Am (rL rI) E' ag al r.1/\Am AA E' am ap r.2):=by
 refine Bi func65 λQ be cs H av aw=>?_;unfold f65 at ac;refine zg 2 rfl (BV av Jz λr1 ay=>?_);refine zg 3 rfl (Fu (pp:=rI) [iV 5,iV 1] [5,1] rfl rfl rfl underlying28 AH CG (by decide) rfl rfl rfl ⟨rfl,rfl,trivial⟩ ay λbi bn az a0=>?_);refine Ce 2 az a0 rfl λbo a1 a2 a3=>?_;obtain⟨K,a4,a5⟩:=bs ac;refine B2 (PW a2 Am.nil a4) rfl rfl Ox a3 ?_;rintro _ bv _ a6 ⟨O,U,Y,Z,rfl,rfl,a7,a8⟩ a9;refine BL 1 a9 CV λaq=>?_;refine JL.done ?_;obtain rfl:=oi a5;refine JL.ret (v:= .agg #[sV O K.1 U,sV Y K.2 Z]) rfl rfl (BE.list func65 rfl (vs:= [.agg #[sV O K.1 U,sV Y K.2 Z]]) ⟨⟨_,rfl,Ld.many (vs:= [sV O K.1 U,sV Y K.2 Z]) ET CV (Hc (off:=0) 1 aq rfl rfl)⟩,trivial⟩) (En 1 aq rfl λbb=>?_);exact aw (a1.Ad a6) rfl ⟨O,U,Y,Z,rfl,rfl,a7,a8⟩ bb
def f66(fu_:Nat):Option (Ay):= (f67 fu_ ([0,1,1,0,2,3,0,3,2]:List Int)).bind λK=> some K
theorem aM{fu_:Nat}{r:Ay}(K:f66 fu_=some r):AN J 66 [] E [] (λw E' B'=>∃(O:Ao) (U:Nat),w= sV O r U/\B'= []/\Am AA E' O U r):=by
 refine Bi func66 λQ a5 cs H Y Z=>?_;unfold f66 at K;refine zg 6 rfl (Fu (pp:=rI) [iV 0,iV 1,iV 1,iV 0,iV 2,iV 3,iV 0,iV 3,iV 2] [0,1,1,0,2,3,0,3,2] rfl rfl rfl underlying28 AH CG (by decide) rfl rfl rfl ⟨rfl,rfl,rfl,rfl,rfl,rfl,rfl,rfl,rfl,trivial⟩ Y λr1 g2 ac ag=>?_);refine Ce 1 ac ag rfl λa6 al am ap=>?_;obtain⟨a7,aq,av⟩:=bs K;refine B2 (N9 am aq) rfl rfl MJ ap ?_;rintro _ a8 a9 aw ⟨ay,az,_,rfl,rfl,a0⟩ a1;refine zg 2 rfl (Ce 2 a0 a1 rfl λbb a2 a3 a4=>?_);obtain rfl:=oi av;exact AY func66 rfl rfl (Z ((al.Ad aw).Ad a2) rfl ⟨ay,az,rfl,rfl,a3⟩ a4)
def TF(fu_:Nat)(p0:List Int)(O:List Int)(K:Int):Option (Bo Int ((Bool)⊕(Unit))):= Option.bind (if K<(p0.length:Int) then(some (decide (K<(O.length:Int)))) else(some false)) λU=> if U=true then((ix p0 K).bind λY=> (ix O K).bind λZ=> if Y≠Z then(some (.done (Sum.inl false))) else((Aw (K+1)).bind λac=> some (.more ac))) else(some (.done (Sum.inr ())))
def f29(fu_:Nat)(p0:List Int)(K:List Int):Option Bool:= Option.bind (iter (TF fu_ p0 K) fu_ 0) λO=> Sum.elim (λr=>some r) (λU=> some (decide ((p0.length:Int)=(K.length:Int)))) O
theorem N2{a1:Ao}{c2:Nat}{U:Ao}{Y:Nat}{p0:List Int}{K:List Int}(a7:Am rI E a1 c2 p0)(a8:Am rI E U Y K){fu_:Nat}{r:Bool}(av:f29 fu_ p0 K=some r):AN J 29 [sV a1 p0 c2,sV U K Y] E [] (λw E' B'=>w= .bool r/\B'= []):=by
 refine Bi func29 λQ ce cs H a9 aw=>?_;unfold f29 at av;obtain⟨ay,bb,az⟩:=bs av;refine zg 9 rfl (Bw (λL s=>∃(a0:Unit) (a2:LH),ay=Sum.inr a0/\Jm E H a2 [] [(0,sV a1 p0 c2),(1,sV U K Y)] L s) ?_ ?_)
 ·rintro _ _ ⟨a0,a2,rfl,rfl,rfl,be,bi⟩;have bn:=elim_inr az;refine zg 3 rfl (JL.ln underlying28 rfl rfl rfl ?_);refine zg 1 rfl (JL.ln underlying28 rfl rfl rfl ?_);refine zg 3 rfl ?_;obtain rfl:=oi bn;exact AY func29 rfl rfl (aw be rfl ⟨rfl,rfl⟩ bi)
 ·intro bo;refine JL.block (Dm bb (λag=> []) (λag=> [(0,sV a1 p0 c2),(1,sV U K Y),(5,iV ag)]) Ax a9 ?_);rintro ag am Z a3 a4 ⟨cf,al⟩ bv;have a5:=al;unfold TF at a5;refine zg 5 rfl (JL.ln underlying28 rfl rfl rfl ?_);obtain⟨bw,bx,bz⟩:=bs a5;refine zg 2 rfl (Hg [] (λL s=>∃(ap:LH),Jm am H ap [] [(0,sV a1 p0 c2),(1,sV U K Y),(5,iV ag),(15,.bool bw)] L s) ?_ ?_)
  ·rintro _ _ ⟨ap,rfl,rfl,ac,aq⟩;refine JL.done (CB bz (λbT bU=>?_) (λbT bV=>?_))
   ·refine zg 4 rfl (Fg 8 λO=>?_);refine A7 O rfl [0,1] rfl ?_;obtain⟨cg,bW,bY⟩:=bs bU;refine FN 2 (a7.Ah (Z.Ad ac)) bW O underlying28 AH ?_;rintro ci ck _ rfl bZ;refine EP 3 O 0 bZ Bg rfl rfl rfl rfl (A7 O rfl [4,5] rfl ?_);obtain⟨cm,b0,b1⟩:=bs bY;refine FN 6 (a8.Ah (Z.Ad ac)) b0 O underlying28 AH ?_;rintro cn co _ rfl b2;refine EP 7 O 0 b2 Bg rfl rfl rfl rfl (Dk [8] ?_);refine zg 2 rfl (AQ b1 (λb3 b4=>?_) (λb3 b5=>?_))
    ·refine zg 4 rfl ?_;obtain rfl:=oi b4;obtain rfl:=a4 _ al;have b6:=elim_inl az;obtain rfl:=oi b6;exact AY func29 rfl rfl (aw (Z.Ad ac) rfl ⟨rfl,rfl⟩ aq)
    ·obtain⟨b7,b8,b9⟩:=bs b5;refine zg 4 rfl (Bq b8 rfl rfl rfl ?_);refine zg 2 rfl ?_;obtain rfl:=oi b9;exact bv b7 (Z.Ad ac) aq rfl al
   ·refine JL.exit rfl ?_;obtain rfl:=oi bV;have ca:ay=(Sum.inr ()):=(a4 _ al).symm;exact AB (bo _ _ ⟨(),ap,ca,rfl,rfl,(Z.Ad ac),aq⟩) rfl
  ·intro a6;refine Gg 10 bx (λcb cc=>?_) (λcb cd=>?_)
   ·refine zg 2 rfl (JL.ln underlying28 rfl rfl rfl ?_);refine zg 2 rfl ?_;obtain rfl:=oi cc;exact AB (a6 _ _ ⟨am,rfl,rfl,Ax,a3⟩) rfl
   ·refine zg 5 rfl ?_;obtain rfl:=oi cd;exact AB (a6 _ _ ⟨am,rfl,rfl,Ax,a3⟩) rfl
def Ti(fu_:Nat)(p0:Ay)(O:Ay)(K:Int):Option (Bo Int ((Bool)⊕(Unit))):= Option.bind (if K<(p0.length:Int) then(some (decide (K<(O.length:Int)))) else(some false)) λU=> if U=true then((ix p0 K).bind λY=> (ix O K).bind λZ=> if Y≠Z then(some (.done (Sum.inl false))) else((Aw (K+1)).bind λac=> some (.more ac))) else(some (.done (Sum.inr ())))
def f26(fu_:Nat)(p0:Ay)(K:Ay):Option Bool:= Option.bind (iter (Ti fu_ p0 K) fu_ 0) λO=> Sum.elim (λr=>some r) (λU=> some (decide ((p0.length:Int)=(K.length:Int)))) O
theorem T6{a1:Ao}{c2:Nat}{U:Ao}{Y:Nat}{p0:Ay}{K:Ay}(a9:Am AA E a1 c2 p0)(bb:Am AA E U Y K){fu_:Nat}{r:Bool}(ay:f26 fu_ p0 K=some r):AN J 26 [sV a1 p0 c2,sV U K Y] E [] (λw E' B'=>w= .bool r/\B'= []):=by
 refine Bi func26 λQ cg cs H be az=>?_;unfold f26 at ay;obtain⟨a0,bi,a2⟩:=bs ay;refine zg 9 rfl (Bw (λL s=>∃(a3:Unit) (a4:LH),a0=Sum.inr a3/\Jm E H a4 [] [(0,sV a1 p0 c2),(1,sV U K Y)] L s) ?_ ?_)
 ·rintro _ _ ⟨a3,a4,rfl,rfl,rfl,bn,bo⟩;have bv:=elim_inr a2;refine zg 3 rfl (JL.ln underlying23 rfl rfl rfl ?_);refine zg 1 rfl (JL.ln underlying23 rfl rfl rfl ?_);refine zg 3 rfl ?_;obtain rfl:=oi bv;exact AY func26 rfl rfl (az bn rfl ⟨rfl,rfl⟩ bo)
 ·intro bw;refine JL.block (Dm bi (λap=> []) (λap=> [(0,sV a1 p0 c2),(1,sV U K Y),(5,iV ap)]) Ax be ?_);rintro ap av Z a5 a6 ⟨ci,aq⟩ bx;have a7:=aq;unfold Ti at a7;refine zg 5 rfl (JL.ln underlying23 rfl rfl rfl ?_);obtain⟨bz,bT,bU⟩:=bs a7;refine zg 2 rfl (Hg [] (λL s=>∃(ac:LH),Jm av H ac [] [(0,sV a1 p0 c2),(1,sV U K Y),(5,iV ap),(15,.bool bz)] L s) ?_ ?_)
  ·rintro _ _ ⟨ac,rfl,rfl,ag,aw⟩;refine JL.done (CB bU (λbV bW=>?_) (λbV bY=>?_))
   ·refine zg 4 rfl (Fg 8 λO=>?_);refine A7 O rfl [0,1] rfl ?_;obtain⟨al,bZ,b0⟩:=bs bW;refine FN 2 (a9.Ah (Z.Ad ag)) bZ O underlying23 Bp ?_;rintro ck cm _ ⟨_,_,rfl,rfl,⟨_,_,rfl,rfl,rfl⟩⟩ b1;refine Jj 3 O b1 Ed Bp rfl rfl rfl (A7 O rfl [4,5] rfl ?_);obtain⟨am,b2,b3⟩:=bs b0;refine FN 6 (bb.Ah (Z.Ad ag)) b2 O underlying23 Bp ?_;rintro cn co _ ⟨_,_,rfl,rfl,⟨_,_,rfl,rfl,rfl⟩⟩ b4;refine Jj 7 O b4 Ed Bp rfl rfl rfl (Dk [8] ?_);refine Al (v:= .bool (decide (al≠am))) rfl (λρ h=>Sm (E:=ac) (E':=ac) (ws:= [iV al.1,iV al.2.1,iV al.2.2]) (ws':= [iV am.1,iV am.2.1,iV am.2.2]) (a:=al) (b:=am) aH (by decide) (by decide+kernel) ⟨_,_,rfl,rfl,⟨_,_,rfl,rfl,rfl⟩⟩ ⟨_,_,rfl,rfl,⟨_,_,rfl,rfl,rfl⟩⟩ (h _ _ rfl) (h _ _ rfl)) (JL.done ?_);refine AQ b3 (λb5 b6=>?_) (λb5 b7=>?_)
    ·refine zg 4 rfl ?_;obtain rfl:=oi b6;obtain rfl:=a6 _ aq;have b8:=elim_inl a2;obtain rfl:=oi b8;exact AY func26 rfl rfl (az (Z.Ad ag) rfl ⟨rfl,rfl⟩ aw)
    ·obtain⟨b9,ca,cb⟩:=bs b7;refine zg 4 rfl (Bq ca rfl rfl rfl ?_);refine zg 2 rfl ?_;obtain rfl:=oi cb;exact bx b9 (Z.Ad ag) aw rfl aq
   ·refine JL.exit rfl ?_;obtain rfl:=oi bY;have cc:a0=(Sum.inr ()):=(a6 _ aq).symm;exact AB (bw _ _ ⟨(),ac,cc,rfl,rfl,(Z.Ad ag),aw⟩) rfl
  ·intro a8;refine Gg 10 bT (λcd ce=>?_) (λcd cf=>?_)
   ·refine zg 2 rfl (JL.ln underlying23 rfl rfl rfl ?_);refine zg 2 rfl ?_;obtain rfl:=oi ce;exact AB (a8 _ _ ⟨av,rfl,rfl,Ax,a5⟩) rfl
   ·refine zg 5 rfl ?_;obtain rfl:=oi cf;exact AB (a8 _ _ ⟨av,rfl,rfl,Ax,a5⟩) rfl
def f18(fu_:Nat):Option Bool:= (f63 fu_).bind λag=> (f43 fu_ ag).bind λO=> (f63 fu_).bind λal=> (f33 fu_ al).bind λU=> (f63 fu_).bind λam=> (f22 fu_ am).bind λY=> (f63 fu_).bind λap=> (f24 fu_ ap).bind λZ=> (f64 fu_).bind λaq=> (f39 fu_ aq).bind λac=> (f65 fu_).bind λav=> (f27 fu_ av).bind λK=> Option.bind (if O.2=0 then(some (decide (U.2=0))) else(some false)) λaw=> Option.bind (if aw=true then(some (decide (Y.2=0))) else(some false)) λay=> Option.bind (if ay=true then(some (decide (Z.2=0))) else(some false)) λaz=> Option.bind (if az=true then(some (decide (ac.2=0))) else(some false)) λa0=> Option.bind (if a0=true then(some (decide (K.2.2=0))) else(some false)) λa1=> Option.bind (if a1=true then(some (decide (Z.1=16))) else(some false)) λa2=> Option.bind (if a2=true then((f29 fu_ O.1 ([(-6),1,3,2]:List Int)).bind λa3=> some a3) else(some false)) λa4=> Option.bind (if a4=true then((f29 fu_ U.1 ([1,2,3]:List Int)).bind λa5=> some a5) else(some false)) λa6=> Option.bind (if a6=true then((f66 fu_).bind λa7=> (f26 fu_ Y.1 a7).bind λa8=> some a8) else(some false)) λa9=> Option.bind (if a9=true then((f29 fu_ ac.1 ([0]:List Int)).bind λbb=> some bb) else(some false)) λbe=> Option.bind (if be=true then((f67 fu_ ([0,2,6,2,3,3,3,1,1]:List Int)).bind λbi=> (f26 fu_ K.1 bi).bind λbn=> some bn) else(some false)) λbo=> Option.bind (if bo=true then((f29 fu_ K.2.1 ([0,1,2]:List Int)).bind λbv=> some bv) else(some false)) λbw=> some bw
theorem aW{E:LH}{fu_:Nat}{r:Bool}(bV:f18 fu_=some r):AN (GN Tryz.prog) 18 [] E [] (λw E' B'=>w= .bool r/\B'= []):=by
 refine Bi func18 λQ gm cs H cB cC=>?_;unfold f18 at bV;obtain⟨gn,cD,cE⟩:=bs bV;refine zg 6 rfl (B2 (NY cD) rfl rfl MH cB ?_);rintro _ gp _ cF ⟨gq,gr,gt,gu,rfl,rfl,cG,cH⟩ cI;obtain⟨a6,cJ,cK⟩:=bs cE;refine B2 (bj cG cH cJ) rfl rfl (A6 func43 rfl) cI ?_;rintro _ gv _ cM ⟨a7,a8,rfl,rfl,cN⟩ cO;obtain⟨gw,cP,cQ⟩:=bs cK;refine zg 8 rfl (B2 (NY cP) rfl rfl MH cO ?_);rintro _ gx _ bW ⟨gy,gz,gA,gB,rfl,rfl,cR,cT⟩ cV;refine BB (S':= [[],[],[],[]]) rfl cV λcW=>?_;obtain⟨av,cX,cY⟩:=bs cQ;refine B2 (aG cR cT cX) rfl rfl (A6 func33 rfl) cW ?_;rintro _ gC _ bY ⟨aw,ay,rfl,rfl,cZ⟩ c0;obtain⟨gD,c1,c2⟩:=bs cY;refine zg 8 rfl (B2 (NY c1) rfl rfl MH c0 ?_);rintro _ gE _ bz ⟨gF,gG,gH,gI,rfl,rfl,c3,c4⟩ c5;obtain⟨ag,c6,c7⟩:=bs c2;refine B2 (TU c3 c4 c6) rfl rfl (A6 func22 rfl) c5 ?_;rintro _ gJ _ bT ⟨ap,aq,rfl,rfl,c8⟩ c9;refine BB (S':= [[],[],[],[],[],[],[]]) rfl c9 λda=>?_;obtain⟨gK,db,dc⟩:=bs c7;refine zg 8 rfl (B2 (NY db) rfl rfl MH da ?_);rintro _ gL _ bn ⟨gM,gO,gP,gQ,rfl,rfl,dd,de⟩ df;obtain⟨az,dg,dh⟩:=bs dc;refine CK (aX dd de dg) rfl rfl (A6 func24 rfl) df λgR bo di=>?_;obtain⟨gS,dj,dk⟩:=bs dh;refine zg 8 rfl (B2 (aB dj) rfl rfl (A6 func64 rfl) di ?_);rintro _ gT _ bv ⟨gU,gV,gW,gX,rfl,rfl,dn,dp⟩ dq;refine BB (S':= [[],[],[],[],[],[],[],[],[],[]]) rfl dq λdr=>?_;obtain⟨O,dt,du⟩:=bs dk;refine B2 (bu dn dp dt) rfl rfl (A6 func39 rfl) dr ?_;rintro _ gY _ bw ⟨al,am,rfl,rfl,dv⟩ dw;obtain⟨gZ,dx,dy⟩:=bs du;refine zg 8 rfl (B2 (bl dx) rfl rfl (A6 func65 rfl) dw ?_);rintro _ g0 _ bb ⟨g1,g3,g4,g5,rfl,rfl,dz,dA⟩ dB;obtain⟨K,dC,dD⟩:=bs dy;refine B2 (bf dz dA dC) rfl rfl (A6 func27 rfl) dB ?_;rintro _ g6 _ be ⟨Z,ac,U,Y,rfl,rfl,dE,dF⟩ dG;refine BB (S':= [[],[],[],[],[],[],[],[],[],[],[],[],[]]) rfl dG λbZ=>?_;obtain⟨dH,dI,dJ⟩:=bs dD;refine zg 13 rfl (Fi 6 52 [] [(1,sV a7 a6.1 a8),(3,sV aw av.1 ay),(5,sV ap ag.1 aq),(6,iV ag.2),(7,iV az.1),(8,iV az.2),(9,sV al O.1 am),(10,iV O.2),(11,sV Z K.1 ac),(12,sV U K.2.1 Y),(13,iV K.2.2),(50,.bool dH)] (λg7 a0 b0=>?_) (λb1=>?_))
 ·obtain⟨dK,dL,dM⟩:=bs dJ;refine zg 1 rfl (Fi 10 48 [] [(1,sV a7 a6.1 a8),(3,sV aw av.1 ay),(5,sV ap ag.1 aq),(7,iV az.1),(8,iV az.2),(9,sV al O.1 am),(10,iV O.2),(11,sV Z K.1 ac),(12,sV U K.2.1 Y),(13,iV K.2.2),(54,.bool dK)] (λg8 a1 b2=>?_) (λb3=>?_))
  ·obtain⟨dN,dO,dQ⟩:=bs dM;refine zg 1 rfl (Fi 14 44 [] [(1,sV a7 a6.1 a8),(3,sV aw av.1 ay),(5,sV ap ag.1 aq),(7,iV az.1),(9,sV al O.1 am),(10,iV O.2),(11,sV Z K.1 ac),(12,sV U K.2.1 Y),(13,iV K.2.2),(58,.bool dN)] (λg9 a2 b4=>?_) (λb5=>?_))
   ·obtain⟨dR,dS,dT⟩:=bs dQ;refine zg 1 rfl (Fi 18 40 [] [(1,sV a7 a6.1 a8),(3,sV aw av.1 ay),(5,sV ap ag.1 aq),(7,iV az.1),(9,sV al O.1 am),(11,sV Z K.1 ac),(12,sV U K.2.1 Y),(13,iV K.2.2),(62,.bool dR)] (λha a3 b6=>?_) (λb7=>?_))
    ·obtain⟨dU,dV,dW⟩:=bs dT;refine zg 1 rfl (Fi 22 36 [] [(1,sV a7 a6.1 a8),(3,sV aw av.1 ay),(5,sV ap ag.1 aq),(7,iV az.1),(9,sV al O.1 am),(11,sV Z K.1 ac),(12,sV U K.2.1 Y),(66,.bool dU)] (λhb a4 b8=>?_) (λb9=>?_))
     ·obtain⟨dX,dY,dZ⟩:=bs dW;refine zg 1 rfl (Fi 26 32 [] [(1,sV a7 a6.1 a8),(3,sV aw av.1 ay),(5,sV ap ag.1 aq),(9,sV al O.1 am),(11,sV Z K.1 ac),(12,sV U K.2.1 Y),(70,.bool dX)] (λhc a5 ca=>?_) (λcb=>?_))
      ·obtain⟨ea,eb,ec⟩:=bs dZ;refine zg 1 rfl (Fi 31 27 [] [(3,sV aw av.1 ay),(5,sV ap ag.1 aq),(9,sV al O.1 am),(11,sV Z K.1 ac),(12,sV U K.2.1 Y),(75,.bool ea)] (λhd a9 cc=>?_) (λcd=>?_))
       ·obtain⟨ed,ee,ef⟩:=bs ec;refine zg 1 rfl (Fi 36 22 [] [(5,sV ap ag.1 aq),(9,sV al O.1 am),(11,sV Z K.1 ac),(12,sV U K.2.1 Y),(80,.bool ed)] (λhe bi ce=>?_) (λcf=>?_))
        ·obtain⟨eg,eh,ei⟩:=bs ef;refine zg 1 rfl (Fi 41 17 [] [(9,sV al O.1 am),(11,sV Z K.1 ac),(12,sV U K.2.1 Y),(85,.bool eg)] (λhf bx cg=>?_) (λci=>?_))
         ·obtain⟨ej,ek,el⟩:=bs ei;refine zg 1 rfl (Fi 46 12 [] [(11,sV Z K.1 ac),(12,sV U K.2.1 Y),(90,.bool ej)] (λhg bU ck=>?_) (λcm=>?_))
          ·obtain⟨em,en,eo⟩:=bs el;refine zg 1 rfl (Fi 52 6 [] [(12,sV U K.2.1 Y),(96,.bool em)] (λhj cn co=>?_) (λcp=>?_))
           ·obtain⟨ep,er,et⟩:=bs eo;refine zg 1 rfl (Fi 57 1 [] [(101,.bool ep)] (λhk eu ew=>?_) (λcq=>?_))
            ·refine zg 2 rfl ?_;obtain rfl:=oi et;exact AY func18 rfl rfl (cC (((((((((((((((((((((((cF.Ad cM).Ad bW).Ad bY).Ad bz).Ad bT).Ad bn).Ad bo).Ad bv).Ad bw).Ad bb).Ad be).Ad a0).Ad a1).Ad a2).Ad a3).Ad a4).Ad a5).Ad a9).Ad bi).Ad bx).Ad bU).Ad cn).Ad eu) rfl ⟨rfl,rfl⟩ ew)
            ·refine EM 97 er (λex ey=>?_) (λex ez=>?_)
             ·refine zg 1 rfl (Fu (pp:=rI) [iV 0,iV 1,iV 2] [0,1,2] rfl rfl rfl underlying28 AH CG (by decide) rfl rfl rfl ⟨rfl,rfl,rfl,trivial⟩ co λhl hm eA eB=>?_);refine Ce 0 eA eB rfl λhn cr eC eD=>?_;obtain⟨ho,eE,eF⟩:=bs ey;refine CK (N2 (dF.Ah (((((((((((a0.Ad a1).Ad a2).Ad a3).Ad a4).Ad a5).Ad a9).Ad bi).Ad bx).Ad bU).Ad cn).Ad cr)) eC eE) rfl rfl MG eD λhp eG eH=>BB (S':= [[],[]]) rfl eH λeI=>zg 1 rfl ?_;obtain rfl:=oi eF;exact cq (cr.Ad eG) eI rfl
             ·refine zg 4 rfl ?_;obtain rfl:=oi ez;exact cq Ax co rfl
           ·refine EM 91 en (λeJ eK=>?_) (λeJ eL=>?_)
            ·refine zg 1 rfl (Fu (pp:=rI) [iV 0,iV 2,iV 6,iV 2,iV 3,iV 3,iV 3,iV 1,iV 1] [0,2,6,2,3,3,3,1,1] rfl rfl rfl underlying28 AH CG (by decide) rfl rfl rfl ⟨rfl,rfl,rfl,rfl,rfl,rfl,rfl,rfl,rfl,trivial⟩ ck λhq hr eM eN=>?_);refine Ce 0 eM eN rfl λhs ct eO eP=>?_;obtain⟨ht,eQ,eR⟩:=bs eK;refine B2 (N9 eO eQ) rfl rfl MJ eP ?_;rintro _ hu eS cu ⟨hv,hw,_,rfl,rfl,eT⟩ eU;refine BB (S':= [[],eS]) rfl eU λeV=>Ce 1 eT eV rfl λhx cv eW eX=>?_;obtain⟨hy,eY,eZ⟩:=bs eR;refine CK (T6 (dE.Ah ((((((((((((a0.Ad a1).Ad a2).Ad a3).Ad a4).Ad a5).Ad a9).Ad bi).Ad bx).Ad bU).Ad ct).Ad cu).Ad cv)) eW eY) rfl rfl (A6 func26 rfl) eX λhz e0 e1=>zg 1 rfl ?_;obtain rfl:=oi eZ;exact cp (((ct.Ad cu).Ad cv).Ad e0) e1 rfl
            ·refine zg 5 rfl ?_;obtain rfl:=oi eL;exact cp Ax ck rfl
          ·refine EM 86 ek (λe3 e4=>?_) (λe3 e5=>?_)
           ·refine zg 1 rfl (Fu (pp:=rI) [iV 0] [0] rfl rfl rfl underlying28 AH CG (by decide) rfl rfl rfl ⟨rfl,trivial⟩ cg λhA hB e6 e7=>?_);refine Ce 0 e6 e7 rfl λhC cw e8 e9=>?_;obtain⟨hD,fa,fb⟩:=bs e4;refine CK (N2 (dv.Ah (((((((((((bb.Ad be).Ad a0).Ad a1).Ad a2).Ad a3).Ad a4).Ad a5).Ad a9).Ad bi).Ad bx).Ad cw)) e8 fa) rfl rfl MG e9 λhE fc fe=>BB (S':= [[],[]]) rfl fe λff=>zg 1 rfl ?_;obtain rfl:=oi fb;exact cm (cw.Ad fc) ff rfl
           ·refine zg 4 rfl ?_;obtain rfl:=oi e5;exact cm Ax cg rfl
         ·refine EM 81 eh (λfg fh=>?_) (λfg fj=>?_)
          ·obtain⟨hF,fk,fl⟩:=bs fh;refine zg 1 rfl (B2 (aM fk) rfl rfl (A6 func66 rfl) ce ?_);rintro _ hG _ cy ⟨hH,hI,rfl,rfl,fm⟩ fo;obtain⟨hJ,fp,fq⟩:=bs fl;refine CK (T6 (c8.Ah ((((((((((((((bn.Ad bo).Ad bv).Ad bw).Ad bb).Ad be).Ad a0).Ad a1).Ad a2).Ad a3).Ad a4).Ad a5).Ad a9).Ad bi).Ad cy)) fm fp) rfl rfl (A6 func26 rfl) fo λhK fs fu=>zg 1 rfl ?_;obtain rfl:=oi fq;exact ci (cy.Ad fs) fu rfl
          ·refine zg 4 rfl ?_;obtain rfl:=oi fj;exact ci Ax ce rfl
        ·refine EM 76 ee (λfv fw=>?_) (λfv fx=>?_)
         ·refine zg 1 rfl (Fu (pp:=rI) [iV 1,iV 2,iV 3] [1,2,3] rfl rfl rfl underlying28 AH CG (by decide) rfl rfl rfl ⟨rfl,rfl,rfl,trivial⟩ cc λhL hM fy fz=>?_);refine Ce 0 fy fz rfl λhN cz fA fB=>?_;obtain⟨hO,fC,fD⟩:=bs fw;refine CK (N2 (cZ.Ah (((((((((((((((bz.Ad bT).Ad bn).Ad bo).Ad bv).Ad bw).Ad bb).Ad be).Ad a0).Ad a1).Ad a2).Ad a3).Ad a4).Ad a5).Ad a9).Ad cz)) fA fC) rfl rfl MG fB λhP fE fF=>BB (S':= [[],[]]) rfl fF λfG=>zg 1 rfl ?_;obtain rfl:=oi fD;exact cf (cz.Ad fE) fG rfl
         ·refine zg 4 rfl ?_;obtain rfl:=oi fx;exact cf Ax cc rfl
       ·refine EM 71 eb (λfH fI=>?_) (λfH fJ=>?_)
        ·refine zg 1 rfl (Fu (pp:=rI) [iV (-6),iV 1,iV 3,iV 2] [(-6),1,3,2] rfl rfl rfl underlying28 AH CG (by decide) rfl rfl rfl ⟨rfl,rfl,rfl,rfl,trivial⟩ ca λhQ hR fK fL=>?_);refine Ce 0 fK fL rfl λhS cA fM fN=>?_;obtain⟨hT,fO,fP⟩:=bs fI;refine CK (N2 (cN.Ah ((((((((((((((((bW.Ad bY).Ad bz).Ad bT).Ad bn).Ad bo).Ad bv).Ad bw).Ad bb).Ad be).Ad a0).Ad a1).Ad a2).Ad a3).Ad a4).Ad a5).Ad cA)) fM fO) rfl rfl MG fN λhU fQ fR=>BB (S':= [[],[]]) rfl fR λfS=>zg 1 rfl ?_;obtain rfl:=oi fP;exact cd (cA.Ad fQ) fS rfl
        ·refine zg 4 rfl ?_;obtain rfl:=oi fJ;exact cd Ax ca rfl
      ·refine EM 67 dY (λfT fU=>?_) (λfT fW=>?_)
       ·refine zg 3 rfl ?_;obtain rfl:=oi fU;exact cb Ax b8 rfl
       ·refine zg 3 rfl ?_;obtain rfl:=oi fW;exact cb Ax b8 rfl
     ·refine EM 63 dV (λfX fY=>?_) (λfX fZ=>?_)
      ·refine zg 3 rfl ?_;obtain rfl:=oi fY;exact b9 Ax b6 rfl
      ·refine zg 3 rfl ?_;obtain rfl:=oi fZ;exact b9 Ax b6 rfl
    ·refine EM 59 dS (λga gb=>?_) (λga gc=>?_)
     ·refine zg 3 rfl ?_;obtain rfl:=oi gb;exact b7 Ax b4 rfl
     ·refine zg 3 rfl ?_;obtain rfl:=oi gc;exact b7 Ax b4 rfl
   ·refine EM 55 dO (λgd ge=>?_) (λgd gf=>?_)
    ·refine zg 3 rfl ?_;obtain rfl:=oi ge;exact b5 Ax b2 rfl
    ·refine zg 3 rfl ?_;obtain rfl:=oi gf;exact b5 Ax b2 rfl
  ·refine EM 51 dL (λgg gh=>?_) (λgg gi=>?_)
   ·refine zg 3 rfl ?_;obtain rfl:=oi gh;exact b3 Ax b0 rfl
   ·refine zg 3 rfl ?_;obtain rfl:=oi gi;exact b3 Ax b0 rfl
 ·refine Gg 47 dI (λgj gk=>?_) (λgj gl=>?_)
  ·refine zg 3 rfl ?_;obtain rfl:=oi gk;exact b1 Ax bZ rfl
  ·refine zg 3 rfl ?_;obtain rfl:=oi gl;exact b1 Ax bZ rfl
end Pal
namespace Pal
open Go Go.Conc Go.Proofs
open Go.Proofs.Tryz
variable {J:Judge Tryz.prog}{E:LH}
def f20(fu_:Nat)(p0:List Int):Option ((CE)):= some (p0,0,2685821657736338717)
theorem au{a1:Ao}{c2:Nat}{p0:List Int}(Z:Am rI E a1 c2 p0){fu_:Nat}{r:(CE)}(K:f20 fu_ p0=some r):AN J 20 [sV a1 p0 c2] E [] (λw E' B'=>∃(O:Nat) (U:Ao) (Y:Nat),w= Ak O 0/\B'= [(O,.cells #[sV U r.1 Y,iV r.2.1,.int .u64 ((r.2.2:Nat):Int)] 74 (0,0))]/\Am rI E' U Y r.1):=by
 refine Bi func20 λQ ap cs H ac ag=>?_;unfold f20 at K;refine zg 7 rfl (Al (v:= .agg #[sV a1 p0 c2,iV 0,.int .u64 ((2685821657736338717:Nat):Int)]) rfl (λρ h=>Dh [(0,1),(1,1),(2,1)] h (Dj type74) underlying74 ⟨rfl,AR type28,rfl,AR type3,rfl,AR type72,trivial⟩ rfl rfl) ?_);refine JS.box (v:= .agg #[sV a1 p0 c2,iV 0,.int .u64 ((2685821657736338717:Nat):Int)]) rfl rfl rfl ac rfl λal am=>zg 2 rfl ?_;obtain rfl:=oi K;exact AY func20 rfl rfl (ag Ax rfl ⟨al,a1,c2,rfl,(by first | rfl | simp | (simp [Value.cells])),Z⟩ am)
def f92(fu_:Nat)(p0:Int)(K:Int)(p2:Int):Option Bool:= Option.bind (if K<=p0 then(some (decide (p0<=p2))) else(some false)) λO=> some O
def f88(fu_:Nat)(p0:Int)(K:Int×Int×Int)(p2:Int):Option Int:= (Aw (p0 - 1)).bind λO=> (f92 fu_ K.1 0 O).bind λU=> Option.bind (if(!U)=true then(some true) else((Aw (p0 - 1)).bind λY=> (f92 fu_ K.2.1 0 Y).bind λZ=> some (!Z))) λac=> if ac=true then(some 3) else(if K.1=K.2.1 then(some 8) else((f92 fu_ K.2.2 1 p2).bind λag=> if(!ag)=true then(some 1) else(some 0)))
def Mg(fu_:Nat)(p0:A4)(O:Int)(K:Int):Option (Bo Int ((Int)⊕(Unit))):= (ix p0.1 O).bind λU=> if K<(U.length:Int) then((ix p0.1 O).bind λY=> (ix Y K).bind λZ=> (f92 fu_ Z 1 9).bind λac=> if(!ac)=true then(some (.done (Sum.inl 1))) else((Aw (K+1)).bind λag=> some (.more ag))) else(some (.done (Sum.inr ())))
def Me(fu_:Nat)(p0:A4)(K:Int):Option (Bo Int ((Int)⊕(Unit))):= if K<(p0.1.length:Int) then((ix p0.1 K).bind λO=> if 3<(O.length:Int) then(some (.done (Sum.inl 6))) else(Option.bind (iter (Mg fu_ p0 K) fu_ 0) λU=> Sum.elim (λr=>some (.done (Sum.inl r))) (λZ=> (Aw (K+1)).bind λY=> some (.more Y)) U)) else(some (.done (Sum.inr ())))
def Pz(fu_:Nat)(p0:A4)(K:Int):Option (Bo Int ((Int)⊕(Unit))):= if K<(p0.2.length:Int) then((ix p0.2 K).bind λU=> (f88 fu_ (p0.1.length:Int) U 9).bind λO=> if O≠0 then(some (.done (Sum.inl O))) else((Aw (K+1)).bind λY=> some (.more Y))) else(some (.done (Sum.inr ())))
def f48(fu_:Nat)(p0:A4):Option Int:= if(p0.1.length:Int)<2 then(some 7) else(if 5<(p0.1.length:Int) then(some 6) else(Option.bind (iter (Me fu_ p0) fu_ 0) λK=> Sum.elim (λr=>some r) (λU=> if 8<(p0.2.length:Int) then(some 6) else(Option.bind (iter (Pz fu_ p0) fu_ 0) λO=> Sum.elim (λr=>some r) (λY=> some 0) O)) K))
end Pal
namespace Pal
open Go Go.Conc Go.Proofs
open Go.Proofs.Tryz
variable {J:Judge Tryz.prog}{E:LH}
def f83(fu_:Nat)(p0:CE):Option (Nat×(CE)):= (Aw (p0.2.1+1)).bind λO=> Option.bind (if O<=(p0.1.length:Int) then((Aw (O - 1)).bind λU=> (ix p0.1 U).bind λY=> some (((((CR O)*11400714819323198485) % 2 ^ 64) ^^^ (((CR Y)*14029467366897019727) % 2 ^ 64)) % 2 ^ 64)) else(some (((CR O)*11400714819323198485) % 2 ^ 64))) λK=> some (((((((((((p0.2.2 ^^^ K) % 2 ^ 64)*18397679294719823053) % 2 ^ 64) ^^^ (((((p0.2.2 ^^^ K) % 2 ^ 64)*18397679294719823053) % 2 ^ 64)>>>33)) % 2 ^ 64)*14181476777654086739) % 2 ^ 64) ^^^ (((((((((p0.2.2 ^^^ K) % 2 ^ 64)*18397679294719823053) % 2 ^ 64) ^^^ (((((p0.2.2 ^^^ K) % 2 ^ 64)*18397679294719823053) % 2 ^ 64)>>>33)) % 2 ^ 64)*14181476777654086739) % 2 ^ 64)>>>29)) % 2 ^ 64)>>>11,(p0.1,O,(((((p0.2.2 ^^^ K) % 2 ^ 64)*18397679294719823053) % 2 ^ 64) ^^^ (((((p0.2.2 ^^^ K) % 2 ^ 64)*18397679294719823053) % 2 ^ 64)>>>33)) % 2 ^ 64))
theorem aj{bk:Nat}{a1:Ao}{c2:Nat}{p0:CE}(al:Am rI E a1 c2 p0.1){fu_:Nat}{r:Nat×(CE)}(am:f83 fu_ p0=some r):AN J 83 [Ak bk 0] E [(bk,.cells #[sV a1 p0.1 c2,iV p0.2.1,.int .u64 ((p0.2.2:Nat):Int)] 74 (0,0))] (λw E' B'=>∃(ap:Ao) (aq:Nat),w= .int .u64 ((r.1:Nat):Int)/\B'= [(bk,.cells #[sV ap r.2.1 aq,iV r.2.2.1,.int .u64 ((r.2.2.2:Nat):Int)] 74 (0,0))]/\Am rI E' ap aq r.2.1):=by
 refine Bi func83 λQ bv cs H av a2=>?_;unfold f83 at am;refine zg 8 rfl (JL.fd underlying74 AH rfl rfl rfl ?_);refine Al (v:=iV p0.2.1) rfl (λρ h=>Yl.load Bg (h _ _ rfl) (BY (j:=0) (off:=1) av rfl rfl)) ?_;obtain⟨Y,a3,a4⟩:=bs am;refine Bq a3 rfl rfl rfl (zg 1 rfl ?_);refine JL.fd underlying74 AH rfl rfl rfl (BL 0 av AH λU=>?_);refine zg 5 rfl (JL.fd underlying74 AH rfl rfl rfl ?_);refine Al (v:=iV Y) rfl (λρ h=>Yl.load Bg (h _ _ rfl) (BY (j:=0) (off:=1) U rfl rfl)) (Al (v:= .int .u64 ((CR Y:Nat):Int)) rfl (λρ h=>Yl.CR underlying3 underlying72 (h _ _ rfl)) ?_);refine Al (v:= .int .u64 ((((CR Y)*11400714819323198485) % 2 ^ 64:Nat):Int)) rfl (λρ h=>Nt (h _ _ rfl) (h _ _ rfl)) (zg 4 rfl ?_);refine Fw 9 [bk] ⟨⟨0,_,rfl⟩,trivial⟩ U λK=>A7 K rfl [0,1] rfl (JG.fd 2 K underlying74 AH rfl rfl rfl rfl ?_);refine Kw 3 K 1 0 U Bg ?_;refine A7 K rfl [4,5] rfl (JG.fd 6 K underlying74 GK rfl rfl rfl rfl ?_);refine Kw 7 K 0 0 U Kg ?_;refine AM 8 K rfl rfl (λρ h s' Z=>Yl.len rfl underlying28 (h _ _ rfl)) (Dk [9] ?_);obtain⟨O,a5,a6⟩:=bs a4;refine zg 2 rfl (DW [bX bk #[sV a1 p0.1 c2,iV Y,.int .u64 ((p0.2.2:Nat):Int)] 74] [(0,Ak bk 0),(3,.int .u64 ((O:Nat):Int))] (λbw aw ay=>?_) (λaz=>?_))
 ·refine zg 5 rfl (JL.fd underlying74 JD rfl rfl rfl ?_);refine Al (v:= .int .u64 ((p0.2.2:Nat):Int)) rfl (λρ h=>Yl.load MD (h _ _ rfl) (BY (j:=0) (off:=2) ay rfl rfl)) (zg 1 rfl ?_);refine Al (v:= .int .u64 (((p0.2.2 ^^^ O) % 2 ^ 64:Nat):Int)) rfl (λρ h=>Nj (h _ _ rfl) (h _ _ rfl)) (Al (v:= .int .u64 (((((p0.2.2 ^^^ O) % 2 ^ 64)*18397679294719823053) % 2 ^ 64:Nat):Int)) rfl (λρ h=>Nt (h _ _ rfl) (h _ _ rfl)) ?_);refine zg 1 rfl (JL.fd underlying74 JD rfl rfl rfl ?_);refine BL 0 ay JD λac=>?_;refine zg 2 rfl (Fw 11 [bk] ⟨⟨0,_,rfl⟩,trivial⟩ ac λK=>?_);refine A7 K rfl [0,1,2] rfl (JG.fd 3 K underlying74 JD rfl rfl rfl rfl ?_);refine Kw 4 K 2 0 ac MD ?_;refine A7 K rfl [5,6] rfl (JG.fd 7 K underlying74 JD rfl rfl rfl rfl ?_);refine Kw 8 K 2 0 ac MD ?_;refine AM (v:= .int .u64 ((((((p0.2.2 ^^^ O) % 2 ^ 64)*18397679294719823053) % 2 ^ 64)>>>33:Nat):Int)) 9 K rfl rfl (λρ h s' Z=>Lc 33 (h _ _ rfl) (h _ _ rfl) (by decide)) (AM (v:= .int .u64 (((((((p0.2.2 ^^^ O) % 2 ^ 64)*18397679294719823053) % 2 ^ 64) ^^^ (((((p0.2.2 ^^^ O) % 2 ^ 64)*18397679294719823053) % 2 ^ 64)>>>33)) % 2 ^ 64:Nat):Int)) 10 K rfl rfl (λρ h s' Z=>Nj (h _ _ rfl) (h _ _ rfl)) ?_);refine Dk [11,12,13] (zg 1 rfl ?_);refine JL.fd underlying74 JD rfl rfl rfl (BL 0 ac JD λa0=>?_);refine zg 5 rfl (JL.fd underlying74 JD rfl rfl rfl ?_);refine Al (v:= .int .u64 (((((((p0.2.2 ^^^ O) % 2 ^ 64)*18397679294719823053) % 2 ^ 64) ^^^ (((((p0.2.2 ^^^ O) % 2 ^ 64)*18397679294719823053) % 2 ^ 64)>>>33)) % 2 ^ 64:Nat):Int)) rfl (λρ h=>Yl.load MD (h _ _ rfl) (BY (j:=0) (off:=2) a0 rfl rfl)) (Al (v:= .int .u64 (((((((((p0.2.2 ^^^ O) % 2 ^ 64)*18397679294719823053) % 2 ^ 64) ^^^ (((((p0.2.2 ^^^ O) % 2 ^ 64)*18397679294719823053) % 2 ^ 64)>>>33)) % 2 ^ 64)*14181476777654086739) % 2 ^ 64:Nat):Int)) rfl (λρ h=>Nt (h _ _ rfl) (h _ _ rfl)) ?_);refine zg 6 rfl (Al (v:= .int .u64 ((((((((((p0.2.2 ^^^ O) % 2 ^ 64)*18397679294719823053) % 2 ^ 64) ^^^ (((((p0.2.2 ^^^ O) % 2 ^ 64)*18397679294719823053) % 2 ^ 64)>>>33)) % 2 ^ 64)*14181476777654086739) % 2 ^ 64)>>>29:Nat):Int)) rfl (λρ h=>Lc 29 (h _ _ rfl) (h _ _ rfl) (by decide)) ?_);refine Al (v:= .int .u64 (((((((((((p0.2.2 ^^^ O) % 2 ^ 64)*18397679294719823053) % 2 ^ 64) ^^^ (((((p0.2.2 ^^^ O) % 2 ^ 64)*18397679294719823053) % 2 ^ 64)>>>33)) % 2 ^ 64)*14181476777654086739) % 2 ^ 64) ^^^ (((((((((p0.2.2 ^^^ O) % 2 ^ 64)*18397679294719823053) % 2 ^ 64) ^^^ (((((p0.2.2 ^^^ O) % 2 ^ 64)*18397679294719823053) % 2 ^ 64)>>>33)) % 2 ^ 64)*14181476777654086739) % 2 ^ 64)>>>29)) % 2 ^ 64:Nat):Int)) rfl (λρ h=>Nj (h _ _ rfl) (h _ _ rfl)) (Al (v:= .int .u64 ((((((((((((p0.2.2 ^^^ O) % 2 ^ 64)*18397679294719823053) % 2 ^ 64) ^^^ (((((p0.2.2 ^^^ O) % 2 ^ 64)*18397679294719823053) % 2 ^ 64)>>>33)) % 2 ^ 64)*14181476777654086739) % 2 ^ 64) ^^^ (((((((((p0.2.2 ^^^ O) % 2 ^ 64)*18397679294719823053) % 2 ^ 64) ^^^ (((((p0.2.2 ^^^ O) % 2 ^ 64)*18397679294719823053) % 2 ^ 64)>>>33)) % 2 ^ 64)*14181476777654086739) % 2 ^ 64)>>>29)) % 2 ^ 64)>>>11:Nat):Int)) rfl (λρ h=>Lc 11 (h _ _ rfl) (h _ _ rfl) (by decide)) ?_);refine zg 2 rfl ?_;obtain rfl:=oi a6;exact AY func83 rfl rfl (a2 aw rfl ⟨a1,c2,rfl,rfl,(al.Ah aw)⟩ a0)
 ·refine AQ a5 (λa7 a8=>?_) (λa7 a9=>?_)
  ·refine Fw 14 [bk] ⟨⟨0,_,rfl⟩,trivial⟩ U λK=>A7 K rfl [0,1,2] rfl (JG.fd 3 K underlying74 GK rfl rfl rfl rfl ?_);refine Kw 4 K 0 0 U Kg ?_;refine A7 K rfl [5,6] rfl (JG.fd 7 K underlying74 AH rfl rfl rfl rfl ?_);refine Kw 8 K 1 0 U Bg ?_;obtain⟨bx,bb,be⟩:=bs a8;refine AM 9 K rfl rfl (λρ h s' Z=>Eg (h _ _ rfl) (h _ _ rfl) bb) ?_;obtain⟨ag,bi,bn⟩:=bs be;refine FN 10 al bi K underlying28 AH ?_;rintro bz bT _ rfl bo;refine JG.lp 11 K 0 bo U ⟨⟨0,_,rfl⟩,trivial⟩ Bg ?_;refine AM (v:= .int .u64 ((CR ag:Nat):Int)) 12 K rfl rfl (λρ h s' Z=>Yl.CR underlying3 underlying72 (h _ _ rfl)) (AM (v:= .int .u64 ((((CR ag)*14029467366897019727) % 2 ^ 64:Nat):Int)) 13 K rfl rfl (λρ h s' Z=>Nt (h _ _ rfl) (h _ _ rfl)) ?_);refine Dk [14,15] (Al (v:= .int .u64 ((((((CR Y)*11400714819323198485) % 2 ^ 64) ^^^ (((CR ag)*14029467366897019727) % 2 ^ 64)) % 2 ^ 64:Nat):Int)) rfl (λρ h=>Nj (h _ _ rfl) (h _ _ rfl)) ?_);refine zg 2 rfl ?_;obtain rfl:=oi bn;exact az Ax U rfl
  ·refine JL.skip ?_;obtain rfl:=oi a9;exact az Ax U rfl
def f36(fu_:Nat)(p0:CE)(O:Int):Option (Int×(CE)):= (f83 fu_ p0).bind λK=> if O<1 then(some (0,K.2)) else((N6 K.1 ((CR O+1) % 2 ^ 64)).bind λU=> some (Mx U,K.2))
theorem Lm{bk:Nat}{a1:Ao}{c2:Nat}{p0:CE}{K:Int}(av:Am rI E a1 c2 p0.1){fu_:Nat}{r:Int×(CE)}(O:f36 fu_ p0 K=some r):AN J 36 [Ak bk 0,iV K] E [(bk,.cells #[sV a1 p0.1 c2,iV p0.2.1,.int .u64 ((p0.2.2:Nat):Int)] 74 (0,0))] (λw E' B'=>∃(U:Ao) (Y:Nat),w=iV r.1/\B'= [(bk,.cells #[sV U r.2.1 Y,iV r.2.2.1,.int .u64 ((r.2.2.2:Nat):Int)] 74 (0,0))]/\Am rI E' U Y r.2.1):=by
 refine Bi func36 λQ a6 cs H aw Z=>?_;unfold f36 at O;obtain⟨a7,ay,az⟩:=bs O;refine zg 7 rfl (Cu 0 (aj av ay) rfl rfl (A6 func83 rfl) aw rfl ?_);rintro _ a8 _ ac ⟨ag,al,rfl,rfl,am⟩ ap;refine zg 8 rfl (AQ az (λa0 a2=>?_) (λa0 a3=>?_))
 ·refine zg 4 rfl ?_;obtain rfl:=oi a2;exact AY func36 rfl rfl (Z ac rfl ⟨ag,al,rfl,rfl,am⟩ ap)
 ·refine zg 5 rfl (Al (v:= .int .u64 ((CR K:Nat):Int)) rfl (λρ h=>Yl.CR underlying3 underlying72 (h _ _ rfl)) ?_);refine Al (v:= .int .u64 (((CR K+1) % 2 ^ 64:Nat):Int)) rfl (λρ h=>Yr (h _ _ rfl) (h _ _ rfl)) ?_;obtain⟨aq,a4,a5⟩:=bs a3;refine Al (v:= .int .u64 ((aq:Nat):Int)) rfl (λρ h=>Xo (h _ _ rfl) (h _ _ rfl) a4) (Al (v:=iV (Mx aq)) rfl (λρ h=>ZN underlying72 underlying3 (h _ _ rfl)) ?_);refine zg 2 rfl ?_;obtain rfl:=oi a5;exact AY func36 rfl rfl (Z ac rfl ⟨ag,al,rfl,rfl,am⟩ ap)
def f37(fu_:Nat)(p0:CE)(K:Int)(p2:Int):Option (Int×(CE)):= (Aw (p2 - K)).bind λU=> (f36 fu_ p0 U).bind λO=> (Aw (K+O.1)).bind λY=> some (Y,O.2)
theorem P5{bk:Nat}{a1:Ao}{c2:Nat}{p0:CE}{K:Int}{p2:Int}(Z:Am rI E a1 c2 p0.1){fu_:Nat}{r:Int×(CE)}(O:f37 fu_ p0 K p2=some r):AN J 37 [Ak bk 0,iV K,iV p2] E [(bk,.cells #[sV a1 p0.1 c2,iV p0.2.1,.int .u64 ((p0.2.2:Nat):Int)] 74 (0,0))] (λw E' B'=>∃(U:Ao) (Y:Nat),w=iV r.1/\B'= [(bk,.cells #[sV U r.2.1 Y,iV r.2.2.1,.int .u64 ((r.2.2.2:Nat):Int)] 74 (0,0))]/\Am rI E' U Y r.2.1):=by
 refine Bi func37 λQ a4 cs H ac ag=>?_;unfold f37 at O;obtain⟨a5,al,am⟩:=bs O;refine zg 10 rfl (Cl al rfl rfl rfl ?_);obtain⟨a6,ap,aq⟩:=bs am;refine Cu 0 (Lm Z ap) rfl rfl KT ac rfl ?_;rintro _ a7 _ av ⟨aw,ay,rfl,rfl,az⟩ a0;obtain⟨a8,a2,a3⟩:=bs aq;refine Bq a2 rfl rfl rfl (zg 2 rfl ?_);obtain rfl:=oi a3;exact AY func37 rfl rfl (ag av rfl ⟨aw,ay,rfl,rfl,az⟩ a0)
def f32(fu_:Nat)(p0:CE)(O:Int):Option (Bool×(CE)):= (Aw (O - 1)).bind λU=> (f36 fu_ p0 U).bind λK=> some (decide (K.1=0),K.2)
theorem aR{bk:Nat}{a1:Ao}{c2:Nat}{p0:CE}{K:Int}(Z:Am rI E a1 c2 p0.1){fu_:Nat}{r:Bool×(CE)}(O:f32 fu_ p0 K=some r):AN J 32 [Ak bk 0,iV K] E [(bk,.cells #[sV a1 p0.1 c2,iV p0.2.1,.int .u64 ((p0.2.2:Nat):Int)] 74 (0,0))] (λw E' B'=>∃(U:Ao) (Y:Nat),w= .bool r.1/\B'= [(bk,.cells #[sV U r.2.1 Y,iV r.2.2.1,.int .u64 ((r.2.2.2:Nat):Int)] 74 (0,0))]/\Am rI E' U Y r.2.1):=by
 refine Bi func32 λQ a2 cs H ac ag=>?_;unfold f32 at O;obtain⟨a3,al,am⟩:=bs O;refine zg 8 rfl (Cl al rfl rfl rfl ?_);obtain⟨a4,ap,aq⟩:=bs am;refine Cu 0 (Lm Z ap) rfl rfl KT ac rfl ?_;rintro _ a5 _ av ⟨aw,ay,rfl,rfl,az⟩ a0;refine zg 3 rfl ?_;obtain rfl:=oi aq;exact AY func32 rfl rfl (ag av rfl ⟨aw,ay,rfl,rfl,az⟩ a0)
def f81(fu_:Nat)(p0:CE)(K:List Int):Option (Int×(CE)):= (Aw ((K.length:Int) - 1)).bind λU=> (f36 fu_ p0 U).bind λO=> (ix K O.1).bind λY=> some (Y,O.2)
theorem T3{bk:Nat}{a1:Ao}{c2:Nat}{O:Ao}{U:Nat}{p0:CE}{K:List Int}(al:Am rI E a1 c2 p0.1)(am:Am rI E O U K){fu_:Nat}{r:Int×(CE)}(Y:f81 fu_ p0 K=some r):AN J 81 [Ak bk 0,sV O K U] E [(bk,.cells #[sV a1 p0.1 c2,iV p0.2.1,.int .u64 ((p0.2.2:Nat):Int)] 74 (0,0))] (λw E' B'=>∃(Z:Ao) (ac:Nat),w=iV r.1/\B'= [(bk,.cells #[sV Z r.2.1 ac,iV r.2.2.1,.int .u64 ((r.2.2.2:Nat):Int)] 74 (0,0))]/\Am rI E' Z ac r.2.1):=by
 refine Bi func81 λQ a8 cs H ap aq=>?_;unfold f81 at Y;refine zg 9 rfl (JL.ln underlying28 rfl rfl rfl ?_);obtain⟨a9,av,aw⟩:=bs Y;refine Cl av rfl rfl rfl ?_;obtain⟨bb,ay,az⟩:=bs aw;refine Cu 0 (Lm al ay) rfl rfl KT ap rfl ?_;rintro _ be _ ag ⟨a0,a2,rfl,rfl,a3⟩ a4;obtain⟨bi,a5,a6⟩:=bs az;refine JS.ix (am.Ah ag) a5 underlying28 AH ?_;rintro bn bo _ rfl a7;refine C8 0 a7 Bg rfl rfl rfl (zg 2 rfl ?_);obtain rfl:=oi a6;exact AY func81 rfl rfl (aq ag rfl ⟨a0,a2,rfl,rfl,a3⟩ a4)
def f40(fu_:Nat)(p0:CE)(K:Int):Option (Dq×(CE)):= (Aw (K - 1)).bind λac=> (f36 fu_ p0 ac).bind λO=> (f37 fu_ O.2 1 9).bind λU=> (f81 fu_ U.2 ([1,2,2,3,U.1]:List Int)).bind λY=> (Aw (K - 1)).bind λag=> (f37 fu_ Y.2 1 ag).bind λZ=> (Aw (O.1+Z.1)).bind λal=> (Oh al K).bind λam=> some ((O.1,am,Y.1),Z.2)
theorem T4{bk:Nat}{a1:Ao}{c2:Nat}{p0:CE}{ac:Int}(az:Am rI E a1 c2 p0.1){fu_:Nat}{r:Dq×(CE)}(ag:f40 fu_ p0 ac=some r):AN J 40 [Ak bk 0,iV ac] E [(bk,.cells #[sV a1 p0.1 c2,iV p0.2.1,.int .u64 ((p0.2.2:Nat):Int)] 74 (0,0))] (λw E' B'=>∃(al:Ao) (am:Nat),w= .agg #[iV r.1.1,iV r.1.2.1,iV r.1.2.2]/\B'= [(bk,.cells #[sV al r.2.1 am,iV r.2.2.1,.int .u64 ((r.2.2.2:Nat):Int)] 74 (0,0))]/\Am rI E' al am r.2.1):=by
 refine Bi func40 λQ cm cs H a0 a2=>?_;unfold f40 at ag;refine zg 2 rfl (BV a0 BS λcn a3=>?_);obtain⟨co,a4,a5⟩:=bs ag;refine zg 5 rfl (Cl a4 rfl rfl rfl ?_);obtain⟨O,a6,a7⟩:=bs a5;refine Cu 0 (Lm az a6) rfl rfl KT a3 rfl ?_;rintro _ cp _ a8 ⟨cq,cr,rfl,rfl,a9⟩ bb;obtain⟨ap,be,bi⟩:=bs a7;refine zg 2 rfl (Cu 0 (P5 a9 be) rfl rfl OA bb rfl ?_);rintro _ ct _ bn ⟨cu,cv,rfl,rfl,bo⟩ bv;refine Fu (pp:=rI) [iV 1,iV 2,iV 2,iV 3,iV ap.1] [1,2,2,3,ap.1] rfl rfl rfl underlying28 AH CG (by decide) rfl rfl rfl ⟨rfl,rfl,rfl,rfl,rfl,trivial⟩ bv λcw cy bw bx=>Ce 2 bw bx rfl λcz aq bz bT=>?_;obtain⟨U,bU,bV⟩:=bs bi;refine Cu 0 (T3 (bo.Ah aq) bz bU) rfl rfl (A6 func81 rfl) bT rfl ?_;rintro _ cA _ bW ⟨cB,cC,rfl,rfl,bY⟩ bZ;refine Al (v:= .agg #[iV O.1,iV 0,iV U.1]) rfl (λρ h=>Dh [(0,1),(1,1),(2,1)] h BS underlying27 ⟨rfl,AR type3,rfl,AR type3,rfl,AR type3,trivial⟩ rfl rfl) (BV bZ BS λav b0=>?_);refine BL 3 b0 Bp λZ=>?_;refine zg 2 rfl (Fw 8 [av] ⟨⟨3,_,rfl⟩,trivial⟩ Z λK=>?_);refine JG.fd 0 K underlying27 AH rfl rfl rfl rfl (Kw 1 K 0 3 Z Bg ?_);refine A7 K rfl [2,3] rfl ?_;obtain⟨b1,b2,b3⟩:=bs bV;refine AM 4 K rfl rfl (λρ h s' b4=>Eg (h _ _ rfl) (h _ _ rfl) b2) (DF 7 K rfl rfl ?_);obtain⟨cD,b5,b6⟩:=bs b3;refine Q5 (i:=5) (vs:= [Ak bk 0,iV 1,iV b1]) 0 (by exact λx b7=>HR.mem (bks:= [av]) (by exact⟨⟨3,_,rfl⟩,trivial⟩) x (by simpa [AW] using b7)) (P5 bY b5) (by decide+kernel) rfl rfl rfl OA rfl Z rfl ?_;rintro _ cE _ b8 ⟨b9,ca,rfl,rfl,cb⟩ cc;obtain⟨cF,cd,ce⟩:=bs b6;refine AM 6 K rfl rfl (λρ h s' b4=>Gc (h _ _ rfl) (h _ _ rfl) cd) (Dk [8,9,10] ?_);obtain⟨Y,cf,cg⟩:=bs ce;refine Al (v:=iV Y) rfl (λρ h=>YA (h _ _ rfl) (h _ _ rfl) cf) (JL.fd underlying27 AH rfl rfl rfl ?_);refine BL 3 cc AH λaw=>?_;refine zg 3 rfl (Al rfl (λρ h=>Jc (vs:= [iV O.1,iV Y,iV U.1]) Ed Bp (h _ _ rfl) (Hc (off:=0) 3 aw rfl rfl)) ?_);refine BL 1 aw Bp λci=>?_;refine JL.done (JS.drop 3 ci rfl λay=>?_);obtain rfl:=oi cg;refine JL.ret (v:= .agg #[iV O.1,iV Y,iV U.1]) rfl rfl (BE.list func40 rfl (vs:= [.agg #[iV O.1,iV Y,iV U.1]]) ⟨⟨_,rfl,Ld.many (vs:= [iV O.1,iV Y,iV U.1]) Ed Bp (Hc (off:=0) 1 ay rfl rfl)⟩,trivial⟩) (En 1 ay rfl λck=>?_);exact a2 ((((a8.Ad bn).Ad aq).Ad bW).Ad b8) rfl ⟨b9,ca,rfl,rfl,cb⟩ ck
end Pal
namespace Pal
open Go Go.Conc
section
variable {P:Program}{J:Judge P}{Q:Gs_}{b:Frame}{n:Nat}{ds:Ld_}{ops:Ao_}{k:Li_}{cs:Lf_}{m fuel:Nat}{D:Nat->Bool}{listed:Array Bool}{L:Env}{s:St}{E E' H:LH}{S:List Seg}
variable {d:Option Tmp}{x y:Operand}{t u ty e:TypeId}{p:String}{af:Ae_}{g:On_}{v:Value}{i:Nat}{kd:IntKind}
theorem Take.TA{f:FuncId}{args:Array Operand}{ats:Array TypeId}{vs:Lv_}{seg:Seg}{R:Value->LH->Seg->Prop}(j:Nat)(O:Aq E H S)(ap:AN J f vs E seg R)
  (aq:ops[i]? =some ⟨d,.call ⟨.value (.func f),args,ats⟩,ty,p,af,g⟩) (hw:AI L ops ⟨d,.call ⟨.value (.func f),args,ats⟩,ty,p,af,g⟩=some true) (av:Bb n d=true) (hb:Dt P f=true) (aw:evs L args.toList=some vs) (U:S[j]? =some seg)
  (ay:∀v E' seg',Le E E'->R v E' seg'->Aq E' H (S.set j seg')->AJ J Q b n ds ops k cs m C9 fuel (A2 listed i) (Au L d v) (Aj E' H (S.set j seg'))):
  Take J Q b n ds ops k cs m C9 fuel listed L (Aj E H S) i:=by
 have Y:S.flatten.Perm (seg++(S.set j []).flatten):=(Ee (seg':=seg) U).1.trans List.perm_append_comm;have Z:Nd E H (seg++(S.set j []).flatten):=Nd.perm O Y;have az:Aj E H S=mk E (Ba (S.set j []).flatten H) seg:=by
  rw [show Aj E H S=mk E H S.flatten from rfl,Fe O Y];unfold mk;rw [F0]
 have ac:=ED.Lu (ap (Ba (S.set j []).flatten H) (Nd.front Z)) (by rintro v s' ⟨E',B',_,_,_,rfl⟩;rfl);rw [← az] at ac;refine⟨_,aq,by simp [Ej],av,hw,λρ ag=>?_⟩;have a0:args.map ρ=vs.toArray:=by
  rw [← Gu ag aw];apply Array.ext';simp
 have a1:ρ (.func f)= .func (.func f) #[] #[]:=ag _ _ rfl;simp only [execOp,resolve,bind,Sem.bind,Deferred.ofValue,a1,pure,invoke];have e: #[]++args.map ρ++ #[]=vs.toArray:=by rw [a0];simp
 rw [e];refine I5 hb ?_;rw [KZ];refine⟨_,ac,?_⟩;rintro v be ⟨⟨E',B',hle,a2,a3,rfl⟩,w,a4⟩;have e2:mk E' (Ba (S.set j []).flatten H) B'=mk E' H (B'++(S.set j []).flatten):=by unfold mk;rw [F0]
 have a5:Nd E H (S.set j []).flatten:=by
  have:=Z;rw [Nd.iff] at this ⊢;rw [List.map_append,List.nodup_append] at this;exact⟨this.1.2.1,λq a6=>this.2 q (List.mem_append_right _ a6)⟩
 have a7:Nd E' H (S.set j []).flatten:=a5.grow λx K=>by
  have a8:=a4.d x K;have a9:Ba B' (Ba (S.set j []).flatten H) x=none:=a8;exact(Ia a9).1
 have al:Nd E' H (B'++(S.set j []).flatten):=Nd.glue a3 a7;have am:(B'++(S.set j []).flatten).Perm (S.set j B').flatten:=List.perm_append_comm.trans (Ee U).2.symm;have bb:Aq E' H (S.set j B'):=Nd.perm al am;rw [e2,Fe al am];exact⟨rfl,λx o K=>hle _ _ K,ay v E' B' hle a2 bb⟩
end
end Pal
namespace Pal
open Go Go.Conc Go.Proofs
open Go.Proofs.Tryz
variable {J:Judge Tryz.prog}{E:LH}
def NA(fu_:Nat)(Y:Bool×(CE))(K:(List Int)×Int×Nat×(List Int)×Int):Option (Bo ((List Int)×Int×Nat×(List Int)×Int) ((List Int)×CE)):= if 0<K.2.2.2.2 then(Option.bind (if Y.1=true then((room K.2.2.2.1 1).bind λZ=> some (Z,K.1,K.2.1,K.2.2.1)) else((f81 fu_ (K.1,K.2.1,K.2.2.1) ([1,1,2,2,3,5]:List Int)).bind λO=> (room K.2.2.2.1 O.1).bind λac=> some (ac,O.2.1,O.2.2.1,O.2.2.2))) λU=> (Aw (K.2.2.2.2 - 1)).bind λag=> some (.more (U.2.1,U.2.2.1,U.2.2.2,U.1,ag))) else(some (.done (K.2.2.2.1,K.1,K.2.1,K.2.2.1)))
def NN(fu_:Nat)(Y:Int×(CE))(Z:Bool×(CE))(K:Bn×(List Int)×Int×Nat×Int):Option (Bo (Bn×(List Int)×Int×Nat×Int) ((List Int)×Int×Nat×Bn)):= if K.2.2.2.2<Y.1 then((f36 fu_ (K.2.1,K.2.2.1,K.2.2.2.1) 3).bind λO=> Option.bind (iter (NA fu_ Z) fu_ (O.2.1,O.2.2.1,O.2.2.2,[],O.1)) λU=> (room K.1 U.1).bind λac=> (Aw (K.2.2.2.2+1)).bind λag=> some (.more (ac,U.2.1,U.2.2.1,U.2.2.2,ag))) else(some (.done (K.2.1,K.2.2.1,K.2.2.2.1,K.1)))
def NB(fu_:Nat)(U:Int×(CE))(K:Ay×(List Int)×Int×Nat×Int):Option (Bo (Ay×(List Int)×Int×Nat×Int) ((List Int)×Int×Nat×Ay)):= if 0<K.2.2.2.2 then((f40 fu_ (K.2.1,K.2.2.1,K.2.2.2.1) U.1).bind λO=> (Ek K.1 ([O.1]:Ay)).bind λY=> (Aw (K.2.2.2.2 - 1)).bind λZ=> some (.more (Y,O.2.1,O.2.2.1,O.2.2.2,Z))) else(some (.done (K.2.1,K.2.2.1,K.2.2.2.1,K.1)))
def f31(fu_:Nat)(p0:CE)(ac:Int)(p2:Int):Option (A4×(CE)):= (f37 fu_ p0 2 ac).bind λZ=> (f32 fu_ Z.2 3).bind λK=> Option.bind (iter (NN fu_ Z K) fu_ ([],K.2.1,K.2.2.1,K.2.2.2,0)) λO=> (f36 fu_ (O.1,O.2.1,O.2.2.1) p2).bind λU=> Option.bind (iter (NB fu_ Z) fu_ ([],U.2.1,U.2.2.1,U.2.2.2,U.1)) λY=> some ((O.2.2.2,Y.2.2.2),(Y.1,Y.2.1,Y.2.2.1))
theorem br{bk:Nat}{a1:Ao}{c2:Nat}{p0:CE}{cO:Int}{p2:Int}(dF:Am rI E a1 c2 p0.1){fu_:Nat}{r:A4×(CE)}(cP:f31 fu_ p0 cO p2=some r):AN J 31 [Ak bk 0,iV cO,iV p2] E [(bk,.cells #[sV a1 p0.1 c2,iV p0.2.1,.int .u64 ((p0.2.2:Nat):Int)] 74 (0,0))] (λw E' B'=>∃(cQ:Ao) (cR:Nat) (cT:Ao) (cV:Nat) (cW:Ao) (cX:Nat),w= .agg #[sV cQ r.1.1 cR,sV cT r.1.2 cV]/\B'= [(bk,.cells #[sV cW r.2.1 cX,iV r.2.2.1,.int .u64 ((r.2.2.2:Nat):Int)] 74 (0,0))]/\Am (rL rI) E' cQ cR r.1.1/\Am AA E' cT cV r.1.2/\Am rI E' cW cX r.2.1):=by
 refine Bi func31 λQ gZ cs H dG dH=>?_;unfold f31 at cP;refine zg 2 rfl (BV dG Jz λO dI=>?_);refine zg 3 rfl (BV dI Jz λU dJ=>?_);obtain⟨az,dK,dL⟩:=bs cP;refine zg 5 rfl (Cu 0 (P5 dF dK) rfl rfl OA dJ rfl ?_);rintro _ g0 _ dM ⟨dN,dO,rfl,rfl,dQ⟩ dR;refine BB (S':= [[(bk,.cells #[sV dN az.2.1 dO,iV az.2.2.1,.int .u64 ((az.2.2.2:Nat):Int)] 74 (0,0))],[(O,.cells #[nS,nS] 25 (0,0))],[(U,.cells #[nS,nS] 25 (0,0))]]) rfl dR λdS=>?_;obtain⟨bZ,dT,dU⟩:=bs dL;refine zg 5 rfl (Cu 0 (aR dQ dT) rfl rfl (A6 func32 rfl) dS rfl ?_);rintro _ cn _ dV ⟨dW,dX,rfl,rfl,dY⟩ dZ;obtain⟨Y,ea,eb⟩:=bs dU;refine zg 7 rfl (Bw (λL s=>∃(b0:LH) (co:Ao) (cp:Nat) (ac:Ao) (ag:Nat) (ay:Seg),Jn cn H b0 [bX bk #[sV co Y.1 cp,iV Y.2.1,.int .u64 ((Y.2.2.1:Nat):Int)] 74,bX O #[nS,nS] 25,bX U #[sV ac Y.2.2.2 ag,nS] 25,ay] [(0,Ak bk 0),(2,iV p2),(6,Ak O 0),(7,Ak U 0),(8,iV az.1)] L s (Am rI b0 co cp Y.1/\OL 28 (rL rI) b0 ac ag ay Y.2.2.2)) ?_ ?_)
 ·rintro _ _ ⟨b0,co,cp,ac,ag,ay,rfl,rfl,ec,ed,ee,ef⟩;obtain⟨g1,eg,eh⟩:=bs eb;refine zg 5 rfl (Cu 0 (Lm ee eg) rfl rfl KT ed rfl ?_);rintro _ cq _ cY ⟨ei,ej,rfl,rfl,ek⟩ el;obtain⟨al,em,en⟩:=bs eh;refine zg 2 rfl (Bw (λL s=>∃(b1:LH) (bv:Ao) (bw:Nat) (a2:Ao) (a3:Nat) (b2:Seg),Jn cq H b1 [bX bk #[sV bv al.1 bw,iV al.2.1,.int .u64 ((al.2.2.1:Nat):Int)] 74,bX O #[nS,nS] 25,bX U #[sV ac Y.2.2.2 ag,sV a2 al.2.2.2 a3] 25,ay,b2] [(6,Ak O 0),(7,Ak U 0)] L s (Am rI b1 bv bw al.1/\OL 27 AA b1 a2 a3 b2 al.2.2.2)) ?_ ?_)
  ·rintro _ _ ⟨b1,bv,bw,a2,a3,b2,rfl,rfl,cZ,c0,eo,ep⟩;refine zg 2 rfl (Al rfl (λρ h=>Jc (vs:= [sV ac Y.2.2.2 ag,sV a2 al.2.2.2 a3]) ET CV (h _ _ rfl) (Hc (off:=0) 2 c0 rfl rfl)) ?_);refine BL 1 c0 CV λer=>?_;refine BB (S':= [[(bk,.cells #[sV bv al.1 bw,iV al.2.1,.int .u64 ((al.2.2.1:Nat):Int)] 74 (0,0))],[(O,.cells #[sV ac Y.2.2.2 ag,sV a2 al.2.2.2 a3] 25 (0,0))],[(U,.cells #[sV ac Y.2.2.2 ag,sV a2 al.2.2.2 a3] 25 (0,0))],ay,b2]) rfl er λet=>JL.done (Ce 3 (ef.Ah (cY.Ad cZ)) et rfl λg3 cr eu ew=>?_);refine Ce 4 (ep.Ah cr) ew rfl λg4 ct ex ey=>JS.drop 2 ey rfl λc1=>?_;obtain rfl:=oi en;refine JL.ret (v:= .agg #[sV ac Y.2.2.2 ag,sV a2 al.2.2.2 a3]) rfl rfl (BE.list func31 rfl (vs:= [.agg #[sV ac Y.2.2.2 ag,sV a2 al.2.2.2 a3]]) ⟨⟨_,rfl,Ld.many (vs:= [sV ac Y.2.2.2 ag,sV a2 al.2.2.2 a3]) ET CV (Hc (off:=0) 1 c1 rfl rfl)⟩,trivial⟩) (En 1 c1 rfl λez=>?_);exact dH ((((((dM.Ad dV).Ad ec).Ad cY).Ad cZ).Ad cr).Ad ct) rfl ⟨ac,ag,a2,a3,bv,bw,rfl,rfl,(eu.Ah ct),ex,(eo.Ah (cr.Ad ct))⟩ ez
  ·intro eA;refine JL.block (CY em (λL s ap=>∃(bx:LH) (a4:Ao) (a5:Nat) (a7:Seg) (b3:Ao) (b4:Nat),Jn cq H bx [bX bk #[sV b3 ap.2.1 b4,iV ap.2.2.1,.int .u64 ((ap.2.2.2.1:Nat):Int)] 74,bX O #[nS,nS] 25,bX U #[sV ac Y.2.2.2 ag,sV a4 ap.1 a5] 25,ay,a7] [(0,Ak bk 0),(6,Ak O 0),(7,Ak U 0),(8,iV az.1),(13,iV ap.2.2.2.2)] L s (OL 27 AA bx a4 a5 a7 ap.1/\Am rI bx b3 b4 ap.2.1)) ⟨cq,none,0,[],ei,ej,rfl,rfl,Ax,el,OL.nil,ek⟩ ?_);rintro _ _ ap ⟨bx,a4,a5,a7,b3,b4,rfl,rfl,b5,b6,b7,cu⟩ eB ⟨g5,bz⟩ cv;have c3:=bz;unfold NB at c3;refine zg 6 rfl (AQ c3 (λeC eD=>?_) (λeC eE=>?_))
   ·refine zg 3 rfl (Fg 6 λc4=>?_);refine JG.fd 0 c4 underlying25 H9 rfl rfl rfl rfl (A7 c4 rfl [2,3] rfl ?_);obtain⟨K,c5,cw⟩:=bs eD;refine Ge (i:=1) (j:=4) rfl (by decide+kernel) ?_ ?_
    ·refine Take.y0 (v:= sV a4 ap.1 a5) rfl rfl rfl (λρ h=>Yl.load Kf (h _ _ rfl) (BY (j:=2) b6 rfl rfl)) (JG.one (i:=4) rfl (by decide+kernel) ?_);refine Take.TA (vs:= [Ak bk 0,iV az.1]) 0 b6 (T4 cu c5) rfl rfl rfl (A6 func40 rfl) rfl rfl ?_;rintro _ g6 _ c6 ⟨cy,cz,rfl,rfl,eF⟩ eG;refine JG.one (i:=5) rfl (by decide+kernel) (Take.EV (pp:=AA) [.agg #[iV K.1.1,iV K.1.2.1,iV K.1.2.2]] ([K.1]:Ay) eG rfl rfl rfl underlying23 Bp BS (by decide) rfl rfl rfl ⟨⟨_,_,rfl,rfl,⟨_,_,rfl,rfl,rfl⟩⟩,trivial⟩ λg7 eH eI eJ=>?_);refine Dk [6,7,8] (BB (S':= [[(bk,.cells #[sV cy K.2.1 cz,iV K.2.2.1,.int .u64 ((K.2.2.2:Nat):Int)] 74 (0,0))],[(O,.cells #[nS,nS] 25 (0,0))],[(U,.cells #[sV ac Y.2.2.2 ag,sV a4 ap.1 a5] 25 (0,0))],ay,a7,eH]) rfl eJ λeK=>?_);refine Ce 5 eI eK rfl λeL cA eM eN=>?_;obtain⟨c7,eO,eP⟩:=bs cw;refine JM (pp:=AA) 4 eO rfl rfl rfl rfl rfl rfl rfl underlying23 underlying23 Bp (Eh type27) BS rfl (by decide) (by decide) (b7.Ah (c6.Ad cA)) eM eN rfl λc8 c9 da eQ eR=>JL.fd underlying25 H9 rfl rfl rfl (BL 2 eR H9 λeS=>?_);refine BB (S':= [[(bk,.cells #[sV cy K.2.1 cz,iV K.2.2.1,.int .u64 ((K.2.2.2:Nat):Int)] 74 (0,0))],[(O,.cells #[nS,nS] 25 (0,0))],[(U,.cells #[sV ac Y.2.2.2 ag,sV c8 c7 c9] 25 (0,0))],ay,da,[]]) rfl eS λeT=>?_;obtain⟨eU,eV,eW⟩:=bs eP;refine zg 4 rfl (Cl eV rfl rfl rfl ?_);refine zg 2 rfl ?_;obtain rfl:=oi eW;exact AB (cv _ _ (c7,K.2.1,K.2.2.1,K.2.2.2,eU) ⟨eL,c8,c9,da,cy,cz,rfl,rfl,((b5.Ad c6).Ad cA),eT,eQ,(eF.Ah cA)⟩ bz) rfl
    ·refine Take.TA (vs:= [Ak bk 0,iV az.1]) 0 b6 (T4 cu c5) rfl rfl rfl (A6 func40 rfl) rfl rfl ?_;rintro _ g8 _ b8 ⟨be,bi,rfl,rfl,db⟩ cB;refine Ge (i:=1) (j:=5) rfl (by decide+kernel) ?_ ?_
     ·refine Take.y0 (v:= sV a4 ap.1 a5) rfl rfl rfl (λρ h=>Yl.load Kf (h _ _ rfl) (BY (j:=2) cB rfl rfl)) (JG.one (i:=5) rfl (by decide+kernel) ?_);refine Take.EV (pp:=AA) [.agg #[iV K.1.1,iV K.1.2.1,iV K.1.2.2]] ([K.1]:Ay) cB rfl rfl rfl underlying23 Bp BS (by decide) rfl rfl rfl ⟨⟨_,_,rfl,rfl,⟨_,_,rfl,rfl,rfl⟩⟩,trivial⟩ λg9 eX eY eZ=>Dk [6,7,8] (BB (S':= [[(bk,.cells #[sV be K.2.1 bi,iV K.2.2.1,.int .u64 ((K.2.2.2:Nat):Int)] 74 (0,0))],[(O,.cells #[nS,nS] 25 (0,0))],[(U,.cells #[sV ac Y.2.2.2 ag,sV a4 ap.1 a5] 25 (0,0))],ay,a7,eX]) rfl eZ λe0=>?_);refine Ce 5 eY e0 rfl λe1 cC e3 e4=>?_;obtain⟨dc,e5,e6⟩:=bs cw;refine JM (pp:=AA) 4 e5 rfl rfl rfl rfl rfl rfl rfl underlying23 underlying23 Bp (Eh type27) BS rfl (by decide) (by decide) (b7.Ah (b8.Ad cC)) e3 e4 rfl λdd de df e7 e8=>JL.fd underlying25 H9 rfl rfl rfl (BL 2 e8 H9 λe9=>?_);refine BB (S':= [[(bk,.cells #[sV be K.2.1 bi,iV K.2.2.1,.int .u64 ((K.2.2.2:Nat):Int)] 74 (0,0))],[(O,.cells #[nS,nS] 25 (0,0))],[(U,.cells #[sV ac Y.2.2.2 ag,sV dd dc de] 25 (0,0))],ay,df,[]]) rfl e9 λfa=>?_;obtain⟨fb,fc,fe⟩:=bs e6;refine zg 4 rfl (Cl fc rfl rfl rfl ?_);refine zg 2 rfl ?_;obtain rfl:=oi fe;exact AB (cv _ _ (dc,K.2.1,K.2.2.1,K.2.2.2,fb) ⟨e1,dd,de,df,be,bi,rfl,rfl,((b5.Ad b8).Ad cC),fa,e7,(db.Ah cC)⟩ bz) rfl
     ·refine Take.EV (pp:=AA) [.agg #[iV K.1.1,iV K.1.2.1,iV K.1.2.2]] ([K.1]:Ay) cB rfl rfl rfl underlying23 Bp BS (by decide) rfl rfl rfl ⟨⟨_,_,rfl,rfl,⟨_,_,rfl,rfl,rfl⟩⟩,trivial⟩ λha ff fg dg=>JG.one (i:=1) rfl (by decide+kernel) (Take.y0 (v:= sV a4 ap.1 a5) rfl rfl rfl (λρ h=>Yl.load Kf (h _ _ rfl) (BY (j:=2) dg rfl rfl)) ?_);refine Dk [6,7,8] (BB (S':= [[(bk,.cells #[sV be K.2.1 bi,iV K.2.2.1,.int .u64 ((K.2.2.2:Nat):Int)] 74 (0,0))],[(O,.cells #[nS,nS] 25 (0,0))],[(U,.cells #[sV ac Y.2.2.2 ag,sV a4 ap.1 a5] 25 (0,0))],ay,a7,ff]) rfl dg λfh=>?_);refine Ce 5 fg fh rfl λfj cD fk fl=>?_;obtain⟨dh,fm,fo⟩:=bs cw;refine JM (pp:=AA) 4 fm rfl rfl rfl rfl rfl rfl rfl underlying23 underlying23 Bp (Eh type27) BS rfl (by decide) (by decide) (b7.Ah (b8.Ad cD)) fk fl rfl λdi dj dk fp fq=>JL.fd underlying25 H9 rfl rfl rfl (BL 2 fq H9 λfs=>?_);refine BB (S':= [[(bk,.cells #[sV be K.2.1 bi,iV K.2.2.1,.int .u64 ((K.2.2.2:Nat):Int)] 74 (0,0))],[(O,.cells #[nS,nS] 25 (0,0))],[(U,.cells #[sV ac Y.2.2.2 ag,sV di dh dj] 25 (0,0))],ay,dk,[]]) rfl fs λfu=>?_;obtain⟨fv,fw,fx⟩:=bs fo;refine zg 4 rfl (Cl fw rfl rfl rfl ?_);refine zg 2 rfl ?_;obtain rfl:=oi fx;exact AB (cv _ _ (dh,K.2.1,K.2.2.1,K.2.2.2,fv) ⟨fj,di,dj,dk,be,bi,rfl,rfl,((b5.Ad b8).Ad cD),fu,fp,(db.Ah cD)⟩ bz) rfl
   ·refine JL.exit rfl ?_;obtain rfl:=oi eE;obtain rfl:=eB _ bz;exact AB (eA _ _ ⟨bx,b3,b4,a4,a5,a7,rfl,rfl,b5,b6,cu,b7⟩) rfl
 ·intro fy;refine JL.block (CY ea (λL s Z=>∃(bT:LH) (aq:Ao) (av:Nat) (a0:Seg) (b9:Ao) (ca:Nat),Jn cn H bT [bX bk #[sV b9 Z.2.1 ca,iV Z.2.2.1,.int .u64 ((Z.2.2.2.1:Nat):Int)] 74,bX O #[nS,nS] 25,bX U #[sV aq Z.1 av,nS] 25,a0] [(0,Ak bk 0),(2,iV p2),(6,Ak O 0),(7,Ak U 0),(8,iV az.1),(9,.bool bZ.1),(10,iV Z.2.2.2.2)] L s (OL 28 (rL rI) bT aq av a0 Z.1/\Am rI bT b9 ca Z.2.1)) ⟨cn,none,0,[],dW,dX,rfl,rfl,Ax,dZ,OL.nil,dY⟩ ?_);rintro _ _ Z ⟨bT,aq,av,a0,b9,ca,rfl,rfl,dn,dp,dq,dr⟩ fz ⟨hb,cE⟩ fA;have dt:=cE;unfold NN at dt;refine zg 7 rfl (AQ dt (λfB fC=>?_) (λfB fD=>?_))
  ·obtain⟨hc,fE,fF⟩:=bs fC;refine zg 11 rfl (Cu 0 (Lm dr fE) rfl rfl KT dp rfl ?_);rintro _ cF _ du ⟨fG,fH,rfl,rfl,fI⟩ fJ;obtain⟨aw,fK,fL⟩:=bs fF;refine zg 2 rfl (Bw (λL s=>∃(cb:LH) (cc:Ao) (cd:Nat) (cG:Seg) (bU:Ao) (bV:Nat),Jn cF H cb [bX bk #[sV bU aw.2.1 bV,iV aw.2.2.1,.int .u64 ((aw.2.2.2:Nat):Int)] 74,bX O #[nS,nS] 25,bX U #[sV aq Z.1 av,nS] 25,a0,cG] [(0,Ak bk 0),(2,iV p2),(6,Ak O 0),(7,Ak U 0),(8,iV az.1),(9,.bool bZ.1),(10,iV Z.2.2.2.2),(11,sV cc aw.1 cd)] L s (OL 3 rI cb cc cd cG aw.1/\Am rI cb bU bV aw.2.1)) ?_ ?_)
   ·rintro _ _ ⟨cb,cc,cd,cG,bU,bV,rfl,rfl,dv,dw,fM,fN⟩;refine JL.region (JL.fd underlying25 FJ rfl rfl rfl ?_);refine Al (v:= sV aq Z.1 av) rfl (λρ h=>Yl.load FY (h _ _ rfl) (BY (j:=2) (off:=0) dw rfl rfl)) (zg 1 rfl ?_);refine Ce 4 fM dw rfl λfO cH fP fQ=>BB (S':= [[(bk,.cells #[sV bU aw.2.1 bV,iV aw.2.2.1,.int .u64 ((aw.2.2.2:Nat):Int)] 74 (0,0))],[(O,.cells #[nS,nS] 25 (0,0))],[(U,.cells #[sV aq Z.1 av,nS] 25 (0,0))],a0,[]]) rfl fQ λfR=>?_;obtain⟨fS,fT,fU⟩:=bs fL;refine JS.app (pp:=(rL rI)) (v:= sV cc aw.1 cd) (a:=aq) (c:=av) 3 fT rfl rfl rfl rfl (λ_=>rfl) rfl (λ_=>rfl) rfl rfl rfl underlying22 underlying22 underlying22 GK (Eh type28) LJ rfl (by decide) (by decide) (by decide) (by decide) (dq.Ah ((du.Ad dv).Ad cH)) ⟨_,_,rfl,fP⟩ fR rfl λhd fW fX fY fZ ga=>JL.fd underlying25 FJ rfl rfl rfl (BL 2 ga FJ λgb=>?_);obtain⟨gc,gd,ge⟩:=bs fU;refine zg 4 rfl (Bq gd rfl rfl rfl ?_);refine zg 2 rfl ?_;obtain rfl:=oi ge;exact AB (fA _ _ (fS,aw.2.1,aw.2.2.1,aw.2.2.2,gc) ⟨fO,fW,fX,fY,bU,bV,rfl,rfl,(((dn.Ad du).Ad dv).Ad cH),gb,fZ,(fN.Ah cH)⟩ cE) rfl
   ·intro gf;refine JL.block (CY fK (λL s am=>∃(a8:LH) (a9:Ao) (bb:Nat) (bn:Ao) (bo:Nat) (bW:Seg),Jn cF H a8 [bX bk #[sV a9 am.1 bb,iV am.2.1,.int .u64 ((am.2.2.1:Nat):Int)] 74,bX O #[nS,nS] 25,bX U #[sV aq Z.1 av,nS] 25,a0,bW] [(0,Ak bk 0),(2,iV p2),(6,Ak O 0),(7,Ak U 0),(8,iV az.1),(9,.bool bZ.1),(10,iV Z.2.2.2.2),(11,sV bn am.2.2.2.1 bo),(12,iV am.2.2.2.2)] L s (Am rI a8 a9 bb am.1/\OL 3 rI a8 bn bo bW am.2.2.2.1)) ⟨cF,fG,fH,none,0,[],rfl,rfl,Ax,fJ,fI,OL.nil⟩ ?_);rintro _ _ am ⟨a8,a9,bb,bn,bo,bW,rfl,rfl,dx,cI,cJ,cK⟩ gg ⟨he,cM⟩ gh;have dy:=cM;unfold NA at dy;refine zg 6 rfl (AQ dy (λgi gj=>?_) (λgi gk=>?_))
    ·obtain⟨a6,gl,gm⟩:=bs gj;refine zg 7 rfl (Bw (λL s=>∃(bY:LH) (ce:Ao) (cf:Nat) (cg:Seg) (ci:Ao) (ck:Nat),Jn a8 H bY [bX bk #[sV ci a6.2.1 ck,iV a6.2.2.1,.int .u64 ((a6.2.2.2:Nat):Int)] 74,bX O #[nS,nS] 25,bX U #[sV aq Z.1 av,nS] 25,a0,cg] [(0,Ak bk 0),(2,iV p2),(6,Ak O 0),(7,Ak U 0),(8,iV az.1),(9,.bool bZ.1),(10,iV Z.2.2.2.2),(11,sV ce a6.1 cf),(12,iV am.2.2.2.2)] L s (OL 3 rI bY ce cf cg a6.1/\Am rI bY ci ck a6.2.1)) ?_ ?_)
     ·rintro _ _ ⟨bY,ce,cf,cg,ci,ck,rfl,rfl,gn,gp,gq,gr⟩;obtain⟨gt,gu,gv⟩:=bs gm;refine zg 3 rfl (Cl gu rfl rfl rfl ?_);refine zg 2 rfl ?_;obtain rfl:=oi gv;exact AB (gh _ _ (a6.2.1,a6.2.2.1,a6.2.2.2,a6.1,gt) ⟨bY,ci,ck,ce,cf,cg,rfl,rfl,(dx.Ad gn),gp,gr,gq⟩ cM) rfl
     ·intro dz;refine CB gl (λgw gx=>?_) (λgw gy=>?_)
      ·obtain⟨hf,gz,gA⟩:=bs gx;refine zg 2 rfl (JS.app (pp:=rI) (v:=iV 1) (a:=bn) (c:=bo) 4 gz rfl rfl rfl rfl (λ_=>rfl) rfl (λ_=>rfl) rfl rfl rfl underlying28 underlying28 underlying28 AH (Eh type3) CG rfl (by decide) (by decide) (by decide) (by decide) cK rfl cI rfl λhg gB gC dA gD gE=>?_);refine BB (S':= [[(bk,.cells #[sV a9 am.1 bb,iV am.2.1,.int .u64 ((am.2.2.1:Nat):Int)] 74 (0,0))],[(O,.cells #[nS,nS] 25 (0,0))],[(U,.cells #[sV aq Z.1 av,nS] 25 (0,0))],a0,dA]) rfl gE λgF=>zg 2 rfl ?_;obtain rfl:=oi gA;exact AB (dz _ _ ⟨a8,gB,gC,dA,a9,bb,rfl,rfl,Ax,gF,gD,cJ⟩) rfl
      ·refine zg 3 rfl (Fu (pp:=rI) [iV 1,iV 1,iV 2,iV 2,iV 3,iV 5] [1,1,2,2,3,5] rfl rfl rfl underlying28 AH CG (by decide) rfl rfl rfl ⟨rfl,rfl,rfl,rfl,rfl,rfl,trivial⟩ cI λhj gG gH gI=>?_);refine BB (S':= [[(bk,.cells #[sV a9 am.1 bb,iV am.2.1,.int .u64 ((am.2.2.1:Nat):Int)] 74 (0,0))],[(O,.cells #[nS,nS] 25 (0,0))],[(U,.cells #[sV aq Z.1 av,nS] 25 (0,0))],a0,bW,gG]) rfl gI λgJ=>Ce 5 gH gJ rfl λhk cN gK gL=>?_;obtain⟨cm,gM,gO⟩:=bs gy;refine Cu 0 (T3 (cJ.Ah cN) gK gM) rfl rfl (A6 func81 rfl) gL rfl ?_;rintro _ gP _ dB ⟨dC,dD,rfl,rfl,gQ⟩ gR;obtain⟨hl,gS,gT⟩:=bs gO;refine JS.app (pp:=rI) (v:=iV cm.1) (a:=bn) (c:=bo) 4 gS rfl rfl rfl rfl (λ_=>rfl) rfl (λ_=>rfl) rfl rfl rfl underlying28 underlying28 underlying28 AH (Eh type3) CG rfl (by decide) (by decide) (by decide) (by decide) (cK.Ah (cN.Ad dB)) rfl gR rfl λhm gU gV dE gW gX=>BB (S':= [[(bk,.cells #[sV dC cm.2.1 dD,iV cm.2.2.1,.int .u64 ((cm.2.2.2:Nat):Int)] 74 (0,0))],[(O,.cells #[nS,nS] 25 (0,0))],[(U,.cells #[sV aq Z.1 av,nS] 25 (0,0))],a0,dE,[]]) rfl gX λgY=>zg 2 rfl ?_;obtain rfl:=oi gT;exact AB (dz _ _ ⟨gP,gU,gV,dE,dC,dD,rfl,rfl,(cN.Ad dB),gY,gW,gQ⟩) rfl
    ·refine JL.exit rfl ?_;obtain rfl:=oi gk;obtain rfl:=gg _ cM;exact AB (gf _ _ ⟨a8,bn,bo,bW,a9,bb,rfl,rfl,dx,cI,cK,cJ⟩) rfl
  ·refine JL.exit rfl ?_;obtain rfl:=oi fD;obtain rfl:=fz _ cE;exact AB (fy _ _ ⟨bT,b9,ca,aq,av,a0,rfl,rfl,dn,dp,dr,dq⟩) rfl
end Pal
namespace Pal
open Go Go.Conc Go.Proofs
open Go.Proofs.Tryz
variable {J:Judge Tryz.prog}{E:LH}
end Pal
namespace Pal
open Go Go.Conc Go.Proofs
open Go.Proofs.Tryz
variable {J:Judge Tryz.prog}{E:LH}
end Pal
namespace Pal
open Go Go.Conc Go.Proofs
open Go.Proofs.Tryz
end Pal
namespace Pal
open Go Go.Conc Go.Proofs
open Go.Proofs.Tryz
variable {J:Judge Tryz.prog}{E:LH}
end Pal
namespace Pal
open Go Go.Conc Go.Proofs
open Go.Proofs.Tryz
variable {J:Judge Tryz.prog}{E:LH}
end Pal
namespace Pal
open Go Go.Conc
section
variable {P:Program}{J:Judge P}{Q:Gs_}{b:Frame}{n:Nat}{ds:Ld_}{ops:Ao_}{k:Li_}{cs:Lf_}{m fuel:Nat}{D:Nat->Bool}{listed:Array Bool}{L:Env}{s:St}{E E' H:LH}{S:List Seg}
variable {d:Option Tmp}{x y:Operand}{t u ty e:TypeId}{p:String}{af:Ae_}{g:On_}{v:Value}{i:Nat}{kd:IntKind}
end
end Pal
namespace Pal
open Go Go.Conc Go.Proofs
open Go.Proofs.Tryz
variable {J:Judge Tryz.prog}{E:LH}
end Pal
namespace Pal
open Go Go.Conc
section
variable {P:Program}{d:Option Tmp}{x:Operand}{t u ty e:TypeId}{p:String}{af:Ae_}{g:On_}{s:St}{ρ:Operand->Value}
theorem Va{α:Type}{pp:Rp α}{K:TypeId}{E:LH}{a:Option Addr}{c:Nat}{seg:Seg}{xs:List α}(O:OL K pp E a c seg xs)(U:xs= []->a=none)(Y:P.underlying t=some (.slice e))(Z:ρ x= .slice a xs.length c)(ac:ρ (.const (.slice none 0 0))= .slice none 0 0):
  Yl P ⟨d,.binOp .eql t x (.const (.slice none 0 0)) u,ty,p,af,g⟩ ρ s (.bool (decide ((xs.length:Int)=0))):=by
 have key:a.isNone=decide ((xs.length:Int)=0):=by
  rcases OL.cases O with⟨rfl,_,_,rfl⟩ | ⟨bk,f,rfl,_,_⟩
  ·rfl
  ·cases xs with
   | nil=>cases U rfl
   | cons y ys=>simp;omega
 rw [← key];have ag:∀o,eqGuard o t x (.const (.slice none 0 0)) (.slice a xs.length c) (.slice none 0 0)=Sem.pure ():=λo=>by cases o <;> rfl
 refine Fq (sm:=do eqGuard .eql t x (.const (.slice none 0 0)) (ρ x) (ρ (.const (.slice none 0 0)));binOp .eql t (ρ x) (ρ (.const (.slice none 0 0)))) rfl ?_
 rw [Z,ac,ag];simp only [bind,Sem.bind];have hb:binOp .eql t (.slice a xs.length c) (.slice none 0 0)=(do pure (.bool (← Op.equal t (.slice a xs.length c) (.slice none 0 0)))):=rfl
 rw [hb];refine As (x:=Op.equal t _ _) _ ?_;unfold Op.equal Op.maxDepth Op.equalIn;refine As _ _ (Cd Y ?_);cases a with
 | none=>exact⟨rfl,rfl⟩
 | some ad=>exact⟨rfl,rfl⟩
end
end Pal
namespace Pal
open Go Go.Conc Go.Proofs
open Go.Proofs.Tryz
variable {J:Judge Tryz.prog}{E:LH}
def f105(fu_:Nat)(p0:A4)(K:Int)(p2:Int):Option Int:= (f48 fu_ p0).bind λO=> if O≠0 then(some O) else((Aw ((p0.1.length:Int) - 1)).bind λU=> (f92 fu_ K 0 U).bind λY=> Option.bind (if(!Y)=true then(some true) else((Aw ((p0.1.length:Int) - 1)).bind λZ=> (f92 fu_ p2 0 Z).bind λac=> some (!ac))) λag=> if ag=true then(some 3) else(if K=p2 then(some 8) else(some 0)))
def f93(fu_:Nat)(p0:Int)(K:Int):Option Int:= Option.bind (if p0=0 then(some (Sum.inl 2)) else(if p0<K then((Aw (1+1)).bind λO=> Option.bind (if p0<K then((Aw (O+1)).bind λU=> some U) else(some O)) λY=> some (Sum.inr Y)) else(Option.bind (if p0<K then((Aw (1+1)).bind λZ=> some Z) else(some 1)) λac=> some (Sum.inr ac)))) λag=>Sum.elim (λr=>some r) (λal=> some al) ag
theorem aI{p0:Int}{U:Int}{fu_:Nat}{r:Int}(Y:f93 fu_ p0 U=some r):AN J 93 [iV p0,iV U] E [] (λw E' B'=>w=iV r/\B'= []):=by
 refine Bi func93 λQ b6 cs H K Z=>?_;unfold f93 at Y;obtain⟨aw,ay,ac⟩:=bs Y;refine zg 9 rfl (Bw (λL s=>∃(O:Int) (ag:LH),aw=Sum.inr O/\Jm E H ag [] [(5,iV O)] L s) ?_ ?_)
 ·rintro _ _ ⟨O,ag,rfl,rfl,rfl,az,a0⟩;have a1:=elim_inr ac;refine zg 5 rfl ?_;obtain rfl:=oi a1;exact AY func93 rfl rfl (Z az rfl ⟨rfl,rfl⟩ a0)
 ·intro al;refine zg 15 rfl (AQ ay (λa2 a3=>?_) (λa2 a4=>?_))
  ·refine zg 6 rfl ?_;obtain rfl:=oi a3;have a5:=elim_inl ac;obtain rfl:=oi a5;exact AY func93 rfl rfl (Z Ax rfl ⟨rfl,rfl⟩ K)
  ·refine zg 8 rfl (AQ a4 (λa6 a7=>?_) (λa6 a8=>?_))
   ·obtain⟨b7,a9,bb⟩:=bs a7;refine zg 3 rfl (Bq a9 rfl rfl rfl ?_);obtain⟨am,be,bi⟩:=bs bb;refine zg 10 rfl (DW [] [(4,iV 0),(5,iV am)] (λbn bo bv=>?_) (λap=>?_))
    ·exact JL.exit rfl (AB (al _ _ ⟨am,bn,(Option.some.inj bi).symm,rfl,rfl,bo,bv⟩) rfl)
    ·refine AQ be (λbw bx=>?_) (λbw bz=>?_)
     ·obtain⟨b8,bT,bU⟩:=bs bx;refine zg 2 rfl (Bq bT rfl rfl rfl ?_);refine zg 2 rfl ?_;obtain rfl:=oi bU;exact ap Ax K rfl
     ·refine JL.skip ?_;obtain rfl:=oi bz;exact ap Ax K rfl
   ·obtain⟨aq,bV,bW⟩:=bs a8;refine zg 9 rfl (DW [] [(4,iV 0),(5,iV aq)] (λbY bZ b0=>?_) (λav=>?_))
    ·exact JL.exit rfl (AB (al _ _ ⟨aq,bY,(Option.some.inj bW).symm,rfl,rfl,bZ,b0⟩) rfl)
    ·refine AQ bV (λb1 b2=>?_) (λb1 b3=>?_)
     ·obtain⟨b9,b4,b5⟩:=bs b2;refine zg 2 rfl (Bq b4 rfl rfl rfl ?_);refine zg 2 rfl ?_;obtain rfl:=oi b5;exact av Ax K rfl
     ·refine JL.skip ?_;obtain rfl:=oi b3;exact av Ax K rfl
def NJ(fu_:Nat)(Y:Int)(p2:Int)(O:Ay)(K:Int×Int):Option (Bo (Int×Int) Int):= if K.2<(O.length:Int) then((ix O K.2).bind λU=> Option.bind (if U.1=Y then(some (decide (U.2.1=p2))) else(some false)) λZ=> Option.bind (if Z=true then((Aw (K.1+1)).bind λac=> some ac) else(some K.1)) λag=> (Aw (K.2+1)).bind λal=> some (.more (ag,al))) else(some (.done K.1))
def Mf(fu_:Nat)(U:Int)(p2:Int)(O:AT)(K:Int×Int):Option (Bo (Int×Int) Int):= if K.2<(O.length:Int) then((ix O K.2).bind λY=> Option.bind (iter (NJ fu_ U p2 Y) fu_ (K.1,0)) λZ=> (Aw (K.2+1)).bind λac=> some (.more (Z,ac))) else(some (.done K.1))
def f50(fu_:Nat)(p0:A4)(O:Int)(p2:Int):Option (Int×Int):= (f70 fu_ p0 ([O,p2]:List Int)).bind λK=> if K.2≠0 then(some (0,K.2)) else((f71 fu_ K.1 0).bind λU=> Option.bind (iter (Mf fu_ O p2 U) fu_ (0,0)) λY=> (f93 fu_ Y (U.length:Int)).bind λZ=> some (Z,0))
theorem T1{a1:Ao}{c2:Nat}{a5:Ao}{a6:Nat}{p0:A4}{Y:Int}{p2:Int}(bW:Am (rL rI) E a1 c2 p0.1)(bY:Am AA E a5 a6 p0.2){fu_:Nat}{r:Int×Int}(a7:f50 fu_ p0 Y p2=some r):AN J 50 [.agg #[sV a1 p0.1 c2,sV a5 p0.2 a6],iV Y,iV p2] E [] (λw E' B'=>w= .tuple #[iV r.1,iV r.2]/\B'= []):=by
 refine Bi func50 λQ dw cs H bZ a8=>?_;unfold f50 at a7;refine zg 2 rfl (Du bZ λdx dy am b0 b1=>?_);refine zg 5 rfl (Cj b0 ET CV rfl rfl ?_);refine zg 2 rfl (Fu (pp:=rI) [iV Y,iV p2] [Y,p2] rfl rfl rfl underlying28 AH CG (by decide) rfl rfl rfl ⟨rfl,rfl,trivial⟩ b1 λdz dA b2 b3=>?_);refine Ce 2 b2 b3 rfl λdB ap b4 b5=>?_;obtain⟨dC,b6,b7⟩:=bs a7;refine B2 (JX (bW.Ah (am.Ad ap)) (bY.Ah (am.Ad ap)) b4 b6) rfl rfl Jy b5 ?_;rintro _ dD _ a9 ⟨dE,dF,dG,dH,rfl,rfl,b8,b9⟩ ca;refine zg 3 rfl (BV ca Hb λdI cb=>?_);refine BL 4 cb Df λcc=>?_;refine Di 4 cc rfl λdJ aq cd bb=>zg 8 rfl (AQ b7 (λce cf=>?_) (λce cg=>?_))
 ·refine zg 6 rfl ?_;obtain rfl:=oi cf;exact AY func50 rfl rfl (a8 (((am.Ad ap).Ad a9).Ad aq) rfl ⟨rfl,rfl⟩ bb)
 ·refine zg 3 rfl (Cj cd FI Df rfl rfl ?_);obtain⟨K,ci,ck⟩:=bs cg;refine B2 (NZ (b8.Ah aq) (b9.Ah aq) ci) rfl rfl LG bb ?_;rintro _ dK al cm ⟨O,U,_,rfl,rfl,cn⟩ co;refine zg 10 rfl (JL.ln underlying83 rfl rfl rfl ?_);obtain⟨cp,cq,cr⟩:=bs ck;refine zg 2 rfl (DW [al] [(10,sV O K U),(11,iV cp)] (λdL ct cu=>?_) (λcv=>?_))
  ·refine zg 4 rfl (JL.ln underlying83 rfl rfl rfl ?_);obtain⟨dM,cw,cy⟩:=bs cr;refine CK (aI cw) rfl rfl (A6 func93 rfl) cu λdN cz cA=>zg 3 rfl (JS.drop 0 cA rfl λcB=>?_);obtain rfl:=oi cy;exact AY func50 rfl rfl (a8 ((((((am.Ad ap).Ad a9).Ad aq).Ad cm).Ad ct).Ad cz) rfl ⟨rfl,rfl⟩ cB)
  ·refine JL.block (Dm cq (λZ=> [al]) (λZ=> [(1,iV Y),(2,iV p2),(10,sV O K U),(11,iV Z.1),(29,sV O K U),(30,iV (K.length:Int)),(31,iV Z.2)]) Ax co ?_);rintro Z dO ay az cC ⟨dQ,a0⟩ cD;have be:=a0;unfold Mf at be;refine zg 5 rfl (AQ be (λcE cF=>?_) (λcE cG=>?_))
   ·obtain⟨ac,cH,cI⟩:=bs cF;refine zg 5 rfl (L4 0 (cn.Ah ay) cH rfl rfl rfl rfl rfl rfl underlying83 A8 ?_);rintro dR dS f95 _ cJ ⟨av,aw,rfl,cK⟩ cM dT dU dV dW;refine Al (v:= sV av ac aw) rfl (λρ h=>Yl.load BC (h _ _ rfl) (BY (j:=0) az cJ (cM 0 _ rfl))) (zg 5 rfl ?_);refine JL.ln underlying80 rfl rfl rfl ?_;obtain⟨bi,cN,cO⟩:=bs cI;refine zg 2 rfl (DW [al] [(1,iV Y),(2,iV p2),(10,sV O K U),(11,iV bi),(29,sV O K U),(30,iV (K.length:Int)),(31,iV Z.2)] (λdX cP cQ=>?_) (λcR=>?_))
    ·obtain⟨cT,cV,cW⟩:=bs cO;refine zg 2 rfl (Bq cV rfl rfl rfl ?_);refine zg 2 rfl ?_;obtain rfl:=oi cW;exact cD (bi,cT) (ay.Ad cP) cQ rfl a0
    ·refine JL.block (Dm cN (λag=> [al]) (λag=> [(1,iV Y),(2,iV p2),(10,sV O K U),(11,iV ag.1),(29,sV O K U),(30,iV (K.length:Int)),(31,iV Z.2),(35,sV av ac aw),(36,iV (ac.length:Int)),(37,iV ag.2)]) Ax az ?_);rintro ag dY a2 bn cX ⟨dZ,a3⟩ cY;have bo:=a3;unfold NJ at bo;refine zg 5 rfl (AQ bo (λcZ c0=>?_) (λcZ c1=>?_))
     ·obtain⟨ea,c3,c4⟩:=bs c0;refine zg 5 rfl (JS.ix (cK.Ah a2) c3 underlying80 Bp ?_);rintro eb ec _ ⟨_,_,rfl,rfl,⟨_,_,rfl,rfl,rfl⟩⟩ c5;refine Cj c5 Ed Bp rfl rfl (BV bn BS λed c6=>?_);refine BL 1 c6 Bp λc7=>?_;refine Di 1 c7 rfl λa4 c8 bv bw=>zg 3 rfl (B8 0 bv underlying27 AH Bg ?_);obtain⟨c9,da,db⟩:=bs c4;refine zg 3 rfl (Hg [] (λL s=>∃(bx:LH),Jm a4 H bx [al] [(1,iV Y),(2,iV p2),(10,sV O K U),(11,iV ag.1),(29,sV O K U),(30,iV (K.length:Int)),(31,iV Z.2),(35,sV av ac aw),(36,iV (ac.length:Int)),(37,iV ag.2),(50,.bool c9)] L s) ?_ ?_)
      ·rintro _ _ ⟨bx,rfl,rfl,dc,bz⟩;obtain⟨bT,dd,de⟩:=bs db;refine JL.done (DW [al] [(1,iV Y),(2,iV p2),(10,sV O K U),(11,iV bT),(29,sV O K U),(30,iV (K.length:Int)),(31,iV Z.2),(35,sV av ac aw),(36,iV (ac.length:Int)),(37,iV ag.2)] (λee df dg=>?_) (λbU=>?_))
       ·obtain⟨dh,di,dj⟩:=bs de;refine zg 2 rfl (Bq di rfl rfl rfl ?_);refine zg 2 rfl ?_;obtain rfl:=oi dj;exact cY (bT,dh) (((a2.Ad c8).Ad dc).Ad df) dg rfl a3
       ·refine CB dd (λdk dn=>?_) (λdk dp=>?_)
        ·obtain⟨ef,dq,dr⟩:=bs dn;refine zg 2 rfl (Bq dq rfl rfl rfl ?_);refine zg 2 rfl ?_;obtain rfl:=oi dr;exact bU Ax bz rfl
        ·refine JL.skip ?_;obtain rfl:=oi dp;exact bU Ax bz rfl
      ·intro bV;refine Gg 45 da (λdt du=>?_) (λdt dv=>?_)
       ·refine B8 1 bv underlying27 AH Bg ?_;refine zg 3 rfl ?_;obtain rfl:=oi du;exact AB (bV _ _ ⟨a4,rfl,rfl,Ax,bw⟩) rfl
       ·refine zg 5 rfl ?_;obtain rfl:=oi dv;exact AB (bV _ _ ⟨a4,rfl,rfl,Ax,bw⟩) rfl
     ·refine JL.exit rfl ?_;obtain rfl:=oi c1;obtain rfl:=cX _ a3;exact cR a2 bn rfl
   ·refine JL.exit rfl ?_;obtain rfl:=oi cG;obtain rfl:=cC _ a0;exact cv ay az rfl
def f58(fu_:Nat)(p0:A4)(O:Int)(p2:Int):Option (Int×Int):= (f70 fu_ p0 ([O,p2]:List Int)).bind λK=> if K.2≠0 then(some (0,K.2)) else((f106 fu_ O p2).bind λY=> (f71 fu_ K.1 Y).bind λU=> if((U.length:Nat):Int)=0 then(some (0,11)) else((ix U (0)).bind λZ=> some ((Z.length:Int),0)))
theorem Ua{a1:Ao}{c2:Nat}{am:Ao}{ap:Nat}{p0:A4}{K:Int}{p2:Int}(a0:Am (rL rI) E a1 c2 p0.1)(a2:Am AA E am ap p0.2){fu_:Nat}{r:Int×Int}(aq:f58 fu_ p0 K p2=some r):AN J 58 [.agg #[sV a1 p0.1 c2,sV am p0.2 ap],iV K,iV p2] E [] (λw E' B'=>w= .tuple #[iV r.1,iV r.2]/\B'= []):=by
 refine Bi func58 λQ cf cs H a3 ac=>?_;unfold f58 at aq;refine zg 2 rfl (Du a3 λcg ci O a4 a5=>?_);refine zg 5 rfl (Cj a4 ET CV rfl rfl ?_);refine zg 2 rfl (Fu (pp:=rI) [iV K,iV p2] [K,p2] rfl rfl rfl underlying28 AH CG (by decide) rfl rfl rfl ⟨rfl,rfl,trivial⟩ a5 λck cm a6 a7=>?_);refine Ce 2 a6 a7 rfl λcn U a8 a9=>?_;obtain⟨co,bb,be⟩:=bs aq;refine B2 (JX (a0.Ah (O.Ad U)) (a2.Ah (O.Ad U)) a8 bb) rfl rfl Jy a9 ?_;rintro _ cp _ ag ⟨cq,cr,ct,cu,rfl,rfl,bi,bn⟩ bo;refine zg 3 rfl (BV bo Hb λcv bv=>?_);refine BL 4 bv Df λbw=>?_;refine Di 4 bw rfl λcw Y bx av=>zg 8 rfl (AQ be (λbz bT=>?_) (λbz bU=>?_))
 ·refine zg 6 rfl ?_;obtain rfl:=oi bT;exact AY func58 rfl rfl (ac (((O.Ad U).Ad ag).Ad Y) rfl ⟨rfl,rfl⟩ av)
 ·refine zg 2 rfl (Fg 4 λaw=>?_);refine Jj 0 aw bx FI Df rfl rfl rfl (A7 aw rfl [1,2] rfl ?_);obtain⟨cy,bV,bW⟩:=bs bU;refine JG.call (i:=3) (vs:= [iV K,iV p2]) (TK bV) (by decide+kernel) rfl rfl rfl (A6 func106 rfl) rfl av ?_;rintro _ cz _ Z ⟨rfl,rfl⟩ bY;refine Dk [4,5] ?_;obtain⟨bZ,b0,b1⟩:=bs bW;refine B2 (Ts (bi.Ah (Y.Ad Z)) (bn.Ah (Y.Ad Z)) b0) rfl rfl LG bY ?_;rintro _ cA cB ay ⟨cC,cD,_,rfl,rfl,az,b2⟩ al;refine zg 6 rfl (Al (v:= .bool (decide (((bZ.length:Nat):Int)=0))) rfl (λρ h=>Va az b2 underlying83 (h _ _ rfl) (h _ _ rfl)) ?_);refine JL.done (AQ b1 (λb3 b4=>?_) (λb3 b5=>?_))
  ·refine zg 5 rfl (JS.drop 6 al rfl λb6=>?_);obtain rfl:=oi b4;exact AY func58 rfl rfl (ac (((((O.Ad U).Ad ag).Ad Y).Ad Z).Ad ay) rfl ⟨rfl,rfl⟩ b6)
  ·obtain⟨b7,b8,b9⟩:=bs b5;refine zg 4 rfl (L4 6 az b8 rfl rfl rfl rfl rfl rfl underlying83 A8 ?_);rintro cE cF f75 _ ca ⟨cb,cc,rfl,cG⟩ cd cH cI cJ cK;refine Al (v:= sV cb b7 cc) rfl (λρ h=>Yl.load BC (h _ _ rfl) (BY (j:=6) al ca (cd 0 _ rfl))) (JL.ln underlying80 rfl rfl rfl ?_);refine zg 3 rfl (JS.drop 6 al rfl λce=>?_);obtain rfl:=oi b9;exact AY func58 rfl rfl (ac (((((O.Ad U).Ad ag).Ad Y).Ad Z).Ad ay) rfl ⟨rfl,rfl⟩ ce)
end Pal
namespace Pal
open Go Go.Conc Go.Proofs
open Go.Proofs.Tryz
def NM(fu_:Nat)(U:A4×(CE))(Z:Ay×Int)(Y:Int)(O:Int):Option (Bo Int ((Bool)⊕(Unit))):= if O<Y then((f50 fu_ U.1 Y O).bind λac=> (f50 fu_ U.1 O Y).bind λag=> (f58 fu_ U.1 Y O).bind λK=> (f58 fu_ U.1 O Y).bind λal=> Option.bind (if ac.2≠0 then(some true) else(some (decide (ag.2≠0)))) λap=> Option.bind (if ap=true then(some true) else(some (decide (K.2≠al.2)))) λaq=> Option.bind (if aq=true then(some true) else(some (decide (K.1≠al.1)))) λav=> Option.bind (if av=true then(some true) else(if K.2≠0 then(if K.2≠11 then(some true) else(some (decide (2<(U.1.1.length:Int))))) else(some false))) λaw=> if aw=true then(some (.done (Sum.inl false))) else(Option.bind (if ac.1=1 then(some true) else(some (decide (ag.1=1)))) λam=> Option.bind (if K.2=0 then(if K.1<(Z.1.length:Int) then(some true) else(some ((am)==(decide (K.1=(Z.1.length:Int)))))) else(some false)) λay=> Option.bind (if ay=true then(some true) else(if K.2≠0 then(some (!am)) else(some false))) λaz=> if az=true then(some (.done (Sum.inl false))) else((Aw (O+1)).bind λa0=> some (.more a0)))) else(some (.done (Sum.inr ())))
def Ny(fu_:Nat)(O:A4×(CE))(U:Ay×Int)(K:Int):Option (Bo Int ((Bool)⊕(Unit))):= if K<(O.1.1.length:Int) then(Option.bind (iter (NM fu_ O U K) fu_ 0) λY=> Sum.elim (λr=>some (.done (Sum.inl r))) (λac=> (Aw (K+1)).bind λZ=> some (.more Z)) Y) else(some (.done (Sum.inr ())))
def f16(fu_:Nat)(p0:List Int):Option Bool:= (f20 fu_ p0).bind λU=> (f31 fu_ U 4 6).bind λK=> (f22 fu_ K.1).bind λO=> if O.2≠0 then(some false) else(Option.bind (iter (Ny fu_ K O) fu_ 0) λY=> Sum.elim (λr=>some r) (λac=> (f18 fu_).bind λZ=> some Z) Y)
theorem Yk{E H:LH}{a1:Ao}{c2:Nat}{p0:List Int}(cr:Am rI E a1 c2 p0){fu_:Nat}{r:Bool}(bW:f16 fu_ p0=some r):(GN Tryz.prog).ok (Ma Tryz.prog (λv _=>v= .bool r)) (G (Frame.enter Tryz.prog 16 ([sV a1 p0 c2]:Lv_).toArray .normal) []) (mk E H []):=by
 refine VW func16 rfl rfl (Nat.le_of_ble_eq_true rfl) ?_;have ct:Aq E H [[]]:=trivial;unfold f16 at bW;obtain⟨eZ,cu,cv⟩:=bs bW;refine zg 7 rfl (B2 (au cr cu) rfl rfl (A6 func20 rfl) ct ?_);rintro _ e0 _ e1 ⟨cw,e3,e4,rfl,rfl,cy⟩ cz;obtain⟨bi,cA,cB⟩:=bs cv;refine Cu 1 (br cy cA) rfl rfl (A6 func31 rfl) cz rfl ?_;rintro _ e5 _ e6 ⟨e7,e8,e9,fa,cC,cD,rfl,rfl,az,a0,fb⟩ cE;refine BV cE Jz λac cF=>?_;refine BB (S':= [[],[(cw,.cells #[sV cC bi.2.1 cD,iV bi.2.2.1,.int .u64 ((bi.2.2.2:Nat):Int)] 74 (0,0))],[(ac,.cells #[nS,nS] 25 (0,0))]]) rfl cF λcG=>BL 2 cG CV λcH=>?_;refine Di 2 cH rfl λfc am ay cI=>zg 3 rfl (Cj ay ET CV rfl rfl ?_);obtain⟨ag,cJ,cK⟩:=bs cB;refine B2 (TU (az.Ah am) (a0.Ah am) cJ) rfl rfl (A6 func22 rfl) cI ?_;rintro _ cM _ U ⟨ap,aq,rfl,rfl,fe⟩ bY;refine zg 12 rfl (AQ cK (λcN cO=>?_) (λcN cP=>?_))
 ·refine zg 4 rfl (JS.drop 1 bY rfl λff=>?_);obtain rfl:=oi cO;exact HG rfl (JO.end (v:= .bool false) rfl (by decide+kernel) func16 rfl rfl rfl)
 ·obtain⟨bZ,cQ,bn⟩:=bs cP;refine zg 6 rfl (Bw (λL s=>∃(b0:Unit) (b1:LH),bZ=Sum.inr b0/\Jm cM H b1 [] [] L s) ?_ ?_)
  ·rintro _ _ ⟨b0,b1,rfl,rfl,rfl,fg,cR⟩;have cT:=elim_inr bn;obtain⟨cV,cW,cX⟩:=bs cT;refine zg 2 rfl (CK (aW cW) rfl rfl (A6 func18 rfl) cR λfh fj cY=>?_);refine BB (S':= [[]]) rfl cY λfk=>zg 2 rfl ?_;obtain rfl:=oi cX;exact HG rfl (JO.end (v:= .bool cV) rfl (by decide+kernel) func16 rfl rfl rfl)
  ·intro cZ;refine JL.block (JS.drop 1 bY rfl λc0=>?_);refine Dm cQ (λY=> []) (λY=> [(3,Ak ac 0),(4,sV ap ag.1 aq),(6,iV Y)]) Ax c0 ?_;rintro Y b2 K b3 bo ⟨fl,a2⟩ c1;have b4:=a2;unfold Ny at b4;refine zg 4 rfl (B8 0 (ay.Ah (U.Ad K)) underlying25 FJ FY ?_);refine JL.ln underlying22 rfl rfl rfl (zg 2 rfl ?_);refine AQ b4 (λc3 c4=>?_) (λc3 c5=>?_)
   ·obtain⟨b5,c6,bv⟩:=bs c4;refine zg 7 rfl (Bw (λL s=>∃(b6:Unit) (b7:LH),b5=Sum.inr b6/\Jm b2 H b7 [] [(3,Ak ac 0),(4,sV ap ag.1 aq),(6,iV Y)] L s) ?_ ?_)
    ·rintro _ _ ⟨b6,b7,rfl,rfl,rfl,c7,c8⟩;have c9:=elim_inr bv;obtain⟨da,db,dc⟩:=bs c9;refine zg 3 rfl (Bq db rfl rfl rfl ?_);refine zg 2 rfl ?_;obtain rfl:=oi dc;exact c1 da (K.Ad c7) c8 rfl a2
    ·intro dd;refine JL.block (Dm c6 (λav=> []) (λav=> [(3,Ak ac 0),(4,sV ap ag.1 aq),(6,iV Y),(7,iV av)]) Ax b3 ?_);rintro av de O b8 bw ⟨fm,a3⟩ df;have b9:=a3;unfold NM at b9;refine zg 7 rfl (AQ b9 (λdg dh=>?_) (λdg di=>?_))
     ·refine zg 5 rfl (Cj (ay.Ah ((U.Ad K).Ad O)) ET CV rfl rfl ?_);obtain⟨a6,dj,dk⟩:=bs dh;refine zg 2 rfl (CK (T1 (az.Ah (((am.Ad U).Ad K).Ad O)) (a0.Ah (((am.Ad U).Ad K).Ad O)) dj) rfl rfl (A6 func50 rfl) b8 λfo al dn=>?_);refine BB (S':= [[]]) rfl dn λdp=>zg 8 rfl (Cj (ay.Ah (((U.Ad K).Ad O).Ad al)) ET CV rfl rfl ?_);obtain⟨a7,dq,dr⟩:=bs dk;refine zg 2 rfl (CK (T1 (az.Ah ((((am.Ad U).Ad K).Ad O).Ad al)) (a0.Ah ((((am.Ad U).Ad K).Ad O).Ad al)) dq) rfl rfl (A6 func50 rfl) dp λfp aw dt=>?_);refine zg 8 rfl (Cj (ay.Ah ((((U.Ad K).Ad O).Ad al).Ad aw)) ET CV rfl rfl ?_);obtain⟨Z,du,dv⟩:=bs dr;refine zg 2 rfl (CK (Ua (az.Ah (((((am.Ad U).Ad K).Ad O).Ad al).Ad aw)) (a0.Ah (((((am.Ad U).Ad K).Ad O).Ad al).Ad aw)) du) rfl rfl (A6 func58 rfl) dt λfq a4 dw=>?_);refine zg 8 rfl (Cj (ay.Ah (((((U.Ad K).Ad O).Ad al).Ad aw).Ad a4)) ET CV rfl rfl ?_);obtain⟨bx,dx,dy⟩:=bs dv;refine zg 2 rfl (CK (Ua (az.Ah ((((((am.Ad U).Ad K).Ad O).Ad al).Ad aw).Ad a4)) (a0.Ah ((((((am.Ad U).Ad K).Ad O).Ad al).Ad aw).Ad a4)) dx) rfl rfl (A6 func58 rfl) dw λfs ca dz=>?_);refine BB (S':= [[],[],[],[]]) rfl dz λcb=>?_;obtain⟨dA,dB,dC⟩:=bs dy;refine zg 12 rfl (Fi 6 24 [] [(3,Ak ac 0),(4,sV ap ag.1 aq),(6,iV Y),(7,iV av),(8,iV a6.1),(10,iV a7.1),(12,iV Z.1),(13,iV Z.2),(14,iV bx.1),(15,iV bx.2),(72,.bool dA)] (λfu cc cd=>?_) (λce=>?_))
      ·obtain⟨dD,dE,dF⟩:=bs dC;refine zg 1 rfl (Fi 11 19 [] [(3,Ak ac 0),(4,sV ap ag.1 aq),(6,iV Y),(7,iV av),(8,iV a6.1),(10,iV a7.1),(12,iV Z.1),(13,iV Z.2),(14,iV bx.1),(77,.bool dD)] (λfv cf cg=>?_) (λci=>?_))
       ·obtain⟨dG,dH,dI⟩:=bs dF;refine zg 1 rfl (Fi 16 14 [] [(3,Ak ac 0),(4,sV ap ag.1 aq),(6,iV Y),(7,iV av),(8,iV a6.1),(10,iV a7.1),(12,iV Z.1),(13,iV Z.2),(82,.bool dG)] (λa5 ck a8=>?_) (λcm=>?_))
        ·obtain⟨dJ,dK,dL⟩:=bs dI;refine zg 1 rfl (Hg [] (λL s=>∃(cn:LH),Jm a5 H cn [] [(3,Ak ac 0),(4,sV ap ag.1 aq),(6,iV Y),(7,iV av),(8,iV a6.1),(10,iV a7.1),(12,iV Z.1),(13,iV Z.2),(96,.bool dJ)] L s) ?_ ?_)
         ·rintro _ _ ⟨cn,rfl,rfl,dM,co⟩;refine JL.done (CB dL (λdN dO=>?_) (λdN dQ=>?_))
          ·refine zg 4 rfl ?_;obtain rfl:=oi dO;obtain rfl:=bw _ a3;have dR:=elim_inl bv;obtain rfl:=oi dR;obtain rfl:=bo _ a2;have dS:=elim_inl bn;obtain rfl:=oi dS;exact HG rfl (JO.end (v:= .bool false) rfl (by decide+kernel) func16 rfl rfl rfl)
          ·obtain⟨a9,dT,dU⟩:=bs dQ;refine zg 6 rfl (Fi 6 1 [] [(3,Ak ac 0),(4,sV ap ag.1 aq),(6,iV Y),(7,iV av),(12,iV Z.1),(13,iV Z.2),(102,.bool a9)] (λfw dV bz=>?_) (λcp=>?_))
           ·obtain⟨dW,dX,dY⟩:=bs dU;refine zg 7 rfl (Fi 16 8 [] [(3,Ak ac 0),(4,sV ap ag.1 aq),(6,iV Y),(7,iV av),(13,iV Z.2),(16,.bool a9),(118,.bool dW)] (λbb dZ bT=>?_) (λbU=>?_))
            ·obtain⟨ea,eb,ec⟩:=bs dY;refine zg 1 rfl (Hg [] (λL s=>∃(cq:LH),Jm bb H cq [] [(3,Ak ac 0),(4,sV ap ag.1 aq),(6,iV Y),(7,iV av),(126,.bool ea)] L s) ?_ ?_)
             ·rintro _ _ ⟨cq,rfl,rfl,ed,ee⟩;refine JL.done (CB ec (λef eg=>?_) (λef eh=>?_))
              ·refine zg 4 rfl ?_;obtain rfl:=oi eg;obtain rfl:=bw _ a3;have ei:=elim_inl bv;obtain rfl:=oi ei;obtain rfl:=bo _ a2;have ej:=elim_inl bn;obtain rfl:=oi ej;exact HG rfl (JO.end (v:= .bool false) rfl (by decide+kernel) func16 rfl rfl rfl)
              ·obtain⟨ek,el,em⟩:=bs eh;refine zg 4 rfl (Bq el rfl rfl rfl ?_);refine zg 2 rfl ?_;obtain rfl:=oi em;exact df ek (((((((((((O.Ad al).Ad aw).Ad a4).Ad ca).Ad cc).Ad cf).Ad ck).Ad dM).Ad dV).Ad dZ).Ad ed) ee rfl a3
             ·intro bV;refine EM 119 eb (λen eo=>?_) (λen ep=>?_)
              ·refine zg 7 rfl ?_;obtain rfl:=oi eo;exact AB (bV _ _ ⟨bb,rfl,rfl,Ax,bT⟩) rfl
              ·refine zg 3 rfl (Gg 122 ep (λer et=>?_) (λer eu=>?_))
               ·refine zg 1 rfl (Al (v:= .bool (!a9)) rfl (λρ h=>Yl.not (h _ _ rfl)) ?_);refine zg 2 rfl ?_;obtain rfl:=oi et;exact AB (bV _ _ ⟨bb,rfl,rfl,Ax,bT⟩) rfl
               ·refine zg 4 rfl ?_;obtain rfl:=oi eu;exact AB (bV _ _ ⟨bb,rfl,rfl,Ax,bT⟩) rfl
            ·refine Gg 105 dX (λew ex=>?_) (λew ey=>?_)
             ·refine zg 2 rfl (JL.ln underlying23 rfl rfl rfl ?_);refine zg 2 rfl (Gg 110 ex (λez eA=>?_) (λez eB=>?_))
              ·refine zg 8 rfl ?_;obtain rfl:=oi eA;exact bU Ax bz rfl
              ·refine zg 3 rfl (JL.ln underlying23 rfl rfl rfl ?_);refine zg 1 rfl (Al (v:= .bool (((a9)==(decide (Z.1=(ag.1.length:Int)))))) rfl (λρ h=>Yz underlying4 (h _ _ rfl) (h _ _ rfl)) ?_);refine zg 2 rfl ?_;obtain rfl:=oi eB;exact bU Ax bz rfl
             ·refine zg 13 rfl ?_;obtain rfl:=oi ey;exact bU Ax bz rfl
           ·refine Gg 99 dT (λeC eD=>?_) (λeC eE=>?_)
            ·refine zg 3 rfl ?_;obtain rfl:=oi eD;exact cp Ax co rfl
            ·refine zg 3 rfl ?_;obtain rfl:=oi eE;exact cp Ax co rfl
         ·intro be;refine EM 83 dK (λeF eG=>?_) (λeF eH=>?_)
          ·refine zg 13 rfl ?_;obtain rfl:=oi eG;exact AB (be _ _ ⟨a5,rfl,rfl,Ax,a8⟩) rfl
          ·refine zg 3 rfl (Gg 86 eH (λeI eJ=>?_) (λeI eK=>?_))
           ·refine zg 3 rfl (Gg 89 eJ (λeL eM=>?_) (λeL eN=>?_))
            ·refine zg 7 rfl ?_;obtain rfl:=oi eM;exact AB (be _ _ ⟨a5,rfl,rfl,Ax,a8⟩) rfl
            ·refine B8 0 (ay.Ah (((((((((U.Ad K).Ad O).Ad al).Ad aw).Ad a4).Ad ca).Ad cc).Ad cf).Ad ck)) underlying25 FJ FY ?_;refine JL.ln underlying22 rfl rfl rfl (zg 4 rfl ?_);obtain rfl:=oi eN;exact AB (be _ _ ⟨a5,rfl,rfl,Ax,a8⟩) rfl
           ·refine zg 10 rfl ?_;obtain rfl:=oi eK;exact AB (be _ _ ⟨a5,rfl,rfl,Ax,a8⟩) rfl
        ·refine EM 78 dH (λeO eP=>?_) (λeO eQ=>?_)
         ·refine zg 4 rfl ?_;obtain rfl:=oi eP;exact cm Ax cg rfl
         ·refine zg 4 rfl ?_;obtain rfl:=oi eQ;exact cm Ax cg rfl
       ·refine EM 73 dE (λeR eS=>?_) (λeR eT=>?_)
        ·refine zg 4 rfl ?_;obtain rfl:=oi eS;exact ci Ax cd rfl
        ·refine zg 4 rfl ?_;obtain rfl:=oi eT;exact ci Ax cd rfl
      ·refine Gg 69 dB (λeU eV=>?_) (λeU eW=>?_)
       ·refine zg 3 rfl ?_;obtain rfl:=oi eV;exact ce Ax cb rfl
       ·refine zg 3 rfl ?_;obtain rfl:=oi eW;exact ce Ax cb rfl
     ·refine JL.exit rfl ?_;obtain rfl:=oi di;have eX:b5=(Sum.inr ()):=(bw _ a3).symm;exact AB (dd _ _ ⟨(),de,eX,rfl,rfl,O,b8⟩) rfl
   ·refine JL.exit rfl ?_;obtain rfl:=oi c5;have eY:bZ=(Sum.inr ()):=(bo _ a2).symm;exact AB (cZ _ _ ⟨(),b2,eY,rfl,rfl,K,b3⟩) rfl
end Pal
namespace Pal
def BQ{α:Type}(o:Option α)(Q:α->Prop):Prop:=∃a,o=some a/\Q a
section
variable {α β:Type}{Q R:α->Prop}
theorem Az{a:α}(h:Q a):BQ (some a) Q:=⟨a,rfl,h⟩
theorem BQ.Ah{o:Option α}(h:BQ o R)(k:∀a,R a->Q a):BQ o Q:=let ⟨a,K,O⟩:=h;⟨a,K,k a O⟩
theorem Br{o:Option β}{f:β->Option α}{S:β->Prop}(h:BQ o S)(k:∀b,S b->BQ (f b) Q):BQ (o.bind f) Q:=by
 obtain⟨b,rfl,hb⟩:=h;obtain⟨a,K,O⟩:=k b hb;exact⟨a,K,O⟩
theorem By{o:Option β}{f:β->Option α}{b:β}(h:o=some b)(k:BQ (f b) Q):BQ (o.bind f) Q:=by subst h;exact k
theorem BQ.bQ{f:Int->Option α}{x:Int}(K: -9223372036854775808<=x)(O:x<=9223372036854775807)(k:BQ (f x) Q):BQ ((Aw x).bind f) Q:=By (if_pos ⟨K,O⟩) k
theorem IU{xs:List β}{i:Int}{m:Nat}{b:β}(h:i=(m:Int))(hb:xs[m]? =some b):ix xs i=some b:=by subst h;simpa [ix] using hb
theorem EK{f:β->Option α}{xs:List β}{i:Int}{m:Nat}(h:i=(m:Int))(hm:m<xs.length)(k:BQ (f xs[m]) Q):BQ ((ix xs i).bind f) Q:=By (IU h (List.getElem?_eq_getElem hm)) k
theorem LX{f:List β->Option α}{xs:List β}{x:β}(h:xs.length+1<=2 ^ 40)(k:BQ (f (xs++ [x])) Q):BQ ((room xs x).bind f) Q:=By (if_pos h) k
theorem Ci{c:Prop} [Decidable c] {x y:Option α}(K:c->BQ x Q)(O:¬c->BQ y Q):BQ (if c then x else y) Q:=by
 by_cases h:c
 ·rw [if_pos h];exact K h
 ·rw [if_neg h];exact O h
theorem CI{c:Prop} [Decidable c] {x y:Option α}(h:c)(k:BQ x Q):BQ (if c then x else y) Q:=by rw [if_pos h];exact k
theorem BP{c:Prop} [Decidable c] {x y:Option α}(h:¬c)(k:BQ y Q):BQ (if c then x else y) Q:=by rw [if_neg h];exact k
def Bo.sat{S A:Type}(I:S->Prop)(Q:A->Prop):Bo S A->Prop
 | .more s=>I s
 | .done a=>Q a
theorem O9{S:Type}{body:S->Option (Bo S α)}(I:Nat->S->Prop)(round:∀m s,I m s->BQ (body s) (Bo.sat (λs'=>∃m',m'<m/\I m' s') Q)):
  ∀{m fuel:Nat} {s:S},I m s->m<fuel->BQ (iter body fuel s) Q:=by
 intro m
 induction m using Nat.strongRecOn with
 | _ m O=>
  intro fuel s U ag;obtain⟨fuel,rfl⟩:∃k,fuel=k+1:=⟨fuel - 1,by omega⟩;obtain⟨st,Y,K⟩:=round m s U;unfold Pal.iter;rw [Y];cases st with
  | more s'=>
   obtain⟨m',Z,ac⟩:=K;exact O m' Z ac (by omega)
  | done a=>exact⟨a,rfl,K⟩
end
end Pal
namespace Pal
theorem EJ{S A:Type}{body:S->Option (Bo S A)}{Q:A->Prop}{K:S}{F:Nat}(n:Nat)(I:Nat->S->Prop)(Y:I 0 K)(ac:n<F)
  (round:∀i s,i<n->I i s->BQ (body s) (Bo.sat (I (i+1)) Q)) (last:∀s,I n s->BQ (body s) (λst=>∃a,st= .done a/\Q a)):BQ (Pal.iter body F K) Q:=by
 refine O9 (λm s=>∃i,i<=n/\m=n - i/\I i s) ?_ (m:=n - 0) ⟨0,Nat.zero_le _,rfl,Y⟩ (by omega);rintro m s ⟨i,hi,rfl,O⟩;rcases Nat.lt_or_ge i n with Z | ag
 ·refine(round i s Z O).Ah ?_;intro st U;cases st with
  | more s'=>exact⟨n - (i+1),by omega,i+1,by omega,rfl,U⟩
  | done a=>exact U
 ·obtain rfl:i=n:=by omega
  refine(last s O).Ah ?_;rintro st ⟨a,rfl,h⟩;exact h
theorem EI{α:Type}{o:Option α}{a:α}(h:BQ o (λx=>x=a)):o=some a:=by obtain⟨x,K,rfl⟩:=h;exact K
theorem BH{α:Type}{Q:α->Prop}{f:Int->Option α}{x:Int}(y:Int)(h:x=y)(K: -9223372036854775808<=y)(O:y<=9223372036854775807)(k:BQ (f y) Q):BQ ((Aw x).bind f) Q:=by subst h;exact BQ.bQ K O k
theorem BQ.Oj{α β:Type}{Q:α->Prop}{f:List β->Option α}{xs ys:List β}(h:xs.length+ys.length<1000)(k:BQ (f (xs++ys)) Q):BQ ((Ek xs ys).bind f) Q:=By (by unfold Ek;rw [if_pos (by omega)]) k
abbrev Ju:=List Int×Int×Nat
def BG(k:Nat)(b:Ju):Prop:=0<=b.2.1/\b.2.1<=(k:Int)
theorem BG.Ah{k k':Nat}{b:Ju}(h:BG k b)(K:k<=k'):BG k' b:=⟨h.1,by have:=h.2;omega⟩
theorem YX{F k:Nat}{b:Ju}(hb:BG k b)(K:k<1000000):BQ (f83 F b) (λr=>r.1<2 ^ 64/\BG (k+1) r.2):=by
 obtain⟨O,U⟩:=hb;unfold f83;refine BH (b.2.1+1) rfl (by omega) (by omega) ?_;have key:∀x:Nat,(x % 2 ^ 64)>>>11<2 ^ 64:=λx=>Nat.lt_of_le_of_lt (Nat.shiftRight_le _ _) (Nat.mod_lt _ (Nat.two_pow_pos 64));refine Br (S:=λ_=>True) ?_ ?_
 ·refine Ci (λh=>?_) (λh=>?_)
  ·refine BH b.2.1 (by omega) (by omega) (by omega) (EK (m:=b.2.1.toNat) (by omega) (by omega) ?_);exact Az trivial
  ·exact Az trivial
 ·intro x _;exact Az ⟨key _,by simp only;omega,by simp only;omega⟩
theorem Wp{a:Nat}(h:a<2 ^ 62):Mx a=(a:Int):=by
 unfold Mx;exact JF (by omega)
theorem Li{F k:Nat}{b:Ju}{m:Int}(hb:BG k b)(O:k<1000000)(hm:m<1000000):BQ (f36 F b m) (λr=>0<=r.1/\(r.1<=m∨r.1=0)/\BG (k+1) r.2):=by
 unfold f36;refine Br (YX hb O) ?_;rintro⟨x,b'⟩ ⟨Z,K⟩;refine Ci (λh=>?_) (λh=>?_)
 ·exact Az ⟨by simp,.inr rfl,K⟩
 ·have U:CR m=m.toNat:=by unfold CR;omega
  have e2:(CR m+1) % 2 ^ 64=m.toNat+1:=by rw [U];omega
  have Y:x % (m.toNat+1)<m.toNat+1:=Nat.mod_lt _ (by omega);refine By (b:=x % (m.toNat+1)) (by rw [e2];unfold N6;rw [if_neg (by omega)]) ?_;refine Az ?_;simp only;generalize x % (m.toNat+1)=z at Y ⊢;rw [Wp (by omega)];exact⟨by omega,.inl (by omega),K⟩
theorem PX{F k:Nat}{b:Ju}{lo hi:Int}(hb:BG k b)(O:k<1000000)(Y:0<=lo)(Z:lo<=hi)(ac:hi<1000):BQ (f37 F b lo hi) (λr=>lo<=r.1/\r.1<=hi/\BG (k+1) r.2):=by
 unfold f37;refine BH (hi - lo) rfl (by omega) (by omega) (Br (Li hb O (by omega)) ?_);rintro⟨x,b'⟩ ⟨U,g2,K⟩;simp only at U g2 K ⊢;exact BH (lo+x) rfl (by omega) (by omega) (Az ⟨by simp only;omega,by simp only;omega,K⟩)
theorem Zg{F k:Nat}{b:Ju}{m:Int}(hb:BG k b)(K:k<1000000)(U:1<=m)(Y:m<1000):BQ (f32 F b m) (λr=>BG (k+1) r.2):=by
 unfold f32;refine BH (m - 1) rfl (by omega) (by omega) (Br (Li hb K (by omega)) ?_);rintro⟨x,b'⟩ ⟨Z,g2,O⟩;exact Az O
theorem Te{F k:Nat}{b:Ju}{l:List Int}(hb:BG k b)(U:k<1000000)(Z:0<l.length)(ac:l.length<1000):BQ (f81 F b l) (λr=>r.1∈l/\BG (k+1) r.2):=by
 unfold f81;refine BH ((l.length - 1:Nat):Int) (by omega) (by omega) (by omega) (Br (Li hb U (by omega)) ?_);rintro⟨x,b'⟩ ⟨Y,g2,K⟩;simp only at Y g2 K ⊢;have O:x.toNat<l.length:=by omega
 exact EK (m:=x.toNat) (by omega) O (Az ⟨List.getElem_mem O,K⟩)
abbrev DT:=Int×Int×Int
abbrev OW:=Bn×List DT
structure NV (n:Nat) (o:OW):Prop where
 l1:o.1.length<=n
 n1:∀x∈o.1,x.length<=n
 l2:o.2.length<=n
end Pal
namespace Pal
theorem Ji(F:Nat)(a lo hi:Int):f92 F a lo hi=some (decide (lo<=a/\a<=hi)):=by
 unfold f92;by_cases h:lo<=a
 ·rw [if_pos h];simp [h]
 ·rw [if_neg h];simp [h]
theorem ZC(F:Nat)(a lo hi:Int):f91 F a lo hi=some (decide (lo<=a/\a<=hi)):=Ji F a lo hi
theorem Xe{F:Nat}{o:OW}{i:Int}{l:List Int}(h:ix o.1 i=some l):ND F l=Mg F o i:=by
 funext j;unfold ND Mg;rw [h];rfl
theorem W1(F:Nat)(o:OW):NC F o=Me F o:=by
 funext i;unfold NC Me;split
 ·rcases h:ix o.1 i with _ | l
  ·rfl
  ·simp only [Option.bind_some];rw [Xe h]
 ·rfl
theorem PV(F:Nat)(o:OW):f47 F o=f48 F o:=by
 unfold f47 f48;rw [W1];rfl
end Pal
namespace Pal
def VD(n:Nat)(d:DT):Prop:=0<=d.1/\d.1<(n:Int)/\0<=d.2.1/\d.2.1<(n:Int)/\d.1≠d.2.1/\1<=d.2.2/\d.2.2<=9
def CS(x:List Int):Prop:=x.length<=3/\∀c∈x,1<=c/\c<=9
structure VO (o:OW):Prop where
 n2:2<=o.1.length
 n5:o.1.length<=5
 cs:∀x∈o.1,CS x
 d8:o.2.length<=8
 ds:∀d∈o.2,VD o.1.length d
theorem VO.nv{o:OW}(h:VO o):NV 40 o:=⟨by have:=h.n5;omega,λx K=>by have:=(h.cs x K).1;omega,by have:=h.d8;omega⟩
theorem Pj{α:Type}{P:α->Prop}{l:List α}{i:Nat}(hi:i<l.length)(h:∀x∈l.take i,P x)(k:P l[i]):∀x∈l.take (i+1),P x:=by
 intro x K;rw [List.take_add_one,List.getElem?_eq_getElem hi] at K;simp only [Option.toList_some,List.mem_append,List.mem_singleton] at K;rcases K with K | rfl
 ·exact h x K
 ·exact k
theorem YO{F:Nat}{d:DT}{n:Nat}(Y:n<1000):BQ (f88 F (n:Int) d 9) (λr=>r=0↔VD n d):=by
 unfold f88;refine BH ((n:Int) - 1) rfl (by omega) (by omega) (By (Ji _ _ _ _) ?_);refine Br (S:=λc=>c=true↔¬((0<=d.1/\d.1<(n:Int))/\0<=d.2.1/\d.2.1<(n:Int))) ?_ ?_
 ·refine Ci (λh=>Az ?_) (λh=>?_)
  ·simp at h;simp;omega
  ·refine BH ((n:Int) - 1) rfl (by omega) (by omega) (By (Ji _ _ _ _) ?_);refine Az ?_;simp at h;simp;omega
 ·intro c O;refine Ci (λh=>Az ?_) (λh=>?_)
  ·have:=O.1 h;unfold VD;constructor
   ·intro h;cases h
   ·intro h;omega
  have Z:¬¬_:=λk=>h (O.2 k);refine Ci (λU=>Az ?_) (λU=>?_)
  ·unfold VD;constructor
   ·intro h;cases h
   ·intro h;omega
  refine By (Ji _ _ _ _) (Ci (λK=>Az ?_) (λK=>Az ?_))
  ·simp at K;unfold VD;constructor
   ·intro h;cases h
   ·intro h;omega
  ·simp at K;unfold VD;constructor
   ·intro h;omega
   ·intro h;rfl
theorem TS{F:Nat}{o:OW}(Z:100<F)(h:NV 40 o):BQ (f48 F o) (λr=>r=0↔VO o):=by
 unfold f48;have ac:=h.l1;have ag:=h.l2;refine Ci (λg=>Az (iff_of_false (by decide) λv=>by have:=v.n2;omega)) (λal=>?_);refine Ci (λg=>Az (iff_of_false (by decide) λv=>by have:=v.n5;omega)) (λg2=>?_);refine Br (S:=λq=>(∃e,q=Sum.inl e/\e≠0/\¬∀x∈o.1,CS x)∨(q=Sum.inr ()/\∀x∈o.1,CS x)) ?_ ?_
 ·refine EJ o.1.length (λi s=>s=(i:Int)/\∀x∈o.1.take i,CS x) ⟨rfl,by simp⟩ (by omega) ?_ ?_
  ·rintro i s hi ⟨rfl,K⟩;unfold Me;refine CI (by omega) (EK (m:=i) rfl hi ?_);have am:=h.n1 _ (List.getElem_mem hi);refine Ci (λg=>Az (.inl ⟨_,rfl,by decide,λk=>by have:=(k _ (List.getElem_mem hi)).1;omega⟩)) (λap=>?_);refine Br (S:=λq=>(q=Sum.inl 1/\¬CS o.1[i])∨(q=Sum.inr ()/\CS o.1[i])) ?_ ?_
   ·refine EJ o.1[i].length (λj s=>s=(j:Int)/\∀c∈o.1[i].take j,1<=c/\c<=9) ⟨rfl,by simp⟩ (by omega) ?_ ?_
    ·rintro j s U ⟨rfl,O⟩;unfold Mg;refine EK (m:=i) rfl hi (CI (by omega) ?_);refine EK (m:=i) rfl hi (EK (m:=j) rfl U ?_);refine By (Ji _ _ _ _) (Ci (λg=>Az (.inl ⟨rfl,λk=>?_⟩)) (λg=>?_))
     ·have:=k.2 _ (List.getElem_mem U);simp at g;omega
     refine BH ((j+1:Nat):Int) (by simp) (by omega) (by omega) (Az ⟨rfl,Pj U O ?_⟩);simpa using g
    ·rintro s ⟨rfl,O⟩;unfold Mg;refine EK (m:=i) rfl hi ?_;rw [List.take_length] at O;exact BP (by omega) (Az ⟨_,rfl,.inr ⟨rfl,by omega,O⟩⟩)
   ·rintro q (⟨rfl,g⟩ | ⟨rfl,g⟩)
    ·rw [Sum.elim_inl];exact Az (.inl ⟨_,rfl,by decide,λk=>g (k _ (List.getElem_mem hi))⟩)
    ·rw [Sum.elim_inr];exact BH ((i+1:Nat):Int) (by simp) (by omega) (by omega) (Az ⟨rfl,Pj hi K g⟩)
  ·rintro s ⟨rfl,K⟩;unfold Me;rw [List.take_length] at K;exact BP (by omega) (Az ⟨_,rfl,.inr ⟨rfl,K⟩⟩)
 ·rintro q (⟨e,rfl,he,g⟩ | ⟨rfl,O⟩)
  ·rw [Sum.elim_inl];exact Az (iff_of_false he λv=>g v.cs)
  ·rw [Sum.elim_inr];refine Ci (λg=>Az (iff_of_false (by decide) λv=>by have:=v.d8;omega)) (λg2=>?_);refine Br (S:=λq=>(∃e,q=Sum.inl e/\e≠0/\¬∀d∈o.2,VD o.1.length d)∨(q=Sum.inr ()/\∀d∈o.2,VD o.1.length d)) ?_ ?_
   ·refine EJ o.2.length (λi s=>s=(i:Int)/\∀d∈o.2.take i,VD o.1.length d) ⟨rfl,by simp⟩ (by omega) ?_ ?_
    ·rintro i s hi ⟨rfl,K⟩;unfold Pz;refine CI (by omega) (EK (m:=i) rfl hi ?_);refine Br (YO (by omega)) ?_;intro x Y;refine Ci (λg=>Az (.inl ⟨_,rfl,g,λk=>g (Y.2 (k _ (List.getElem_mem hi)))⟩)) (λg=>?_);exact BH ((i+1:Nat):Int) (by simp) (by omega) (by omega) (Az ⟨rfl,Pj hi K (Y.1 (Decidable.not_not.1 g))⟩)
    ·rintro s ⟨rfl,K⟩;unfold Pz;rw [List.take_length] at K;exact BP (by omega) (Az ⟨_,rfl,.inr ⟨rfl,K⟩⟩)
   ·rintro q (⟨e,rfl,he,g⟩ | ⟨rfl,g⟩)
    ·rw [Sum.elim_inl];exact Az (iff_of_false he λv=>g v.ds)
    ·rw [Sum.elim_inr];exact Az (iff_of_true rfl ⟨by omega,by omega,O,by omega,g⟩)
theorem YW{F:Nat}{o:OW}(K:100<F)(h:NV 40 o):BQ (f47 F o) (λr=>r=0↔VO o):=PV F o▸TS K h
theorem Uf{F:Nat}{o:OW}(K:100<F)(h:VO o):f47 F o=some 0:=by
 obtain⟨r,O,U⟩:=YW K h.nv;rw [O,U.2 h]
theorem aJ{F:Nat}{o:OW}(K:100<F)(h:VO o):f70 F o []=some (o,0):=by
 obtain⟨F,rfl⟩:∃k,F=k+1:=⟨F - 1,by omega⟩;unfold f70;rw [Uf K h]
 rfl
theorem WW(a n:Int):a % n=(a - n) % n:=by
 have h:a=(a - n)+n*1:=by omega
 conv=>lhs;rw [h]
 exact Int.add_mul_emod_self_left _ _ _
theorem ZV{F k n:Nat}{b:Ju}(hb:BG k b)(av:k<900000)(aw:2<=n)(ay:n<900):BQ (f40 F b (n:Int)) (λr=>VD n r.1/\BG (k+4) r.2):=by
 unfold f40;refine BH ((n:Int) - 1) rfl (by omega) (by omega) (Br (Li hb (by omega) (by omega)) ?_);rintro⟨x,az⟩ ⟨O,g2,U⟩;simp only at O g2 U ⊢;refine Br (PX U (by omega) (by omega) (by omega) (by omega)) ?_;rintro⟨x2,a0⟩ ⟨a1,am,Y⟩;simp only at a1 am Y ⊢;refine Br (Te Y (by omega) (by simp) (by simp)) ?_;rintro⟨Z,a2⟩ ⟨ac,ag⟩;simp only at ac ag ⊢;refine BH ((n:Int) - 1) rfl (by omega) (by omega) (Br (PX ag (by omega) (by omega) (by omega) (by omega)) ?_);rintro⟨K,a3⟩ ⟨ap,aq,al⟩;simp only at ap aq al ⊢;refine BH (x+K) rfl (by omega) (by omega) (By (b:=(x+K).tmod n) (by unfold Oh;rw [if_neg (by omega)]) ?_);refine Az ⟨?_,al⟩;have e:(x+K).tmod n=(x+K) % n:=Int.tmod_eq_emod_of_nonneg (by omega);have p3:1<=Z/\Z<=9:=by
  simp only [List.mem_cons,List.not_mem_nil,or_false] at ac;omega
 have a4:(x+K) % (n:Int)<n:=Int.emod_lt_of_pos _ (by omega);have a5:0<=(x+K) % (n:Int):=Int.emod_nonneg _ (by omega);have a6:x≠(x+K) % (n:Int):=by
  rcases Int.lt_or_le (x+K) n with h | h
  ·rw [Int.emod_eq_of_lt (by omega) h];omega
  ·rw [WW,Int.emod_eq_of_lt (by omega) (by omega)];omega
 refine⟨O,?_,?_,?_,?_,p3.1,p3.2⟩ <;> simp only [e] <;> omega
theorem YM{F k:Nat}{b:Ju}{pm dm:Nat}(a7:100<F)(hb:BG k b)(a8:k<1000)(a9:2<=pm)(bb:pm<=5)(hd:dm<=8):BQ (f31 F b pm dm) (λr=>VO r.1/\r.1.1.length<=pm/\r.1.2.length<=dm/\BG (k+100) r.2):=by
 unfold f31;refine Br (PX hb (by omega) (by omega) (by omega) (by omega)) ?_;rintro⟨n,be⟩ ⟨n1,n2,ay⟩;simp only at n1 n2 ay ⊢;obtain⟨n,rfl⟩:∃m:Nat,n=(m:Int):=⟨n.toNat,by omega⟩;refine Br (Zg ay (by omega) (by omega) (by omega)) ?_;rintro⟨bi,bn⟩ g2;simp only at g2 ⊢;refine Br (S:=λr=>r.2.2.2.length=n/\(∀x∈r.2.2.2,CS x)/\BG (k+30) (r.1,r.2.1,r.2.2.1)) ?_ ?_
 ·refine EJ n (λi s=>s.2.2.2.2=(i:Int)/\s.1.length=i/\(∀x∈s.1,CS x)/\BG (k+2+5*i) (s.2.1,s.2.2.1,s.2.2.2.1)) ⟨rfl,rfl,by simp,g2⟩ (by omega) ?_ ?_
  ·rintro i ⟨az,l,t,ag,c⟩ hi ⟨al,am,ap,K⟩;simp only at al am ap K;subst al;unfold NN;refine CI (by simp only;omega) (Br (Li K (by omega) (by omega)) ?_);rintro⟨c,bo⟩ ⟨c1,c2,aq⟩;simp only at c1 c2 aq ⊢;obtain⟨c,rfl⟩:∃m:Nat,c=(m:Int):=⟨c.toNat,by omega⟩;refine Br (S:=λr=>CS r.1/\BG (k+2+5*i+1+c) r.2) ?_ ?_
   ·refine EJ c (λj s=>s.2.2.2.2=((c - j:Nat):Int)/\s.2.2.2.1.length=j/\(∀v∈s.2.2.2.1,1<=v/\v<=9)/\BG (k+2+5*i+1+j) (s.1,s.2.1,s.2.2.1)) ⟨rfl,rfl,by simp,aq⟩ (by omega) ?_ ?_
    ·rintro j ⟨l,t,ag,w,z⟩ a5 ⟨U,hw,O,K⟩;simp only at U hw O K;subst U;unfold NA;refine CI (by simp only;omega) (Br (S:=λr=>r.1.length=j+1/\(∀v∈r.1,1<=v/\v<=9)/\BG (k+2+5*i+1+(j+1)) r.2) ?_ ?_)
     ·refine Ci (λ_=>?_) (λ_=>?_)
      ·refine LX (by simp only;omega) (Az ⟨by simp [hw],?_,K.Ah (by omega)⟩);intro v h;rcases List.mem_append.1 h with h | h
       ·exact O v h
       ·have:=List.mem_singleton.1 h;omega
      ·refine Br (Te K (by omega) (by simp) (by simp)) ?_;rintro⟨v,a6⟩ ⟨a0,av⟩;simp only at a0 av ⊢;refine LX (by omega) (Az ⟨by simp [hw],?_,av⟩);intro u h;rcases List.mem_append.1 h with h | h
       ·exact O u h
       ·have:=List.mem_singleton.1 h;subst this;simp only [List.mem_cons,List.not_mem_nil,or_false] at a0;omega
     ·rintro⟨w',l',bv,bw⟩ ⟨Z,aw,ac⟩;simp only at Z ac aw ⊢;exact BH ((c - (j+1):Nat):Int) (by omega) (by omega) (by omega) (Az ⟨rfl,Z,aw,ac⟩)
    ·rintro⟨l,t,ag,w,z⟩ ⟨U,hw,O,K⟩;simp only at U hw O K;subst U;unfold NA;exact BP (by simp) (Az ⟨_,rfl,⟨by simp only;omega,O⟩,K⟩)
   ·rintro⟨w,a6⟩ ⟨Z,ac⟩;simp only at Z ac ⊢;refine LX (by omega) (BH ((i+1:Nat):Int) (by simp) (by omega) (by omega) ?_);refine Az ⟨rfl,by simp [am],λx Y=>?_,ac.Ah (by omega)⟩;simp only [List.mem_append,List.mem_singleton] at Y;rcases Y with Y | rfl
    ·exact ap x Y
    ·exact Z
  ·rintro⟨az,l,t,ag,c⟩ ⟨al,am,ap,K⟩;simp only at al am ap K;subst al;unfold NN;exact BP (by simp) (Az ⟨_,rfl,am,ap,K.Ah (by omega)⟩)
 ·rintro⟨l,t,ag,az⟩ ⟨a1,p2,aq⟩;simp only at a1 p2 aq ⊢;refine Br (Li aq (by omega) (by omega)) ?_;rintro⟨c,bx⟩ ⟨c1,c2,av⟩;simp only at c1 c2 av ⊢;obtain⟨c,rfl⟩:∃m:Nat,c=(m:Int):=⟨c.toNat,by omega⟩;refine Br (S:=λr=>r.2.2.2.length<=dm/\(∀d∈r.2.2.2,VD n d)/\BG (k+100) (r.1,r.2.1,r.2.2.1)) ?_ ?_
  ·refine EJ c (λj s=>s.2.2.2.2=((c - j:Nat):Int)/\s.1.length=j/\(∀d∈s.1,VD n d)/\BG (k+31+4*j) (s.2.1,s.2.2.1,s.2.2.2.1)) ⟨rfl,rfl,by simp,av.Ah (by omega)⟩ (by omega) ?_ ?_
   ·rintro j ⟨a2,l,t,ag,z⟩ a5 ⟨U,hw,O,K⟩;simp only at U hw O K;subst U;unfold NB;refine CI (by simp only;omega) (Br (ZV K (by omega) (by omega) (by omega)) ?_);rintro⟨d,bz⟩ ⟨a3,a4⟩;simp only at a3 a4 ⊢;refine BQ.Oj (by simp;omega) (BH ((c - (j+1):Nat):Int) (by omega) (by omega) (by omega) ?_);refine Az ⟨rfl,by simp [hw],?_,a4.Ah (by omega)⟩;intro x Y;rcases List.mem_append.1 Y with Y | Y
    ·exact O x Y
    ·cases List.mem_singleton.1 Y;exact a3
   ·rintro⟨a2,l,t,ag,z⟩ ⟨U,hw,O,K⟩;simp only at U hw O K;subst U;unfold NB;exact BP (by simp) (Az ⟨_,rfl,by simp only;omega,O,K.Ah (by omega)⟩)
  ·rintro⟨l,t,ag,a2⟩ ⟨Z,aw,ac⟩;simp only at Z ac aw ⊢;exact Az ⟨⟨by simp only;omega,by simp only;omega,p2,by simp only;omega,by simp only;rw [a1];exact aw⟩,by simp only;omega,Z,ac⟩
end Pal
namespace Pal
abbrev PR:=Int×Int
def gN(l:List Int)(i:Nat):Int:=l.getD i 0
def F5(l:List Int)(i v:Int):List Int:=l.set i.toNat (gN l i.toNat+v)
def BN(B:Int)(l:List Int):Prop:=l.length=5/\∀x∈l,-B<=x/\x<=B
theorem NS{l:List Int}{i:Nat}(h:i<l.length):gN l i=l[i]:=by unfold gN;rw [List.getD_eq_getElem?_getD,List.getElem?_eq_getElem h];rfl
theorem BN.bd{B:Int}{l:List Int}(h:BN B l){i:Nat}(hi:i<5): -B<=gN l i/\gN l i<=B:=by
 rw [NS (by have:=h.1;omega)];exact h.2 _ (List.getElem_mem _)
theorem BN.ix{B:Int}{l:List Int}(h:BN B l){i:Int}(K:0<=i)(hi:i<5):ix l i=some (gN l i.toNat):=by
 have:=h.1;rw [NS (show i.toNat<l.length by omega)];exact IU (m:=i.toNat) (by omega) (List.getElem?_eq_getElem _)
theorem BN.Ah{B C:Int}{l:List Int}(h:BN B l)(O:B<=C):BN C l:=⟨h.1,λx K=>by have:=h.2 x K;omega⟩
theorem BN.add{B V:Int}{l:List Int}(h:BN B l){i v:Int}(O:0<=i)(hi:i<5)(U: -V<=v)(Y:v<=V):BN (B+V) (F5 l i v):=by
 have hb:=h.bd (i:=i.toNat) (by omega);refine⟨by unfold F5;rw [List.length_set];exact h.1,λx K=>?_⟩;rcases List.mem_or_eq_of_mem_set K with K | rfl
 ·have:=h.2 x K;omega
 ·omega
theorem Jk{l:List Int}{i v:Int}(h:l.length=5)(K:0<=i)(hi:i<5)(j:Nat):gN (F5 l i v) j=gN l j+if(j:Int)=i then v else 0:=by
 unfold F5 gN;rw [List.getD_eq_getElem?_getD,List.getElem?_set,List.getD_eq_getElem?_getD,List.getD_eq_getElem?_getD];by_cases e:i.toNat=j
 ·rw [if_pos e,if_pos (by omega),if_pos (by omega),e];rfl
 ·rw [if_neg e,if_neg (by omega),Int.add_zero]
theorem W3{l l':List Int}(h:l.length=5)(U:l'.length=5)(k:∀j,j<5->gN l j=gN l' j):l=l':=by
 refine List.ext_getElem (by omega) λj K O=>?_;rw [← NS K,← NS O];exact k j (by omega)
def J2(l:List Int)(d:DT):List Int:=F5 (F5 l d.1 d.2.2) d.2.1 (-d.2.2)
def Lw(l:List Int)(d:DT):List Int:=F5 (F5 l d.2.1 d.2.2) d.1 (-d.2.2)
def Co(o:OW):List Int:=o.2.foldl Lw (List.replicate 5 0)
theorem Sr{F:Nat}{B:Int}{l:List Int}{d:DT}(h:BN B l)(a1:0<=d.1)(O:d.1<5)(U:0<=d.2.1)(Y:d.2.1<5)(Z: -B<=d.2.2)(p2:d.2.2<=B)(ac:B<=1000000000000):f204 F l d=some (J2 l d)/\BN (3*B) (J2 l d):=by
 have K:=h.add a1 O Z p2;have g2:=K.add U Y (show -B<= -d.2.2 by omega) (by omega);have k1:=h.bd (i:=d.1.toNat) (by omega);have ag:=K.bd (i:=d.2.1.toNat) (by omega);refine⟨?_,g2.Ah (by omega)⟩;refine EI ?_;unfold f204;refine By (h.ix a1 O) ?_;refine BH _ rfl (by omega) (by omega) ?_;refine By (h.ix a1 O) ?_;refine By (K.ix U Y) ?_;refine BH _ rfl (by omega) (by omega) ?_;refine By (K.ix U Y) ?_;exact Az rfl
theorem NO{F:Nat}{o:OW}(ac:100<F)(h:VO o):f84 F o=some (Co o)/\BN 200 (Co o):=by
 have ag:=h.n5;have al:=h.d8;have:BQ (f84 F o) (λr=>r=Co o/\BN 200 r):=by
  unfold f84;refine Br (S:=λr=>r=Co o/\BN 200 r) ?_ (λr U=>Az U);refine EJ o.2.length (λi s=>s.2=(i:Int)/\s.1=(o.2.take i).foldl Lw (List.replicate 5 0)/\BN (20*i) s.1) ⟨rfl,rfl,rfl,by simp⟩ (by omega) ?_ ?_
  ·rintro i ⟨w,c⟩ hi ⟨K,hw,hb⟩;simp only at K hw hb;subst K;obtain⟨v1,v2,am,v4,ap,v6,aq⟩:=h.ds _ (List.getElem_mem hi);have O:=hb.add (i:=o.2[i].2.1) (v:=o.2[i].2.2) (V:=10) (by omega) (by omega) (by omega) (by omega);have g2:=O.add (i:=o.2[i].1) (v:= -o.2[i].2.2) (V:=10) (by omega) (by omega) (by omega) (by omega);have k1:=hb.bd (i:=o.2[i].2.1.toNat) (by omega);have av:=O.bd (i:=o.2[i].1.toNat) (by omega);unfold NF;refine CI (by simp only;omega) (EK (m:=i) rfl hi ?_);refine By (hb.ix (by omega) (by omega)) (BH _ rfl (by omega) (by omega) ?_);refine By (hb.ix (by omega) (by omega)) (By (O.ix (by omega) (by omega)) ?_);refine BH _ rfl (by omega) (by omega) (By (O.ix (by omega) (by omega)) ?_);refine BH ((i+1:Nat):Int) (by simp) (by omega) (by omega) (Az ⟨rfl,?_,g2.Ah (by omega)⟩);simp only;rw [List.take_add_one,List.getElem?_eq_getElem hi,List.foldl_append,← hw]
   rfl
  ·rintro⟨w,c⟩ ⟨K,hw,hb⟩;simp only at K hw hb;subst K;unfold NF;rw [List.take_length] at hw;exact BP (by simp) (Az ⟨_,rfl,hw,hb.Ah (by omega)⟩)
 obtain⟨r,Y,rfl,Z⟩:=this;exact⟨Y,Z⟩
theorem Wx{l:List Int}{i:Nat}(hi:i<l.length):(l.take (i+1)).sum=(l.take i).sum+l[i]:=by
 rw [List.take_add_one,List.getElem?_eq_getElem hi,List.sum_append];simp only [Option.toList_some,List.sum_cons,List.sum_nil];omega
theorem Zq{F:Nat}{l:List Int}(ag:100<F)(al:l.length<=20)(hb:∀x∈l,-1000<=x/\x<=1000):f85 F l=some l.sum/\ -20000<=l.sum/\l.sum<=20000:=by
 have:BQ (f85 F l) (λr=>r=l.sum/\ -20000<=r/\r<=20000):=by
  unfold f85;refine Br (S:=λr=>r=l.sum/\ -20000<=r/\r<=20000) ?_ (λr Y=>Az Y);refine EJ l.length (λi s=>s.2=(i:Int)/\s.1=(l.take i).sum/\ -(1000*(i:Int))<=s.1/\s.1<=1000*(i:Int)) ⟨rfl,rfl,by simp,by simp⟩ (by omega) ?_ ?_
  ·rintro i ⟨w,c⟩ hi ⟨K,hw,O,U⟩;simp only at K hw O U;subst K;have am:=hb _ (List.getElem_mem hi);unfold NH;refine CI (by simp only;omega) (EK (m:=i) rfl hi ?_);refine BH _ rfl (by omega) (by omega) (BH ((i+1:Nat):Int) (by simp) (by omega) (by omega) ?_);refine Az ⟨rfl,?_,?_,?_⟩
   ·simp only;rw [Wx hi,hw]
   ·simp only;omega
   ·simp only;omega
  ·rintro⟨w,c⟩ ⟨K,hw,O,U⟩;simp only at K hw O U;subst K;unfold NH;rw [List.take_length] at hw;exact BP (by simp) (Az ⟨_,rfl,hw,by simp only;omega,by simp only;omega⟩)
 obtain⟨r,Z,rfl,ac⟩:=this;exact⟨Z,ac⟩
def VP(n:Nat)(x:PR):Prop:=0<=x.1/\x.1<x.2/\x.2<(n:Int)
def Iy(b:Nat)(k:Nat):List PR:=(List.range k).map λa:Nat=>((a:Int),(b:Int))
def DC(n:Nat):List PR:=(List.range n).flatMap λb=>Iy b b
theorem VF(b k:Nat):Iy b (k+1)=Iy b k++ [((k:Int),(b:Int))]:=by unfold Iy;rw [List.range_succ,List.map_append];rfl
theorem U2(n:Nat):DC (n+1)=DC n++Iy n n:=by unfold DC;rw [List.range_succ,List.flatMap_append];simp
theorem Na{n:Nat}{x:PR}(h:x∈DC n):VP n x:=by
 unfold DC Iy at h;obtain⟨b,hb,h⟩:=List.mem_flatMap.1 h;obtain⟨a,K,rfl⟩:=List.mem_map.1 h;have:=List.mem_range.1 hb;have:=List.mem_range.1 K;exact⟨by simp only;omega,by simp only;omega,by simp only;omega⟩
theorem R5(b k:Nat):(Iy b k).length=k:=by unfold Iy;simp
theorem Q1{n:Nat}(h:n<=5):(DC n).length<=10:=by
 have e:∀n,n<=5->(DC n).length<=n*2:=by
  intro n K
  match n,K with
  | 0,_ | 1,_ | 2,_ | 3,_ | 4,_ | 5,_=>decide
 have:=e n h;omega
theorem X0{F:Nat}{o:OW}(Z:100<F)(ac:o.1.length<=5):f133 F o=some (DC o.1.length):=by
 refine EI ?_;unfold f133;refine Br (S:=λr=>r=DC o.1.length) ?_ (λr Y=>Az Y);refine EJ o.1.length (λi s=>s.2=(i:Int)/\s.1=DC i/\s.1.length<=10*i) ⟨rfl,rfl,by simp⟩ (by omega) ?_ ?_
 ·rintro i ⟨w,c⟩ hi ⟨K,hw,U⟩;simp only at K hw U;subst K;unfold Nn;refine CI (by simp only;omega) (Br (S:=λr=>r=DC i++Iy i i) ?_ ?_)
  ·refine EJ i (λa s=>s.2=(a:Int)/\s.1=DC i++Iy i a) ⟨rfl,by simp [Iy,hw]⟩ (by omega) ?_ ?_
   ·rintro a ⟨v,c⟩ ag ⟨K,O⟩;simp only at K O;subst K;unfold Nq;refine CI (by simp only;omega) (LX ?_ ?_)
    ·rw [O,← hw,List.length_append,R5];omega
    refine BH ((a+1:Nat):Int) (by simp) (by omega) (by omega) (Az ⟨rfl,?_⟩);simp only;rw [VF,O,List.append_assoc]
   ·rintro⟨v,c⟩ ⟨K,O⟩;simp only at K O;subst K;unfold Nq;exact BP (by simp) (Az ⟨_,rfl,O⟩)
  ·rintro r rfl;refine BH ((i+1:Nat):Int) (by simp) (by omega) (by omega) (Az ⟨rfl,(U2 i).symm,?_⟩);simp only;rw [List.length_append,R5,← hw];omega
 ·rintro⟨w,c⟩ ⟨K,hw,U⟩;simp only at K hw U;subst K;unfold Nn;exact BP (by simp) (Az ⟨_,rfl,hw⟩)
def Bz(p:Int)(x:PR):Bool:=decide (x.1=p) || decide (x.2=p)
theorem QB{α:Type}{p:α->Bool}:∀{l:List α} {a:Nat},l.countP p=1->∀O:a<l.length,p l[a]=true->l.findIdx p=a
 | x::xs,0,_,_,K=>by
  have K:p x=true:=K
  rw [List.findIdx_cons,K];rfl
 | x::xs,a+1,h,O,K=>by
  have K:p (xs[a]'(by simpa using O))=true:=K
  have Y:0<xs.countP p:=List.countP_pos_iff.2 ⟨_,List.getElem_mem _,K⟩
  by_cases U:p x=true
  ·rw [List.countP_cons_of_pos U] at h;omega
  ·rw [List.countP_cons_of_neg U] at h;rw [List.findIdx_cons,Bool.eq_false_iff.2 U];simp only [cond_false];rw [QB h (by simpa using O) K]
def Iu(n:Nat)(l:List PR):Option Nat:=(List.range n).find? λp=>l.countP (Bz p)==1
def dP(p:Int)(x:PR)(m:Int):DT:=if 0<m then(x.1+x.2 - p,p,m) else(p,x.1+x.2 - p,-m)
def EN(n:Nat):Nat->List PR->List Int->List DT->Option (List DT)
 | 0,_,w,out=>if w=List.replicate 5 0 then some out else none
 | k+1,l,w,out=>(Iu n l).bind λp=>
   if gN w p=0 then none else
    EN n k (l.eraseIdx (l.findIdx (Bz p))) (J2 w (dP p (l.getD (l.findIdx (Bz p)) (0,0)) (gN w p))) (out++ [dP p (l.getD (l.findIdx (Bz p)) (0,0)) (gN w p)])
def Mp:Option (List DT)->Bool×List Int×List DT
 | none=>(true,default)
 | some out=>(false,List.replicate 5 0,out)
theorem V7{F:Nat}{l:List PR}{p:Int}(am:100<F)(ap:l.length<=20):BQ (Pal.iter (L5 F l p) F (0,0,0)) (λr=>r.2=((l.countP (Bz p):Nat):Int)/\(r.2=1->r.1=(l.findIdx (Bz p):Nat)/\l.findIdx (Bz p)<l.length)):=by
 refine EJ l.length (λi s=>s.2.2=(i:Int)/\s.2.1=(((l.take i).countP (Bz p):Nat):Int)/\(s.2.1≠0->∃a,s.1=((a:Nat):Int)/\∃h:a<l.length,Bz p l[a]=true)) ⟨rfl,by simp,by simp⟩ (by omega) ?_ ?_
 ·rintro i ⟨a,m,c⟩ hi ⟨K,hm,O⟩;simp only at K hm O;subst K;have hle:(l.take i).countP (Bz p)<=i:=by
   refine Nat.le_trans List.countP_le_length ?_;rw [List.length_take];omega
  unfold L5;refine CI (by simp only;omega) (EK (m:=i) rfl hi ?_);refine Br (S:=λc=>c=Bz p l[i]) ?_ ?_
  ·unfold Bz;refine Ci (λh=>Az (by simp [h])) (λh=>Az (by simp [h]))
  rintro c rfl;have key:(l.take (i+1)).countP (Bz p)=(l.take i).countP (Bz p)+if Bz p l[i]=true then 1 else 0:=by
   rw [List.take_add_one,List.getElem?_eq_getElem hi,List.countP_append];simp only [Option.toList_some,List.countP_cons,List.countP_nil,Nat.zero_add]
  refine Br (S:=λr=>r.2=(((l.take (i+1)).countP (Bz p):Nat):Int)/\(r.2≠0->∃a,r.1=((a:Nat):Int)/\∃h:a<l.length,Bz p l[a]=true)) ?_ ?_
  ·refine Ci (λh=>?_) (λh=>?_)
   ·refine BH (((l.take (i+1)).countP (Bz p):Nat):Int) ?_ (by omega) ?_ (Az ⟨rfl,λ_=>⟨i,rfl,hi,h⟩⟩)
    ·rw [key,if_pos h,hm];rfl
    ·rw [key,if_pos h];omega
   ·exact Az ⟨by rw [key,if_neg h];exact hm,O⟩
  ·rintro⟨aq,m'⟩ ⟨U,Y⟩;simp only at U Y ⊢;exact BH ((i+1:Nat):Int) (by simp) (by omega) (by omega) (Az ⟨rfl,U,Y⟩)
 ·rintro⟨a,m,c⟩ ⟨K,hm,O⟩;simp only at K hm O;subst K;rw [List.take_length] at hm;unfold L5;refine BP (by simp) (Az ⟨_,rfl,hm,λac=>?_⟩);simp only at ac;obtain⟨k,ag,Z,al⟩:=O (by omega);have:=QB (p:=Bz p) (l:=l) (a:=k) (by omega) Z al;simp only;rw [this];exact⟨ag,Z⟩
theorem Vs{n:Nat}{l:List PR}{i:Nat}(hi:i<n)(K:l.countP (Bz i)=1)(h:∀p,p<i->l.countP (Bz p)≠1):Iu n l=some i:=by
 unfold Iu;rw [List.find?_range_eq_some];exact⟨by simp [K],List.mem_range.2 hi,λj O=>by simpa using h j O⟩
theorem Vm{n:Nat}{l:List PR}(h:∀p,p<n->l.countP (Bz p)≠1):Iu n l=none:=by
 unfold Iu;rw [List.find?_eq_none];intro p K;simpa using h p (List.mem_range.1 K)
theorem Ue{n:Nat}{p:Nat}{x:PR}{m B:Int}(U:n<=5)(O:VP n x)(K:Bz p x=true)(Y: -B<=m)(Z:m<=B):0<=(dP p x m).1/\(dP p x m).1<5/\0<=(dP p x m).2.1/\(dP p x m).2.1<5/\0<=(dP p x m).2.2/\(dP p x m).2.2<=B:=by
 obtain⟨v1,v2,ac⟩:=O;unfold Bz at K;simp at K;unfold dP;split <;> simp only <;> omega
theorem M3{α:Type}{l:List α}{i:Nat}{d:α}(h:i<l.length):l.getD i d=l[i]:=by rw [List.getD_eq_getElem?_getD,List.getElem?_eq_getElem h];rfl
theorem SD{F n:Nat}{q:OW}(Z:100<F)(az:q.1.length=n)(am:n<=5):∀(k N:Nat) (l:List PR) (w:List Int) (out:List DT) (B:Int),l.length=k->k<N->k<=10->(∀x∈l,VP n x)->BN B w->0<=B->B*3 ^ k<=1000000000000->out.length+k<=100->Lf N F l w q out=some (Mp (EN n k l w out))
 | 0,N,l,w,out,B,a0,a1,_,ac,hw,ap,aq,a2=>by
  obtain⟨N,rfl⟩:∃k,N=k+1:=⟨N - 1,by omega⟩
  refine EI ?_
  simp only [Lf]
  unfold Mc EN
  refine CI (by omega) ?_
  refine Ci (λh=>Az ?_) (λh=>Az ?_)
  ·rw [if_neg h];rfl
  ·have h:=Decidable.not_not.1 h;rw [if_pos h,h];rfl
 | k+1,N,l,w,out,B,a0,a1,bo,ac,hw,ap,aq,a2=>by
  obtain⟨N,rfl⟩:∃k,N=k+1:=⟨N - 1,by omega⟩;refine EI ?_;simp only [Lf];unfold Mc;refine BP (by omega) ?_;have a3:B*3 ^ (k+1)=(3*B)*3 ^ k:=by rw [Int.pow_succ];rw [Int.mul_comm (3 ^ k) 3,← Int.mul_assoc,Int.mul_comm B 3]
  have a4:B<=1000000000000:=by
   have ag:(1:Int)<=3 ^ (k+1):=by
    have:(0:Int)<3 ^ (k+1):=Int.pow_pos (by decide);omega
   have:=Int.mul_le_mul_of_nonneg_left ag ap;omega
  refine Br (S:=λr=>r=Sum.inl (Mp (EN n (k+1) l w out))∨(r=Sum.inr ()/\Iu n l=none)) ?_ ?_
  ·refine EJ n (λi s=>s=(i:Int)/\∀p,p<i->l.countP (Bz (p:Nat))≠1) ⟨rfl,by simp⟩ (by omega) ?_ ?_
   ·rintro i s hi ⟨rfl,O⟩;unfold Nc;refine CI (by omega) (Br (S:=λr=>(r=Sum.inr ()/\l.countP (Bz i)≠1)∨r=Sum.inl (Mp (EN n (k+1) l w out))) ?_ ?_)
    ·refine Br (V7 Z (by omega)) ?_;rintro⟨a,m⟩ ⟨av,U⟩;simp only at av U ⊢;refine Ci (λh=>Az (.inl ⟨rfl,λag=>h (by rw [av,ag];rfl)⟩)) (λh=>?_);have h:=Decidable.not_not.1 h;obtain⟨U,K⟩:=U h;have a5:l.countP (Bz i)=1:=by omega
     subst U;have a6:=Vs hi a5 O;refine EK (m:=l.findIdx (Bz i)) rfl K (EK (m:=l.findIdx (Bz i)) rfl K ?_);have a7:Bz i l[l.findIdx (Bz i)]=true:=List.findIdx_getElem;have Y:=ac _ (List.getElem_mem K);have a8:=Y;obtain⟨bv,x2,bw⟩:=a8;have hb:=hw.bd (i:=i) (by omega);refine BH (-(i:Int)) rfl (by omega) (by omega) (By (hw.ix (by omega) (by omega)) ?_);rw [show Int.toNat (i:Int)=i by omega];refine By (Zq (l:= [_,_,_]) Z (by simp) (by simp;omega)).1 (BH (-(gN w i)) rfl (by omega) (by omega) ?_);have aw:EN n (k+1) l w out=if gN w i=0 then none else EN n k (l.eraseIdx (l.findIdx (Bz i))) (J2 w (dP i l[l.findIdx (Bz i)] (gN w i))) (out++ [dP i l[l.findIdx (Bz i)] (gN w i)]):=by
      simp only [EN,a6,Option.bind_some,M3 K]
     refine Ci (λh=>Az (.inr ?_)) (λh=>?_)
     ·rw [aw,if_pos (by omega)];rfl
     have ay:=aw;rw [if_neg (show ¬gN w i=0 by omega)] at ay;rw [ay];refine Br (S:=λr=>r=dP i l[l.findIdx (Bz i)] (gN w i)) ?_ ?_
     ·unfold dP;refine Ci (λh=>?_) (λh=>?_)
      ·refine BH (gN w i) (by omega) (by omega) (by omega) (Az ?_);rw [if_pos (by omega)];simp only [List.sum_cons,List.sum_nil];refine Prod.ext ?_ rfl;simp only;omega
      ·refine Az ?_;rw [if_neg (by omega)];simp only [List.sum_cons,List.sum_nil];refine Prod.ext rfl (Prod.ext ?_ rfl);simp only;omega
     rintro d rfl;obtain⟨a9,e2,bb,be,bx,bi⟩:=Ue am Y a7 hb.1 hb.2;obtain⟨bn,g2⟩:=Sr (F:=F) hw a9 e2 bb be (by omega) bi a4;refine By bn (BQ.Oj (by simp;omega) ?_);refine By (b:=l.take (l.findIdx (Bz i))) (by unfold Hp;rw [if_pos (by omega)];simp) (BH ((l.findIdx (Bz i)+1:Nat):Int) (by simp) (by omega) (by omega) ?_);refine By (b:=l.drop (l.findIdx (Bz i)+1)) ?_ ?_
     ·unfold Hp;rw [if_pos (by omega),show Int.toNat (l.length:Int)=l.length by omega,List.take_length,show Int.toNat ((l.findIdx (Bz i)+1:Nat):Int)=l.findIdx (Bz i)+1 by omega]
     refine BQ.Oj (by simp;omega) ?_;have he:l.take (l.findIdx (Bz i))++l.drop (l.findIdx (Bz i)+1)=l.eraseIdx (l.findIdx (Bz i)):=(List.eraseIdx_eq_take_drop_succ _ _).symm;rw [he];have hle:(l.eraseIdx (l.findIdx (Bz i))).length=k:=by rw [List.length_eraseIdx_of_lt K];omega
     refine By (SD Z az am k N _ _ _ (3*B) hle (by omega) (by omega) (λx Y=>ac x (List.mem_of_mem_eraseIdx Y)) g2 (by omega) (by rw [← a3];exact aq) (by simp;omega)) ?_;rcases EN n k _ _ _ with _ | r
     ·exact CI rfl (Az (.inr rfl))
     ·exact BP (by simp [Mp]) (Az (.inr rfl))
    ·rintro r (⟨rfl,h⟩ | rfl)
     ·rw [Sum.elim_inr];refine BH ((i+1:Nat):Int) (by simp) (by omega) (by omega) (Az ⟨rfl,λp al=>?_⟩);rcases Nat.lt_succ_iff_lt_or_eq.1 al with al | rfl
      ·exact O p al
      ·exact h
     ·rw [Sum.elim_inl];exact Az (.inl rfl)
   ·rintro s ⟨rfl,O⟩;unfold Nc;exact BP (by omega) (Az ⟨_,rfl,.inr ⟨rfl,Vm O⟩⟩)
  ·rintro r (rfl | ⟨rfl,h⟩)
   ·rw [Sum.elim_inl];exact Az rfl
   ·rw [Sum.elim_inr];refine Az ?_;simp only [EN,h,Option.bind_none]
    rfl
def BD(d:DT):Prop:= -1000000000000000<=d.1/\d.1<=1000000000000000/\ -1000000000000000<=d.2.1/\d.2.1<=1000000000000000/\ -1000000000000000<=d.2.2/\d.2.2<=1000000000000000
theorem O4{n:Nat}(ac:n<=5):∀(k:Nat) (l:List PR) (w:List Int) (out r:List DT) (B:Int),l.length=k->(∀x∈l,VP n x)->BN B w->0<=B->B*3 ^ k<=1000000000000->(∀d∈out,BD d)->EN n k l w out=some r->(∀d∈r,BD d)/\r.length=out.length+k
 | 0,l,w,out,r,B,ap,O,hw,ag,al,U,h=>by
  unfold EN at h
  split at h
  ·cases h;exact⟨U,rfl⟩
  ·cases h
 | k+1,l,w,out,r,B,ap,O,hw,ag,al,U,h=>by
  have aq:B*3 ^ (k+1)=(3*B)*3 ^ k:=by rw [Int.pow_succ];rw [Int.mul_comm (3 ^ k) 3,← Int.mul_assoc,Int.mul_comm B 3]
  have av:B<=1000000000000:=by
   have aw:(1:Int)<=3 ^ (k+1):=by
    have:(0:Int)<3 ^ (k+1):=Int.pow_pos (by decide);omega
   have:=Int.mul_le_mul_of_nonneg_left aw ag;omega
  unfold EN at h;obtain⟨p,am,h⟩:=bind_some h;split at h
  ·cases h
  unfold Iu at am;obtain⟨c1,c2,c3⟩:=List.find?_range_eq_some.1 am;have a3:l.countP (Bz p)=1:=by simpa using c1
  have c2:=List.mem_range.1 c2;have Y:l.findIdx (Bz p)<l.length:=by
   obtain⟨x,K,Z⟩:=List.countP_pos_iff.1 (show 0<l.countP (Bz p) by omega);exact List.findIdx_lt_length_of_exists ⟨x,K,Z⟩
  rw [M3 Y] at h;have Z:Bz p l[l.findIdx (Bz p)]=true:=List.findIdx_getElem;have K:=O _ (List.getElem_mem Y);have hb:=hw.bd (i:=p) (by omega);obtain⟨ay,e2,az,a0,a4,a1⟩:=Ue ac K Z hb.1 hb.2;obtain⟨a5,g2⟩:=Sr (F:=0) hw ay e2 az a0 (by omega) a1 av;obtain⟨k1,a2⟩:=O4 ac k _ _ _ r (3*B) (by rw [List.length_eraseIdx_of_lt Y];omega) (λx K=>O x (List.mem_of_mem_eraseIdx K)) g2 (by omega) (by rw [← aq];exact al) (by
   intro d hd
   rcases List.mem_append.1 hd with hd | hd
   ·exact U d hd
   ·cases List.mem_singleton.1 hd
    refine⟨?_,?_,?_,?_,?_,?_⟩ <;> omega) h
  refine⟨k1,?_⟩;rw [a2];simp;omega
end Pal
namespace Pal
def GG(a b:DT):Bool:=decide (a.1<b.1∨(a.1=b.1/\(a.2.1<b.2.1∨(a.2.1=b.2.1/\a.2.2<b.2.2))))
theorem SQ{a b:DT}:GG a b=true↔a.1<b.1∨(a.1=b.1/\(a.2.1<b.2.1∨(a.2.1=b.2.1/\a.2.2<b.2.2))):=by unfold GG;exact decide_eq_true_iff
theorem Lh{a b:DT}:GG a b=false↔¬(a.1<b.1∨(a.1=b.1/\(a.2.1<b.2.1∨(a.2.1=b.2.1/\a.2.2<b.2.2)))):=by unfold GG;exact decide_eq_false_iff_not
theorem SM{F:Nat}{a b:DT}(K:BD a)(hb:BD b):BQ (f113 F a b) (λc=>(c<0↔GG a b=true)/\(c=0↔a=b)):=by
 obtain⟨a1,O,U,Y,Z,ac⟩:=K;obtain⟨ag,al,am,ap,aq,av⟩:=hb;obtain⟨ax,ay,az⟩:=a;obtain⟨a0,a2,a3⟩:=b;simp only at a1 O U Y Z ac ag al am ap aq av;unfold f113;simp only [SQ,Prod.mk.injEq];refine Ci (λh=>?_) (λh=>?_)
 ·exact BH _ rfl (by omega) (by omega) (Az ⟨by omega,by omega⟩)
 refine Ci (λaw=>?_) (λaw=>?_)
 ·exact BH _ rfl (by omega) (by omega) (Az ⟨by omega,by omega⟩)
 ·exact BH _ rfl (by omega) (by omega) (Az ⟨by omega,by omega⟩)
def Fl(x:DT):List DT->List DT
 | []=> [x]
 | y::ys=>if GG x y=true then x::y::ys else y::Fl x ys
def DI(l:List DT):List DT:=l.foldl (λa x=>Fl x a) []
def Ok(l:List DT):Prop:=l.Pairwise λa b=>GG b a=false
theorem O8{x d:DT}:∀{l:List DT},d∈Fl x l↔d=x∨d∈l
 | []=>by simp [Fl]
 | y::ys=>by
  unfold Fl
  split
  ·simp
  ·rw [List.mem_cons,O8,List.mem_cons];constructor
   ·rintro(h | h | h)
    ·exact .inr (.inl h)
    ·exact .inl h
    ·exact .inr (.inr h)
   ·rintro(h | h | h)
    ·exact .inr (.inl h)
    ·exact .inl h
    ·exact .inr (.inr h)
theorem R4{x:DT}:∀{l:List DT},(Fl x l).length=l.length+1
 | []=>rfl
 | y::ys=>by
  unfold Fl
  split
  ·rfl
  ·rw [List.length_cons,R4];rfl
theorem R9{x:DT}:∀{l:List DT},Ok l->Ok (Fl x l)
 | [],_=>List.pairwise_singleton _ _
 | y::ys,h=>by
  obtain⟨U,Y⟩:=List.pairwise_cons.1 h
  unfold Fl
  split
  ·rename_i O
   refine List.pairwise_cons.2 ⟨λz K=>?_,h⟩;have O:=SQ.1 O;rcases List.mem_cons.1 K with rfl | K
   ·rw [Lh];omega
   ·have:=Lh.1 (U z K);rw [Lh];omega
  ·rename_i O;refine List.pairwise_cons.2 ⟨λz K=>?_,R9 Y⟩;rcases O8.1 K with rfl | K
   ·exact Bool.eq_false_iff.2 O
   ·exact U z K
theorem Sb{x:DT}{B:List DT}(K:∀b∈B,GG x b=true):∀{A:List DT},(∀a∈A,GG x a=false)->Fl x (A++B)=A++x::B
 | [],_=>by
  cases B with
  | nil=>rfl
  | cons b bs=>simp only [List.nil_append,Fl,K b List.mem_cons_self,if_true]
 | a::A,O=>by
  have U:=O a List.mem_cons_self
  simp only [List.cons_append,Fl,U]
  rw [if_neg (by decide),Sb K λz Y=>O z (List.mem_cons_of_mem _ Y)]
theorem KW(l:List DT)(x:DT):DI (l++ [x])=Fl x (DI l):=by unfold DI;rw [List.foldl_append];rfl
theorem QK{α:Type}(l:List α):l= []∨∃A y,l=A++ [y]:=by
 rcases List.eq_nil_or_concat l with h | ⟨A,y,h⟩
 ·exact .inl h
 ·exact .inr ⟨A,y,by rw [h,List.concat_eq_append]⟩
theorem SV:∀{k:Nat},k<=10->(3:Int) ^ k<=59049
 | 0,_ | 1,_ | 2,_ | 3,_ | 4,_ | 5,_ | 6,_ | 7,_ | 8,_ | 9,_ | 10,_=>by decide
 | _+11,h=>absurd h (by omega)
theorem Ku{α:Type}{P:List α->Prop}(O:P [])(U:∀l x,P l->P (l++ [x])):∀l,P l:=by
 have:∀n (l:List α),l.length=n->P l:=by
  intro n
  induction n with
  | zero=>intro l K;cases List.length_eq_zero_iff.1 K;exact O
  | succ n Y=>
   intro l K;rcases QK l with rfl | ⟨l',x,rfl⟩
   ·cases K
   ·exact U _ _ (Y _ (by simpa using K))
 exact λl=>this _ l rfl
theorem Xa(l:List DT):Ok (DI l):=Ku (P:=λl=>Ok (DI l)) List.Pairwise.nil (λl x h=>by rw [KW];exact R9 h) l
theorem Ro{d:DT}(l:List DT):d∈DI l↔d∈l:=Ku (P:=λl=>d∈DI l↔d∈l) (Iff.rfl) (λl x h=>by rw [KW,O8,h];simp [or_comm]) l
theorem Ri(l:List DT):(DI l).length=l.length:=Ku (P:=λl=>(DI l).length=l.length) rfl (λl x h=>by rw [KW,R4,h];simp) l
theorem Yu{F:Nat}{l:List DT}(a7:100<F)(a8:l.length<=20)(hb:∀d∈l,BD d):f193 F l 0 (l.length:Int)=some (DI l):=by
 refine EI ?_;unfold f193;refine BH 1 rfl (by omega) (by omega) (Br (S:=λr=>r=DI l) ?_ (λr ay=>Az ay));refine EJ (l.length - 1) (λi s=>s.1=((i+1:Nat):Int)/\s.2=DI (l.take (i+1))++l.drop (i+1)) ⟨rfl,?_⟩ (by omega) ?_ ?_
 ·cases l with
  | nil=>rfl
  | cons x xs=>rfl
 ·rintro i ⟨c,w⟩ hi ⟨O,hw⟩;simp only at O hw;subst O;have al:i+1<l.length:=by omega
  unfold Nm;refine CI (by simp only;omega) ?_;have az:l.drop (i+1)=l[i+1]::l.drop (i+2):=List.drop_eq_getElem_cons al;have ap:(DI (l.take (i+1))).length=i+1:=by rw [Ri,List.length_take];omega
  have a0:∀d∈DI (l.take (i+1)),BD d:=λd hd=>hb d (List.mem_of_mem_take ((Ro _).1 hd));have a1:BD l[i+1]:=hb _ (List.getElem_mem al);have a2:DI (l.take (i+2))=Fl l[i+1] (DI (l.take (i+1))):=by
   rw [List.take_add_one (i:=i+1),List.getElem?_eq_getElem al];exact KW _ _
  have aq:=Xa (l.take (i+1));generalize l[i+1]=x at*;generalize DI (l.take (i+1))=P at*;generalize l.drop (i+2)=R at*;refine Br (S:=λr=>r=Fl x P++R) ?_ ?_
  ·refine O9 (λm s=>∃A B,A.length=m/\s.1=((m:Nat):Int)/\s.2=A++x::(B++R)/\A++B=P/\∀b∈B,GG x b=true) ?_ (m:=i+1) ⟨P,[],ap,rfl,by rw [hw,az];rfl,by simp,by simp⟩ (by omega);rintro m ⟨c,v⟩ ⟨A,B,Z,O,U,ac,av⟩;simp only at O U;subst O;have a9:A.length+B.length=i+1:=by rw [← ap,← ac,List.length_append]
   have aw:v[m]? =some x:=by rw [U,List.getElem?_append_right (by omega),Z,Nat.sub_self];rfl
   unfold Pp;have stop:(∀a∈A,GG x a=false)->A++x::(B++R)=Fl x P++R:=by
    intro h;rw [← ac,Sb av h];simp
   refine Br (S:=λc=>(c=true/\∃K y,A=K++ [y]/\GG x y=true)∨(c=false/\∀a∈A,GG x a=false)) ?_ ?_
   ·refine Ci (λh=>?_) (λh=>?_)
    ·simp only at h;rcases QK A with rfl | ⟨K,y,rfl⟩
     ·simp at Z;omega
     have a3:K.length+1=m:=by simpa using Z
     have am:v[m - 1]? =some y:=by rw [U,List.append_assoc,List.getElem?_append_right (by omega),show m - 1 - K.length=0 by omega];rfl
     refine By (IU rfl aw) (BH ((m - 1:Nat):Int) (by simp only;omega) (by omega) (by omega) ?_);refine By (IU rfl am) ?_;have a4:y∈P:=by rw [← ac];simp
     refine Br (SM a1 (a0 y a4)) ?_;rintro c ⟨c1,c2⟩;refine Az ?_;by_cases Y:GG x y=true
     ·exact .inl ⟨decide_eq_true (c1.2 Y),K,y,rfl,Y⟩
     ·refine .inr ⟨decide_eq_false λk=>Y (c1.1 k),λa ag=>?_⟩;rcases List.mem_append.1 ag with ag | ag
      ·rw [← ac,List.append_assoc] at aq;have a5:=(List.pairwise_append.1 aq).2.2 a ag y (by simp);have bb:=Lh.1 a5;have be:=Lh.1 (Bool.eq_false_iff.2 Y);rw [Lh];omega
      ·cases List.mem_singleton.1 ag;exact Bool.eq_false_iff.2 Y
    ·refine Az (.inr ⟨rfl,?_⟩);have:A= []:=by
      cases A with
      | nil=>rfl
      | cons a A=>simp at Z h;omega
     subst this;simp
   ·rintro c (⟨rfl,K,y,rfl,Y⟩ | ⟨rfl,a6⟩)
    ·have a3:K.length+1=m:=by simpa using Z
     have am:v[m - 1]? =some y:=by rw [U,List.append_assoc,List.getElem?_append_right (by omega),show m - 1 - K.length=0 by omega];rfl
     have bi:m<v.length:=by rw [U];simp;omega
     refine CI rfl (BH ((m - 1:Nat):Int) (by simp only;omega) (by omega) (by omega) ?_);refine BH ((m - 1:Nat):Int) (by simp only;omega) (by omega) (by omega) (By (IU rfl am) ?_);refine By (IU rfl aw) (EK (m:=m - 1) rfl (by simp only [List.length_set];omega) ?_);refine BH ((m - 1:Nat):Int) (by simp only;omega) (by omega) (by omega) (Az ⟨m - 1,by omega,K,y::B,by omega,rfl,?_,by rw [← ac];simp,λb hb=>?_⟩)
     ·simp only;rw [show Int.toNat ((m:Nat):Int)=K.length+1 by omega,show Int.toNat ((m - 1:Nat):Int)=K.length by omega,U];simp [List.set_append]
     ·rcases List.mem_cons.1 hb with rfl | hb
      ·exact Y
      ·exact av b hb
    ·exact BP (by simp) (Az (U.trans (stop a6)))
  ·rintro r rfl;refine BH ((i+1+1:Nat):Int) (by simp) (by omega) (by omega) (Az ⟨rfl,?_⟩);simp only;rw [a2]
 ·rintro⟨c,w⟩ ⟨O,hw⟩;simp only at O hw;subst O;unfold Nm;refine BP (by simp only;omega) (Az ⟨_,rfl,?_⟩);simp only;rw [hw,List.take_of_length_le (by omega),List.drop_eq_nil_of_le (by omega),List.append_nil]
theorem XV{F:Nat}:∀n,n<=12->∃r,f115 F (CR ((n:Nat):Int))=some r
 | 0,_ | 1,_ | 2,_ | 3,_ | 4,_ | 5,_ | 6,_ | 7,_ | 8,_ | 9,_ | 10,_ | 11,_ | 12,_=>⟨_,rfl⟩
 | _+13,h=>absurd h (by omega)
theorem YQ{F:Nat}{l:List DT}(K:100<F)(O:l.length<=12)(hb:∀d∈l,BD d):f90 F l=some (DI l):=by
 obtain⟨F,rfl⟩:∃k,F=k+1:=⟨F - 1,by omega⟩;obtain⟨x,U⟩:=XV (F:=F+1) l.length O;refine EI ?_;unfold f90;refine By (b:=l) (by unfold f129 Ml Ek;rw [if_pos (by simp;omega)];rfl) (By (b:=DI l) ?_ (Az rfl));refine EI ?_;unfold f130;refine By U (By (b:=DI l) ?_ (Az rfl));refine EI ?_;unfold f169;refine Br (S:=λr=>r=Sum.inl (DI l)) ?_ (by rintro r rfl;rw [Sum.elim_inl];exact Az rfl);refine EJ 0 (λ_ _=>True) trivial (by omega) (by intro i s h;omega) ?_;rintro s -;unfold Pn;refine BH (l.length:Int) (by omega) (by omega) (by omega) (CI (by omega) ?_);exact By (Yu K (by omega) hb) (Az ⟨_,rfl,rfl⟩)
def GV(n:Nat)(w:List Int)(S:List PR):Option (List DT):=(EN n S.length S w []).map DI
theorem XF{F:Nat}{o:OW}{S:List PR}(K:100<F)(h:VO o)(O:S.length<=10)(U:∀x∈S,VP o.1.length x):f135 F o S=some (match GV o.1.length (Co o) S with | none=>([],false) | some r=>(r,true)):=by
 have Y:=h.n5;obtain⟨ac,g2⟩:=NO K h;have Z:(200:Int)*3 ^ S.length<=1000000000000:=by
  have:=SV O;omega
 have e:=SD (q:=o) K rfl Y S.length F S (Co o) [] 200 rfl (by omega) O U g2 (by omega) Z (by simp;omega);have e2:f175 F o S=some (match GV o.1.length (Co o) S with | none=>(true,default) | some r=>(false,r)):=by
  refine EI ?_;unfold f175;refine By ac ?_;refine By (show f203 F S (Co o) o []=_ from e) ?_;unfold GV;rcases ag:EN o.1.length S.length S (Co o) [] with _ | r
  ·exact CI rfl (Az rfl)
  ·refine BP (by simp [Mp]) ?_;obtain⟨k1,al⟩:=O4 Y S.length S (Co o) [] r 200 rfl U g2 (by omega) Z (by simp) ag;exact By (YQ K (by show r.length<=12;rw [al];simp;omega) k1) (Az rfl)
 unfold f135;rw [e2,Option.bind_some];rcases GV o.1.length (Co o) S with _ | r
 ·rfl
 ·rfl
def Gy:Nat->List PR->List (List PR)
 | 0,_=> [[]]
 | _+1,[]=> []
 | m+1,x::xs=>(Gy m xs).map (x::·)++Gy (m+1) xs
theorem OO:∀(m:Nat) (l:List PR),(Gy m l).length<=2 ^ l.length
 | 0,l=>by simp only [Gy,List.length_singleton];exact Nat.one_le_two_pow
 | m+1,[]=>by simp [Gy]
 | m+1,x::xs=>by
  have K:=OO m xs;have O:=OO (m+1) xs
  simp only [Gy,List.length_append,List.length_map,List.length_cons]
  rw [Nat.pow_succ];omega
theorem LU{x:PR}:∀{m:Nat} {l c:List PR},c∈Gy m l->c.length=m/\(x∈c->x∈l)
 | 0,l,c,h=>by rw [show Gy 0 l= [[]] by cases l <;> rfl] at h;cases List.mem_singleton.1 h;exact⟨rfl,λh=>by cases h⟩
 | m+1,[],c,h=>by cases h
 | m+1,y::ys,c,h=>by
  rcases List.mem_append.1 h with h | h
  ·obtain⟨U,O,rfl⟩:=List.mem_map.1 h
   have:=LU (x:=x) O;exact⟨by rw [List.length_cons,this.1],λK=>by
    rcases List.mem_cons.1 K with rfl | K
    ·exact List.mem_cons_self
    ·exact List.mem_cons_of_mem _ (this.2 K)⟩
  ·have:=LU (x:=x) h;exact⟨this.1,λK=>List.mem_cons_of_mem _ (this.2 K)⟩
def CZ(n:Nat)(w:List Int)(P:PR->Bool)(m:Nat)(l ys:List PR):List (List DT):=(Gy m (ys.filter P)).filterMap λc=>GV n w (l++c)
theorem Rv{n:Nat}{w:List Int}{P:PR->Bool}{m:Nat}{l ys:List PR}:(CZ n w P m l ys).length<=2 ^ ys.length:=by
 unfold CZ;refine Nat.le_trans (List.length_filterMap_le _ _) (Nat.le_trans (OO _ _) ?_);exact Nat.pow_le_pow_right (by decide) (List.length_filter_le _ _)
theorem Vz{n:Nat}{w:List Int}{P:PR->Bool}{m:Nat}{l xs:List PR}{x:PR}(h:P x=false):CZ n w P m l (x::xs)=CZ n w P m l xs:=by unfold CZ;rw [List.filter_cons_of_neg (by simp [h])]
theorem VH{n:Nat}{w:List Int}{P:PR->Bool}{m:Nat}{l xs:List PR}{x:PR}(h:P x=true):CZ n w P (m+1) l (x::xs)=CZ n w P m (l++ [x]) xs++CZ n w P (m+1) l xs:=by
 unfold CZ;rw [List.filter_cons_of_pos h,Gy,List.filterMap_append,List.filterMap_map];congr 2;funext c;simp
theorem Sv{F:Nat}{o:OW}{ag m:Nat}{K:List PR}{P:PR->Bool}(al:100<F)(h:VO o)(hm:m<=5)(aw:K.length<=10)(am:∀x∈K,VP o.1.length x)(ap:∀x,VP o.1.length x->f136 F ag x.1 x.2=some (!P x)):
  ∀(k N:Nat) (l:List PR) (i:Nat) (b:List (List DT)),l.length+k=m->k<N->i<=K.length->(∀x∈l,VP o.1.length x)->b.length+2 ^ (K.length - i)<=1000000->
   Lj N F l (i:Int) (m:Int) o K ag b=some (true,b++CZ o.1.length (Co o) P k l (K.drop i))
 | 0,N,l,i,b,ay,az,hi,ac,hb=>by
  obtain⟨N,rfl⟩:∃k,N=k+1:=⟨N - 1,by omega⟩
  have a5:1<=2 ^ (K.length - i):=Nat.one_le_two_pow
  refine EI ?_
  simp only [Lj]
  unfold Mi
  refine CI (by omega) ?_
  refine By (XF al h (by omega) ac) ?_
  refine Br (S:=λr=>r=(true,b++CZ o.1.length (Co o) P 0 l (K.drop i))) ?_ (λr a0=>Az a0)
  have e:CZ o.1.length (Co o) P 0 l (K.drop i)=(GV o.1.length (Co o) l).toList:=by
   unfold CZ;simp only [Gy,List.filterMap_cons,List.append_nil,List.filterMap_nil];cases GV o.1.length (Co o) l <;> rfl
  rw [e];rcases GV o.1.length (Co o) l with _ | r
  ·exact CI rfl (Az (by simp))
  ·exact BP (by simp) (LX (by omega) (Az rfl))
 | k+1,N,l,i,b,ay,az,hi,ac,hb=>by
  obtain⟨N,rfl⟩:∃k,N=k+1:=⟨N - 1,by omega⟩;refine EI ?_;simp only [Lj];unfold Mi;refine BP (by omega) (Br (S:=λr=>r=Sum.inr (b++CZ o.1.length (Co o) P (k+1) l (K.drop i))) ?_ (by rintro r rfl;rw [Sum.elim_inr];exact Az rfl));refine O9 (λz s=>∃j,z=K.length - j/\j<=K.length/\s.2=((j:Nat):Int)/\s.1++CZ o.1.length (Co o) P (k+1) l (K.drop j)=b++CZ o.1.length (Co o) P (k+1) l (K.drop i)/\s.1.length+2 ^ (K.length - j)<=1000000) ?_ (m:=K.length - i) ⟨i,rfl,hi,rfl,rfl,hb⟩ (by omega);rintro z ⟨acc,c⟩ ⟨j,rfl,a6,aq,he,hlen⟩;simp only at aq he hlen;subst aq;unfold Pg;refine Ci (λa1=>?_) (λa2=>?_)
  ·simp only at a1;have O:j<K.length:=by omega
   have hd:K.drop j=K[j]::K.drop (j+1):=List.drop_eq_getElem_cons O;have av:=am _ (List.getElem_mem O);have a7:2 ^ (K.length - j)=2 ^ (K.length - (j+1))+2 ^ (K.length - (j+1)):=by
    rw [show K.length - j=K.length - (j+1)+1 by omega,Nat.pow_succ];omega
   have a8:0<2 ^ (K.length - (j+1)):=Nat.two_pow_pos _;refine Br (S:=λr=>∃Y,r=Sum.inr Y/\Y++CZ o.1.length (Co o) P (k+1) l (K.drop (j+1))=acc++CZ o.1.length (Co o) P (k+1) l (K.drop j)/\Y.length+2 ^ (K.length - (j+1))<=1000000) ?_ ?_
   ·refine EK (m:=j) rfl O (EK (m:=j) rfl O ?_);refine By (ap _ av) ?_;by_cases Z:P K[j]=true
    ·refine BP (by simp [Z]) ?_;refine EK (m:=j) rfl O ?_;refine BH ((j+1:Nat):Int) (by simp) (by omega) (by omega) ?_;refine BQ.Oj (by simp;omega) ?_;refine By (Sv al h hm aw am ap k N (l++ [K[j]]) (j+1) acc (by simp;omega) (by omega) (by omega) (λx U=>by
      rcases List.mem_append.1 U with U | U
      ·exact ac x U
      ·cases List.mem_singleton.1 U;exact av) (by omega)) ?_
     refine BP (by simp) (Az ⟨_,rfl,?_,?_⟩)
     ·rw [hd,VH Z,List.append_assoc]
     ·have:=Rv (n:=o.1.length) (w:=Co o) (P:=P) (m:=k) (l:=l++ [K[j]]) (ys:=K.drop (j+1));rw [List.length_drop] at this;rw [List.length_append];omega
    ·refine CI (by simp [Z]) (Az ⟨_,rfl,?_,by simp only;omega⟩);rw [hd,Vz (Bool.eq_false_iff.2 Z)]
   ·rintro r ⟨Y,rfl,a3,a4⟩;rw [Sum.elim_inr];exact BH ((j+1:Nat):Int) (by simp) (by omega) (by omega) (Az ⟨K.length - (j+1),by omega,j+1,rfl,by omega,rfl,a3.trans he,a4⟩)
  ·simp only at a2;refine Az ?_;have:K.drop j= []:=List.drop_eq_nil_of_le (by omega);rw [this] at he;show Sum.inr _=_;rw [← he];unfold CZ;simp [Gy]
def FW(n:Nat)(w:List Int)(P:PR->Bool):List (List DT):=(((List.range n).map λm=>CZ n w P m [] (DC n)).find? λl=> !l.isEmpty).getD []
theorem TC{F O:Nat}{o:OW}{P:PR->Bool}(Y:100<F)(h:VO o)(ag:∀x,VP o.1.length x->f136 F O x.1 x.2=some (!P x)):f71 F o O=some (FW o.1.length (Co o) P):=by
 have Z:=h.n5;have al:=Q1 Z;refine EI ?_;unfold f71;have am:∀m,m<=5->f132 F o ((m:Nat):Int) O []=some (CZ o.1.length (Co o) P m [] (DC o.1.length)):=by
  intro m hm;refine EI ?_;unfold f132;refine By (X0 Y Z) ?_;have ap:2 ^ ((DC o.1.length).length - 0)<=2 ^ 10:=Nat.pow_le_pow_right (by decide) (by omega);exact By (show f134 F [] 0 (m:Int) o (DC o.1.length) O []=_ from Sv Y h hm al (λx aq=>Na aq) ag m F [] 0 [] (by simp) (by omega) (by omega) (by simp) (by simp at ap ⊢;omega)) (Az (by simp))
 refine EJ o.1.length (λi s=>s=(i:Int)/\∀j,j<i->CZ o.1.length (Co o) P j [] (DC o.1.length)= []) ⟨rfl,by simp⟩ (by omega) ?_ ?_
 ·rintro i s hi ⟨rfl,U⟩;unfold Oa;refine CI (by omega) (By (am i (by omega)) ?_);refine Ci (λac=>Az ?_) (λaw=>?_)
  ·show _=_;unfold FW;rw [List.find?_map,show(List.range o.1.length).find? _=some i from List.find?_range_eq_some.2 ⟨?_,List.mem_range.2 hi,λj K=>?_⟩]
   ·rfl
   ·simp only [Function.comp];cases av:CZ o.1.length (Co o) P i [] (DC o.1.length) with
    | nil=>rw [av] at ac;simp at ac
    | cons=>rfl
   ·simp only [Function.comp];rw [U j K];rfl
  ·refine BH ((i+1:Nat):Int) (by simp) (by omega) (by omega) (Az ⟨rfl,λj K=>?_⟩);rcases Nat.lt_succ_iff_lt_or_eq.1 K with K | rfl
   ·exact U j K
   ·exact List.length_eq_zero_iff.1 (by omega)
 ·rintro s ⟨rfl,U⟩;unfold Oa;refine BP (by omega) (Az ⟨_,rfl,?_⟩);unfold FW;rw [List.find?_map,show(List.range o.1.length).find? _=none from List.find?_eq_none.2 ?_]
  ·rfl
  ·intro j K;simp only [Function.comp];rw [U j (List.mem_range.1 K)];simp
theorem Zp{F n:Nat}(U:n<=5)(x:PR)(K:VP n x):f136 F 0 x.1 x.2=some (!(λ_=>true) x):=by
 obtain⟨Y,Z,ac⟩:=K;obtain⟨a,O⟩:∃a:Nat,x.1=(a:Int):=⟨x.1.toNat,by omega⟩;obtain⟨b,hb⟩:∃b:Nat,x.2=(b:Int):=⟨x.2.toNat,by omega⟩;rw [O,hb];have:b<=4:=by omega
 have:a<b:=by omega
 match a,b with
 | 0,1 | 0,2 | 0,3 | 0,4 | 1,2 | 1,3 | 1,4 | 2,3 | 2,4 | 3,4=>rfl
 | 0,0=>omega
 | a+1,0=>omega
 | a+1,1=>omega
 | a+2,2=>omega
 | a+3,3=>omega
 | a+4,4=>omega
 | a,b+5=>omega
abbrev Ew(o:OW):List (List DT):=FW o.1.length (Co o) λ_=>true
theorem T9{F:Nat}{o:OW}(K:100<F)(h:VO o):f71 F o 0=some (Ew o):=TC K h λx O=>Zp h.n5 x O
theorem Xg{n:Nat}{w:List Int}{P:PR->Bool}{m:Nat}{s:List DT}(U:n<=5)(hm:m<=5)(hw:BN 200 w)(K:s∈CZ n w P m [] (DC n)):s.length=m/\∀d∈s,BD d:=by
 unfold CZ at K;obtain⟨c,O,K⟩:=List.mem_filterMap.1 K;rw [List.nil_append] at K;unfold GV at K;obtain⟨r,Y,rfl⟩:=Option.map_eq_some_iff.1 K;have Z:=(LU (x:=(0,0)) O).1;have ac:∀x∈c,VP n x:=λx ag=>Na (List.mem_filter.1 ((LU O).2 ag)).1;have al:(200:Int)*3 ^ c.length<=1000000000000:=by
  have:=SV (k:=c.length) (by omega);omega
 obtain⟨k1,am⟩:=O4 U c.length c w [] r 200 rfl ac hw (by omega) al (by simp) Y;refine⟨by rw [Ri,am,Z];simp,λd hd=>k1 d ((Ro _).1 hd)⟩
theorem SP{n:Nat}{w:List Int}{P:PR->Bool}:FW n w P= []∨∃m,m<n/\FW n w P=CZ n w P m [] (DC n)/\(∀j,j<m->CZ n w P j [] (DC n)= []):=by
 unfold FW;rw [List.find?_map];rcases h:(List.range n).find? ((λl:List (List DT)=> !l.isEmpty)∘λm=>CZ n w P m [] (DC n)) with _ | m
 ·exact .inl rfl
 ·obtain⟨Y,K,O⟩:=List.find?_range_eq_some.1 h;refine .inr ⟨m,List.mem_range.1 K,rfl,λj U=>?_⟩;have:=O j U;simpa using this
theorem Tn{n:Nat}{w:List Int}{P:PR->Bool}(K:n<=5)(hw:BN 200 w):(FW n w P).length<=1024/\∃m,m<=5/\∀s∈FW n w P,s.length=m/\∀d∈s,BD d:=by
 rcases SP (n:=n) (w:=w) (P:=P) with h | ⟨m,hm,h,_⟩
 ·rw [h];exact⟨by simp,0,by omega,by simp⟩
 ·rw [h];refine⟨?_,m,by omega,λs O=>Xg K (by omega) hw O⟩;exact Nat.le_trans Rv (Nat.le_trans (Nat.pow_le_pow_right (by decide) (Q1 K)) (by decide))
def F7:List DT->List DT->Bool
 | [],[]=>false
 | [],_::_=>true
 | _::_,[]=>false
 | x::xs,y::ys=>if x=y then F7 xs ys else GG x y
theorem Pb{a b:List DT}:∀{i:Nat},i<=a.length->i<=b.length->a.take i=b.take i->F7 a b=F7 (a.drop i) (b.drop i):=by
 induction a generalizing b with
 | nil=>intro i K _ _;simp at K;subst K;simp
 | cons x xs U=>
  intro i K O h;cases i with
  | zero=>simp
  | succ i=>
   cases b with
   | nil=>simp at O
   | cons y ys=>
    simp only [List.take_succ_cons,List.cons.injEq] at h;simp only [List.drop_succ_cons];rw [F7,if_pos h.1];exact U (by simpa using K) (by simpa using O) h.2
theorem Ye{F:Nat}{a b:List DT}(al:100<F)(am:a.length<=40)(U:∀d∈a,BD d)(Y:∀d∈b,BD d):BQ (f112 F a b) (λc=>c<0↔F7 a b=true):=by
 unfold f112;refine Br (S:=λr=>(∃c,r=Sum.inl c/\(c<0↔F7 a b=true))∨(r=Sum.inr ()/\a.length<=b.length/\a=b.take a.length)) ?_ ?_
 ·refine EJ a.length (λi s=>s=(i:Int)/\i<=b.length/\a.take i=b.take i) ⟨rfl,by simp,by simp⟩ (by omega) ?_ ?_
  ·rintro i s hi ⟨rfl,K,he⟩;unfold Ng;have O:a.drop i=a[i]::a.drop (i+1):=List.drop_eq_getElem_cons hi;refine CI (by omega) (EK (m:=i) rfl hi ?_);refine Ci (λh=>Az (.inl ⟨1,rfl,?_⟩)) (λh=>?_)
   ·rw [Pb (i:=i) (by omega) K he,O,List.drop_eq_nil_of_le (by omega:b.length<=i)];simp [F7]
   have hb:i<b.length:=by omega
   have Z:b.drop i=b[i]::b.drop (i+1):=List.drop_eq_getElem_cons hb;refine EK (m:=i) rfl hb ?_;refine Br (SM (U _ (List.getElem_mem hi)) (Y _ (List.getElem_mem hb))) ?_;rintro c ⟨c1,c2⟩;refine Ci (λh=>Az (.inl ⟨c,rfl,?_⟩)) (λh=>?_)
   ·rw [Pb (i:=i) (by omega) K he,O,Z,F7,if_neg (λk=>h (c2.2 k))];exact c1
   ·have heq:=c2.1 (Decidable.not_not.1 h);refine BH ((i+1:Nat):Int) (by simp) (by omega) (by omega) ?_;refine Az ⟨rfl,by omega,?_⟩;rw [List.take_add_one,List.take_add_one,he,List.getElem?_eq_getElem hi,List.getElem?_eq_getElem hb,heq]
  ·rintro s ⟨rfl,K,he⟩;unfold Ng;rw [List.take_length] at he;exact BP (by omega) (Az ⟨_,rfl,.inr ⟨rfl,K,he⟩⟩)
 ·rintro r (⟨c,rfl,ac⟩ | ⟨rfl,ag,he⟩)
  ·rw [Sum.elim_inl];exact Az ac
  ·rw [Sum.elim_inr];have e:F7 a b=F7 [] (b.drop a.length):=by
    rw [Pb (i:=a.length) (Nat.le_refl _) ag (by rw [List.take_length];exact he),List.drop_length]
   refine Ci (λh=>Az ?_) (λh=>Az ?_)
   ·rw [e];cases hd:b.drop a.length with
    | nil=>have:=congrArg List.length hd;simp at this;omega
    | cons=>simp [F7]
   ·rw [e,List.drop_eq_nil_of_le (by omega)];simp [F7]
def EO(b:List DT×Bool)(x:List DT):List DT×Bool:=if(!b.2 || F7 x b.1)=true then(x,true) else b
def Kz(l:List (List DT)):List DT:=(l.foldl EO ([],false)).1
theorem Zf{F:Nat}{o:OW}(aw:2000<F)(h:VO o):f22 F o=some (Kz (Ew o),0):=by
 obtain⟨ay,al⟩:=NO (F:=F) (by omega) h;obtain⟨am,m,hm,ap⟩:=Tn (P:=λ_=>true) h.n5 al;refine EI ?_;unfold f22;refine By (aJ (by omega) h) (BP (by simp) ?_);refine By (T9 (by omega) h) (Br (S:=λr=>r.1=Kz (Ew o)) ?_ (λr Z=>Az (by rw [Z])));have aq:(Ew o).length<=1024:=am;have ac:∀s∈Ew o,s.length=m/\∀d∈s,BD d:=ap;generalize Ew o=L at aq ac ⊢;refine EJ L.length (λi s=>s.2.2=(i:Int)/\(s.1,s.2.1)=(L.take i).foldl EO ([],false)/\∀d∈s.1,BD d) ⟨rfl,rfl,by simp⟩ (by omega) ?_ ?_
 ·rintro i ⟨b,t,c⟩ hi ⟨K,O,U⟩;simp only at K O U;subst K;obtain⟨az,ag⟩:=ac _ (List.getElem_mem hi);have av:(L.take (i+1)).foldl EO ([],false)=EO (b,t) L[i]:=by
   rw [List.take_add_one,List.getElem?_eq_getElem hi,List.foldl_append,← O];rfl
  unfold NK;refine CI (by simp only;omega) (EK (m:=i) rfl hi ?_);refine By (b:=EO (b,t) L[i]) ?_ ?_
  ·refine EI ?_;unfold f72;refine Br (S:=λc=>c=(!t || F7 L[i] b)) ?_ ?_
   ·refine Ci (λh=>Az ?_) (λh=>?_)
    ·simp only at h;rw [h];rfl
    ·simp only at h;obtain rfl:t=true:=by simpa using h
     refine Br (S:=λc=>c=F7 L[i] b) ?_ (λc K=>Az (by rw [K];simp));unfold f73 f74;refine Br (S:=λc=>c<0↔F7 L[i] b=true) (Br (Ye (by omega) (by omega) ag U) (λc K=>Az K)) ?_;intro c K;refine Az ?_;by_cases Y:F7 L[i] b=true
     ·rw [Y];exact decide_eq_true (K.2 Y)
     ·rw [Bool.eq_false_iff.2 Y];exact decide_eq_false λk=>Y (K.1 k)
   ·rintro c rfl;refine Br (S:=λr=>r=EO (b,t) L[i]) ?_ (λr Z=>Az Z);unfold EO;refine Ci (λh=>Az ?_) (λh=>Az ?_)
    ·rw [if_pos h]
    ·rw [if_neg h]
  ·refine BH ((i+1:Nat):Int) (by simp) (by omega) (by omega) (Az ⟨rfl,av.symm,?_⟩);simp only;unfold EO;split
   ·exact ag
   ·exact U
 ·rintro⟨b,t,c⟩ ⟨K,O,U⟩;simp only at K O U;subst K;rw [List.take_length] at O;unfold NK;refine BP (by simp) (Az ⟨_,rfl,?_⟩);simp only;unfold Kz;rw [← O]
theorem Wh{l:List (List DT)}:Kz l= []∨Kz l∈l:=by
 have:∀l:List (List DT),(l.foldl EO ([],false)).1= []∨(l.foldl EO ([],false)).1∈l:=by
  intro l;refine Ku (P:=λl=>(l.foldl EO ([],false)).1= []∨(l.foldl EO ([],false)).1∈l) (.inl rfl) (λl x h=>?_) l;rw [List.foldl_append];show(EO _ x).1= []∨(EO _ x).1∈l++ [x];generalize l.foldl EO ([],false)=b at*;unfold EO;split
  ·exact .inr (by simp)
  ·rcases h with h | h
   ·exact .inl h
   ·exact .inr (List.mem_append_left _ h)
 exact this l
end Pal
namespace Pal
def sg(x:Int):Int:=if x<0 then -1 else if x=0 then 0 else 1
theorem TJ{x:Int}:0<sg x↔0<x:=by unfold sg;split <;> (try split) <;> omega
theorem L8{x:Int}:sg x=0↔x=0:=by unfold sg;split <;> (try split) <;> omega
theorem Tv{x:Int}:sg (-x)= -sg x:=by unfold sg;split <;> split <;> (try split) <;> (try split) <;> omega
def HW(w:List Int)(A:Nat->Bool):Int:=(if A 0 then gN w 0 else 0)+(if A 1 then gN w 1 else 0)+(if A 2 then gN w 2 else 0)+(if A 3 then gN w 3 else 0)+(if A 4 then gN w 4 else 0)
def GX(d:DT):PR:=(d.1,d.2.1)
def Qj(p:Int)(x:PR)(m:Int):PR:=if 0<m then(x.1+x.2 - p,p) else(p,x.1+x.2 - p)
def JW(n:Nat):Nat->List PR->((Nat->Bool)->Int)->List PR->Option (List PR)
 | 0,_,T,out=>if(List.range 5).all (λj=>decide (T (λi=>i==j)=0))=true then some out else none
 | k+1,l,T,out=>(Iu n l).bind λp=>
   if T (λj=>j==p)=0 then none else
    JW n k (l.eraseIdx (l.findIdx (Bz p))) (λA=>T λj=>if j=p then A ((l.getD (l.findIdx (Bz p)) (0,0)).1+(l.getD (l.findIdx (Bz p)) (0,0)).2 - (p:Int)).toNat else A j) (out++ [Qj p (l.getD (l.findIdx (Bz p)) (0,0)) (T (λj=>j==p))])
theorem O5{w:List Int}{j:Nat}(K:j<5):HW w (λi=>i==j)=gN w j:=by
 unfold HW
 match j,K with
 | 0,_ | 1,_ | 2,_ | 3,_ | 4,_=>simp
theorem Yd{p o:Nat}(O:p<5)(U:o<5)(K:o≠p)(X:Int):(if 0=p then -X else if 0=o then X else 0)+(if 1=p then -X else if 1=o then X else 0)+(if 2=p then -X else if 2=o then X else 0)+(if 3=p then -X else if 3=o then X else 0)+(if 4=p then -X else if 4=o then X else 0)=0:=by
 obtain rfl | rfl | rfl | rfl | rfl:p=0∨p=1∨p=2∨p=3∨p=4:=by omega
 all_goals
  obtain rfl | rfl | rfl | rfl | rfl:o=0∨o=1∨o=2∨o=3∨o=4:=by omega
  all_goals first | exact absurd rfl K | (simp;try omega)
theorem Wq{w v:List Int}{p o:Nat}(O:p<5)(U:o<5)(Y:o≠p)(h:∀j,gN v j=if j=p then 0 else if j=o then gN w o+gN w p else gN w j)(A:Nat->Bool):HW v A=HW w (λj=>if j=p then A o else A j):=by
 have key:∀j,(if A j=true then gN v j else 0)=(if(if j=p then A o else A j)=true then gN w j else 0)+(if j=p then -(if A o=true then gN w p else 0) else if j=o then(if A o=true then gN w p else 0) else 0):=by
  intro j;rw [h];by_cases K:j=p
  ·subst K;rw [if_pos rfl,if_pos rfl,if_pos rfl];cases A o <;> cases A j <;> simp <;> omega
  ·rw [if_neg K,if_neg K,if_neg K];by_cases e2:j=o
   ·subst e2;rw [if_pos rfl,if_pos rfl];cases A j <;> simp
   ·rw [if_neg e2,if_neg e2,Int.add_zero]
 have am:=Yd O U Y (if A o=true then gN w p else 0)
 have Z:=key 0;have k1:=key 1;have ac:=key 2;have ag:=key 3;have al:=key 4;unfold HW;rw [Z,k1,ac,ag,al];generalize (if(if 0=p then A o else A 0)=true then gN w 0 else 0)=ap
 generalize (if(if 1=p then A o else A 1)=true then gN w 1 else 0)=a1
 generalize (if(if 2=p then A o else A 2)=true then gN w 2 else 0)=aq
 generalize (if(if 3=p then A o else A 3)=true then gN w 3 else 0)=av
 generalize (if(if 4=p then A o else A 4)=true then gN w 4 else 0)=aw
 generalize (if A o=true then gN w p else 0)=X at*
 generalize (if 0=p then -X else if 0=o then X else 0)=ay at*
 generalize (if 1=p then -X else if 1=o then X else 0)=az at*
 generalize (if 2=p then -X else if 2=o then X else 0)=a0 at*
 generalize (if 3=p then -X else if 3=o then X else 0)=a2 at*
 generalize (if 4=p then -X else if 4=o then X else 0)=a3 at*
 omega
theorem YT{w:List Int}{p o:Nat}{x:PR}(hw:w.length=5)(ag:p<5)(al:o<5)(Y:o≠p)(ac:x.1+x.2 - (p:Int)=o)(j:Nat):gN (J2 w (dP p x (gN w p))) j=if j=p then 0 else if j=o then gN w o+gN w p else gN w j:=by
 have Z:∀i v,(F5 w i v).length=5:=λi v=>by unfold F5;rw [List.length_set];exact hw
 unfold dP;rw [ac];unfold J2;by_cases h:0<gN w p
 ·rw [if_pos h];simp only;rw [Jk (Z _ _) (by omega) (by omega),Jk hw (by omega) (by omega)];have O:((j:Int)=(p:Int))=(j=p):=propext ⟨by omega,by omega⟩;have U:((j:Int)=(o:Int))=(j=o):=propext ⟨by omega,by omega⟩;simp only [O,U];by_cases K:j=p
  ·subst K;rw [if_neg (Ne.symm Y),if_pos rfl,if_pos rfl];omega
  ·rw [if_neg K,if_neg K];by_cases e2:j=o
   ·subst e2;rw [if_pos rfl,if_pos rfl];omega
   ·rw [if_neg e2,if_neg e2];omega
 ·rw [if_neg h];simp only;rw [Jk (Z _ _) (by omega) (by omega),Jk hw (by omega) (by omega)];have O:((j:Int)=(p:Int))=(j=p):=propext ⟨by omega,by omega⟩;have U:((j:Int)=(o:Int))=(j=o):=propext ⟨by omega,by omega⟩;simp only [O,U];by_cases K:j=p
  ·subst K;rw [if_pos rfl,if_neg (Ne.symm Y),if_pos rfl];omega
  ·rw [if_neg K,if_neg K];by_cases e2:j=o
   ·subst e2;rw [if_pos rfl,if_pos rfl];omega
   ·rw [if_neg e2,if_neg e2];omega
theorem XY{w:List Int}{d:DT}(hw:w.length=5):(J2 w d).length=5:=by unfold J2 F5;rw [List.length_set,List.length_set];exact hw
theorem R0{n:Nat}(am:n<=5):∀(k:Nat) (l:List PR) (w:List Int) (T:(Nat->Bool)->Int) (out:List DT),l.length=k->(∀x∈l,VP n x)->w.length=5->(∀A,T A=sg (HW w A))->(EN n k l w out).map (List.map GX)=JW n k l T (out.map GX)
 | 0,l,w,T,out,_,_,hw,K=>by
  have key:(List.range 5).all (λj=>decide (T (λi=>i==j)=0))=true↔w=List.replicate 5 0:=by
   rw [List.all_eq_true];constructor
   ·intro h;refine W3 hw rfl λj U=>?_;have:=of_decide_eq_true (h j (List.mem_range.2 U));rw [K,L8,O5 U] at this;rw [this];unfold gN;rw [List.getD_eq_getElem?_getD,List.getElem?_replicate];split <;> rfl
   ·rintro rfl j U;refine decide_eq_true ?_;rw [K,L8,O5 (List.mem_range.1 U)];unfold gN;rw [List.getD_eq_getElem?_getD,List.getElem?_replicate];split <;> rfl
  unfold EN JW;by_cases h:w=List.replicate 5 0
  ·rw [if_pos h,if_pos (key.2 h)];rfl
  ·rw [if_neg h,if_neg (λe=>h (key.1 e))];rfl
 | k+1,l,w,T,out,az,ac,hw,K=>by
  unfold EN JW;cases ap:Iu n l with
  | none=>rfl
  | some p=>
   simp only [Option.bind_some];have ag:=ap;unfold Iu at ag;obtain⟨c1,c2,c3⟩:=List.find?_range_eq_some.1 ag;have a0:l.countP (Bz p)=1:=by simpa using c1
   have c2:=List.mem_range.1 c2;have Y:l.findIdx (Bz p)<l.length:=by
    obtain⟨x,O,al⟩:=List.countP_pos_iff.1 (show 0<l.countP (Bz p) by omega);exact List.findIdx_lt_length_of_exists ⟨x,O,al⟩
   rw [M3 Y];have al:l[l.findIdx (Bz p)].1=(p:Int)∨l[l.findIdx (Bz p)].2=(p:Int):=by
    have key:∀x:PR,Bz p x=true->x.1=(p:Int)∨x.2=(p:Int):=λx h=>by unfold Bz at h;simpa using h
    exact key _ List.findIdx_getElem
   have O:=ac _ (List.getElem_mem Y);obtain⟨a1,x2,a2⟩:=O;have hle:(l.eraseIdx (l.findIdx (Bz p))).length=k:=by rw [List.length_eraseIdx_of_lt Y];omega
   have aq:∀x∈l.eraseIdx (l.findIdx (Bz p)),VP n x:=λx O=>ac x (List.mem_of_mem_eraseIdx O);generalize l[l.findIdx (Bz p)]=x at*;obtain⟨o,av⟩:∃o:Nat,x.1+x.2 - (p:Int)=(o:Int):=⟨(x.1+x.2 - (p:Int)).toNat,by omega⟩;have Z:T (λj=>j==p)=sg (gN w p):=by rw [K,O5 (by omega)]
   have aw:Qj p x (T (λj=>j==p))=GX (dP p x (gN w p)):=by
    rw [Z];unfold Qj dP GX;by_cases h:0<gN w p
    ·rw [if_pos (TJ.2 h),if_pos h]
    ·rw [if_neg (λe=>h (TJ.1 e)),if_neg h]
   by_cases h:gN w p=0
   ·rw [if_pos h,if_pos (by rw [Z];exact L8.2 h)];rfl
   ·rw [if_neg h,if_neg (by rw [Z];exact λe=>h (L8.1 e))];rw [R0 am k _ _ (λA=>T λj=>if j=p then A (x.1+x.2 - (p:Int)).toNat else A j) _ hle aq (XY hw) ?_,List.map_append,List.map_singleton,aw]
    intro A;have ay:(x.1+x.2 - (p:Int)).toNat=o:=by omega
    rw [K,ay,Wq (p:=p) (o:=o) (by omega) (by omega) (by omega) (YT hw (by omega) (by omega) (by omega) av) A]
def Us(a b c d e f g:Int)(A:Nat->Bool):Int:=
 match A 0,A 1,A 2,A 3 with
 | false,false,false,false=>0
 | true,false,false,false=>a
 | false,true,false,false=>b
 | true,true,false,false=>e
 | false,false,true,false=>c
 | true,false,true,false=>f
 | false,true,true,false=> -g
 | true,true,true,false=> -d
 | false,false,false,true=>d
 | true,false,false,true=>g
 | false,true,false,true=> -f
 | true,true,false,true=> -c
 | false,false,true,true=> -e
 | true,false,true,true=> -b
 | false,true,true,true=> -a
 | true,true,true,true=>0
def G6(x y z:Int):Bool:=(x != y || z==x)&&(x != 0 || z==y)&&(y != 0 || z==x)
theorem Zh{x y z:Int}(h:x+y=z):G6 (sg x) (sg y) (sg z)=true:=by
 subst h;unfold G6 sg;by_cases K:x<0 <;> by_cases O:x=0 <;> by_cases U:y<0 <;> by_cases Y:y=0 <;> by_cases Z:x+y<0 <;> by_cases ac:x+y=0 <;> first | (exfalso;omega) | (simp only [K,O,U,Y,Z,ac,if_true,if_false];rfl) | (simp [K,O,U,Y,Z,ac]) | skip
def Qt(a b c d e f g:Int):Bool:=G6 a b e&&G6 a c f&&G6 a d g&&G6 c d (-e)&&G6 b d (-f)&&G6 b c (-g)&&G6 e c (-d)&&G6 e d (-c)&&G6 f b (-d)&&G6 f d (-b)&&G6 g b (-c)&&G6 g c (-b)
def S3:List Int:= [-1,0,1]
theorem Kv(x:Int):sg x∈S3:=by unfold sg S3;split <;> (try split) <;> simp
def Lx(n:Nat)(P:((Nat->Bool)->Int)->Bool):Bool:=
 (if n<=3 then [0] else S3).all λd=>(if n<=2 then [0] else S3).all λc=>S3.all λa=>S3.all λb=>S3.all λe=>S3.all λf=>S3.all λg=> !Qt a b c d e f g || P (Us a b c d e f g)
theorem V8{n:Nat}{P:((Nat->Bool)->Int)->Bool}(h:Lx n P=true){w:List Int}(hw:w.length=5)(K:∀j,n<=j->gN w j=0)(ac:n<=4)(ag:gN w 0+gN w 1+gN w 2+gN w 3=0):∃T,P T=true/\∀A,T A=sg (HW w A):=by
 have U:=K 4 (by omega);have hd:sg (gN w 3)∈(if n<=3 then [0] else S3):=by
  split
  ·rw [K 3 (by assumption)];simp [sg]
  ·exact Kv _
 have Y:sg (gN w 2)∈(if n<=2 then [0] else S3):=by
  split
  ·rw [K 2 (by assumption)];simp [sg]
  ·exact Kv _
 unfold Lx at h;have O:=List.all_eq_true.1 (List.all_eq_true.1 (List.all_eq_true.1 (List.all_eq_true.1 (List.all_eq_true.1 (List.all_eq_true.1 (List.all_eq_true.1 h _ hd) _ Y) _ (Kv (gN w 0))) _ (Kv (gN w 1))) _ (Kv (gN w 0+gN w 1))) _ (Kv (gN w 0+gN w 2))) _ (Kv (gN w 0+gN w 3));have Z:Qt (sg (gN w 0)) (sg (gN w 1)) (sg (gN w 2)) (sg (gN w 3)) (sg (gN w 0+gN w 1)) (sg (gN w 0+gN w 2)) (sg (gN w 0+gN w 3))=true:=by
  unfold Qt;simp only [Bool.and_eq_true,← Tv];refine⟨⟨⟨⟨⟨⟨⟨⟨⟨⟨⟨?_,?_⟩,?_⟩,?_⟩,?_⟩,?_⟩,?_⟩,?_⟩,?_⟩,?_⟩,?_⟩,?_⟩ <;> exact Zh (by omega)
 rw [Z] at O;refine⟨_,by simpa using O,λA=>?_⟩;unfold Us HW;rw [U];simp only [← Tv];cases A 0 <;> cases A 1 <;> cases A 2 <;> cases A 3 <;> simp <;> first | rfl | (congr 1;omega) | (refine(L8.2 ?_).symm;omega)
def Og(n:Nat)(T:(Nat->Bool)->Int)(P:PR->Bool)(m:Nat):List (List PR):=(Gy m ((DC n).filter P)).filterMap λS=>JW n S.length S T []
def FD(n:Nat)(T:(Nat->Bool)->Int)(P:PR->Bool):List (List PR):=(((List.range n).map λm=>Og n T P m).find? λl=> !l.isEmpty).getD []
theorem WC(l:List DT):((DI l).map GX).Perm (l.map GX):=by
 have ins:∀(d:DT) (l:List DT),(Fl d l).Perm (d::l):=by
  intro d l
  induction l with
  | nil=>exact List.Perm.refl _
  | cons z K O=>
   unfold Fl;split
   ·exact List.Perm.refl _
   ·exact(O.cons z).trans (List.Perm.swap d z K)
 refine Ku (P:=λl=>((DI l).map GX).Perm (l.map GX)) (List.Perm.refl _) (λl d h=>?_) l;rw [KW,List.map_append];exact((ins d _).map GX).trans (((h.cons (GX d))).trans (List.perm_append_singleton (GX d) _).symm)
def Uq(s:List DT)(t:List PR):Prop:=(s.map GX).Perm t
theorem XA{n:Nat}{w:List Int}{T:(Nat->Bool)->Int}(O:n<=5)(hw:w.length=5)(U:∀A,T A=sg (HW w A)){c:List PR}(Y:∀x∈c,VP n x):(GV n w c=none/\JW n c.length c T []=none)∨∃s t,GV n w c=some s/\JW n c.length c T []=some t/\Uq s t:=by
 have h:=R0 O c.length c w T [] rfl Y hw U;unfold GV;cases K:EN n c.length c w [] with
 | none=>rw [K] at h;exact .inl ⟨rfl,h.symm⟩
 | some r=>rw [K] at h;exact .inr ⟨DI r,r.map GX,rfl,h.symm,WC r⟩
inductive F9:List (List DT)->List (List PR)->Prop
 | nil:F9 [] []
 | cons {s t K O}:Uq s t->F9 K O->F9 (s::K) (t::O)
theorem F9.filterMap{n:Nat}{w:List Int}{T:(Nat->Bool)->Int}(U:n<=5)(hw:w.length=5)(Y:∀A,T A=sg (HW w A)):∀{C:List (List PR)},(∀c∈C,∀x∈c,VP n x)->F9 (C.filterMap (GV n w)) (C.filterMap λS=>JW n S.length S T [])
 | [],_=> .nil
 | c::C,h=>by
  have Z:=F9.filterMap U hw Y (C:=C) λd hd=>h d (List.mem_cons_of_mem _ hd)
  rcases XA U hw Y (h c List.mem_cons_self) with⟨K,O⟩ | ⟨s,t,K,O,ac⟩
  ·simp only [List.filterMap_cons,K,O];exact Z
  ·simp only [List.filterMap_cons,K,O];exact .cons ac Z
theorem F9.Nl{S:List (List DT)}{R:List (List PR)}(h:F9 S R):S.isEmpty=R.isEmpty:=by cases h <;> rfl
theorem Sc{n:Nat}{w:List Int}{T:(Nat->Bool)->Int}{P:PR->Bool}{m:Nat}(K:n<=5)(hw:w.length=5)(O:∀A,T A=sg (HW w A)):F9 (CZ n w P m [] (DC n)) (Og n T P m):=by
 unfold CZ Og;simp only [List.nil_append];exact F9.filterMap K hw O λc U x Y=>Na (List.mem_filter.1 ((LU U).2 Y)).1
theorem YL{n:Nat}{w:List Int}{T:(Nat->Bool)->Int}{P:PR->Bool}(K:n<=5)(hw:w.length=5)(O:∀A,T A=sg (HW w A)):F9 (FW n w P) (FD n T P):=by
 unfold FW FD;rw [List.find?_map,List.find?_map];have e:((λl:List (List DT)=> !l.isEmpty)∘λm=>CZ n w P m [] (DC n))=((λl:List (List PR)=> !l.isEmpty)∘λm=>Og n T P m):=by
  funext m;simp only [Function.comp,(Sc (P:=P) (m:=m) K hw O).Nl]
 rw [e];cases (List.range n).find? _ with
 | none=>exact .nil
 | some m=>exact Sc K hw O
theorem F9.X2{x y:Int}{S:List (List DT)}{R:List (List PR)}(h:F9 S R):(∀s∈S,∃d∈s,d.1=x/\d.2.1=y)↔(∀t∈R,(x,y)∈t):=by
 induction h with
 | nil=>simp
 | @cons s t U Y hm _ K=>
  have O:(∃d∈s,d.1=x/\d.2.1=y)↔(x,y)∈t:=by
   rw [← hm.mem_iff,List.mem_map];constructor
   ·rintro⟨d,hd,rfl,rfl⟩;exact⟨d,hd,rfl⟩
   ·rintro⟨d,hd,he⟩;unfold GX at he;cases he;exact⟨d,hd,rfl,rfl⟩
  simp only [List.mem_cons,forall_eq_or_imp,O,K]
theorem F9.len{S:List (List DT)}{R:List (List PR)}(h:F9 S R){m:Nat}(O:∀s∈S,s.length=m):∀t∈R,t.length=m:=by
 induction h with
 | nil=>simp
 | cons hm _ U=>
  intro t K;rcases List.mem_cons.1 K with rfl | K
  ·have:=O _ List.mem_cons_self;rw [← hm.length_eq,List.length_map];exact this
  ·exact U (λs h=>O s (List.mem_cons_of_mem _ h)) t K
def KL(w:List Int):Int:=gN w 0+gN w 1+gN w 2+gN w 3+gN w 4
theorem R3{w:List Int}{i v:Int}(hw:w.length=5)(K:0<=i)(O:i<5):KL (F5 w i v)=KL w+v:=by
 unfold KL;rw [Jk hw K O,Jk hw K O,Jk hw K O,Jk hw K O,Jk hw K O];obtain rfl | rfl | rfl | rfl | rfl:i=0∨i=1∨i=2∨i=3∨i=4:=by omega
 all_goals simp;omega
theorem W9{o:OW}(h:VO o):KL (Co o)=0:=by
 have Y:=h.n5;have:∀(ds:List DT) (w:List Int),w.length=5->KL w=0->(∀d∈ds,VD o.1.length d)->KL (ds.foldl Lw w)=0:=by
  intro ds
  induction ds with
  | nil=>exact λw _ hw _=>hw
  | cons d ds O=>
   intro w K hw hd;obtain⟨v1,v2,Z,v4,_⟩:=hd d List.mem_cons_self;have l1:(F5 w d.2.1 d.2.2).length=5:=by unfold F5;rw [List.length_set];exact K
   refine O _ (by unfold Lw F5;rw [List.length_set,List.length_set];exact K) ?_ λx U=>hd x (List.mem_cons_of_mem _ U);unfold Lw;rw [R3 l1 (by omega) (by omega),R3 K (by omega) (by omega),hw];omega
 exact this _ _ rfl rfl h.ds
end Pal
namespace Pal
open Go Go.Conc Go.Proofs
open Go.Proofs.Tryz
end Pal
namespace Pal
def Zb(n:Nat)(w:List Int):Prop:=∀j,n<=j->gN w j=0
theorem YS{w:List Int}{i j:Nat}{v:Int}(h:i≠j):gN (w.set i v) j=gN w j:=by
 unfold gN;rw [List.getD_eq_getElem?_getD,List.getElem?_set_ne h,List.getD_eq_getElem?_getD]
theorem Zb.add{n:Nat}{w:List Int}{i v:Int}(h:Zb n w)(hi:i<n)(O:0<=i):Zb n (F5 w i v):=λj K=>by
 unfold F5
 rw [YS (by omega)]
 exact h j K
theorem Zb.zero(n:Nat):Zb n (List.replicate 5 0):=λj _=>by
 unfold gN
 rw [List.getD_eq_getElem?_getD,List.getElem?_replicate]
 split <;> rfl
theorem XU{o:OW}(h:VO o):Zb o.1.length (Co o):=by
 have:∀(ds:List DT) (w:List Int),Zb o.1.length w->(∀d∈ds,VD o.1.length d)->Zb o.1.length (ds.foldl Lw w):=by
  intro ds
  induction ds with
  | nil=>exact λw hw _=>hw
  | cons d ds K=>
   intro w hw hd;obtain⟨v1,v2,O,v4,_⟩:=hd d List.mem_cons_self;exact K _ ((hw.add v4 O).add v2 v1) λx U=>hd x (List.mem_cons_of_mem _ U)
 exact this _ _ (Zb.zero _) h.ds
def Hw(p:PR)(x:PR):Bool:=decide (x≠p)
theorem U5{α:Type}{l:List α}{i:Nat}(h:i<l.length):(l[i]::l.eraseIdx i).Perm l:=by
 rw [List.eraseIdx_eq_take_drop_succ];refine List.perm_middle.symm.trans ?_;rw [← List.drop_eq_getElem_cons h,List.take_append_drop]
end Pal
namespace Pal
end Pal
namespace Pal
def ER(x y:Int)(d:DT):Bool:=decide (d.1=x)&&decide (d.2.1=y)
def cnt(x y:Int)(L:List (List DT)):Nat:=L.flatten.countP (ER x y)
theorem PE{x y:Int}:∀{L:List (List DT)},(∀s∈L,s.countP (ER x y)<=1)->cnt x y L<=L.length
 | [],_=>Nat.le_refl _
 | s::L,h=>by
  have U:=h s List.mem_cons_self
  have K:=PE (L:=L) λt O=>h t (List.mem_cons_of_mem _ O)
  unfold cnt at K ⊢
  rw [List.flatten_cons,List.countP_append,List.length_cons];omega
def LB(d:DT):PR:=(min d.1 d.2.1,max d.1 d.2.1)
theorem ZZ{n p:Nat}{x:PR}{m:Int}(O:VP n x)(K:Bz p x=true):LB (dP p x m)=x:=by
 obtain⟨v1,v2,U⟩:=O;unfold Bz at K;simp at K;obtain⟨Y,x2⟩:=x;simp only at v1 v2 U K;unfold LB dP;split <;> simp only [Prod.mk.injEq] <;> omega
theorem QO{n:Nat}:∀(k:Nat) (l:List PR) (w:List Int) (out r:List DT),l.length=k->(∀x∈l,VP n x)->EN n k l w out=some r->(r.map LB).Perm (out.map LB++l)
 | 0,l,w,out,r,Z,U,h=>by
  unfold EN at h
  split at h
  ·cases h
   rw [List.length_eq_zero_iff.1 Z,List.append_nil]
  ·cases h
 | k+1,l,w,out,r,Z,U,h=>by
  unfold EN at h;obtain⟨p,ac,h⟩:=bind_some h;split at h
  ·cases h
  unfold Iu at ac;obtain⟨c1,c2,c3⟩:=List.find?_range_eq_some.1 ac;have ag:l.countP (Bz p)=1:=by simpa using c1
  have O:l.findIdx (Bz p)<l.length:=by
   obtain⟨x,K,Y⟩:=List.countP_pos_iff.1 (show 0<l.countP (Bz p) by omega);exact List.findIdx_lt_length_of_exists ⟨x,K,Y⟩
  rw [M3 O] at h;have Y:Bz p l[l.findIdx (Bz p)]=true:=List.findIdx_getElem;have K:=U _ (List.getElem_mem O);have:=QO k _ _ _ r (by rw [List.length_eraseIdx_of_lt O];omega) (λx K=>U x (List.mem_of_mem_eraseIdx K)) h;refine this.trans ?_;rw [List.map_append,List.map_singleton,ZZ K Y,List.append_assoc];exact List.Perm.append_left _ (U5 O)
theorem ON:∀{m:Nat} {l c:List PR},c∈Gy m l->c.Sublist l
 | 0,l,c,h=>by
  rw [show Gy 0 l= [[]] by cases l <;> rfl] at h
  cases List.mem_singleton.1 h
  exact List.nil_sublist _
 | m+1,[],c,h=>by cases h
 | m+1,y::ys,c,h=>by
  rcases List.mem_append.1 h with h | h
  ·obtain⟨O,K,rfl⟩:=List.mem_map.1 h
   exact(ON K).cons_cons y
  ·exact(ON h).cons y
theorem UO{n:Nat}(h:n<=5):(DC n).Nodup:=by
 match n,h with
 | 0,_ | 1,_ | 2,_ | 3,_ | 4,_ | 5,_=>decide
theorem Rl{α:Type}{q:α->Bool}:∀{l:List α},l.Nodup->(∀a b,q a=true->q b=true->a=b)->l.countP q<=1
 | [],_,_=>Nat.zero_le _
 | x::xs,U,O=>by
  obtain⟨Y,Z⟩:=List.nodup_cons.1 U
  have ac:=Rl Z O
  by_cases K:q x=true
  ·rw [List.countP_cons_of_pos K]
   have:xs.countP q=0:=by
    rw [List.countP_eq_zero];intro y ag al;exact Y (O x y K al▸ag)
   omega
  ·rw [List.countP_cons_of_neg K];exact ac
theorem VY{n:Nat}{w:List Int}{P:PR->Bool}{m:Nat}{s:List DT}{x y:Int}(ac:n<=5)(K:s∈CZ n w P m [] (DC n)):s.countP (ER x y)<=1:=by
 unfold CZ at K;obtain⟨c,ag,K⟩:=List.mem_filterMap.1 K;rw [List.nil_append] at K;unfold GV at K;obtain⟨r,al,rfl⟩:=Option.map_eq_some_iff.1 K;have O:=ON ag;have am:∀x∈c,VP n x:=λx ap=>Na (List.mem_filter.1 (O.subset ap)).1;have aq:c.Nodup:=((UO ac).filter _).sublist O;have U:=QO c.length c w [] r rfl am al;rw [List.map_nil,List.nil_append] at U;have av:∀l:List DT,(DI l).Perm l:=by
  have ins:∀(d:DT) (l:List DT),(Fl d l).Perm (d::l):=by
   intro d l
   induction l with
   | nil=>exact List.Perm.refl _
   | cons z aw ay=>
    unfold Fl;split
    ·exact List.Perm.refl _
    ·exact(ay.cons z).trans (List.Perm.swap d z aw)
  refine Ku (P:=λl=>(DI l).Perm l) (List.Perm.refl _) λl d h=>?_;rw [KW];exact(ins d _).trans ((h.cons d).trans (List.perm_append_singleton d l).symm)
 rw [(av r).countP_eq];have Y:r.countP (ER x y)<=r.countP ((λz:PR=>decide (z=(min x y,max x y)))∘LB):=by
  refine List.countP_mono_left λd _ hd=>?_;unfold ER at hd;simp only [Bool.and_eq_true,decide_eq_true_eq] at hd;simp only [Function.comp,decide_eq_true_eq,LB,hd.1,hd.2]
 rw [← List.countP_map,U.countP_eq] at Y;refine Nat.le_trans Y (Rl aq λa b Z hb=>?_);rw [decide_eq_true_eq] at Z hb;rw [Z,hb]
theorem Yc{n:Nat}{w:List Int}{P:PR->Bool}{x y:Int}(K:n<=5):∀s∈FW n w P,s.countP (ER x y)<=1:=by
 rcases SP (n:=n) (w:=w) (P:=P) with h | ⟨m,hm,h,_⟩
 ·rw [h];simp
 ·rw [h];exact λs O=>VY K O
end Pal
namespace Pal
theorem Yv{F n:Nat}{x y:Int}(av:n<=5)(x0:0<=x)(aw:x<n)(y0:0<=y)(ay:y<n)(O:x≠y):∃K,f106 F x y=some K/\∀z,VP n z->f136 F K z.1 z.2=some (!Hw (min x y,max x y) z):=by
 have key:∀a b c d:Fin 5,a≠b->c<d->(f106 0 ((a.val:Nat):Int) ((b.val:Nat):Int)).bind (λK=>f136 0 K ((c.val:Nat):Int) ((d.val:Nat):Int))=some (!Hw (min ((a.val:Nat):Int) ((b.val:Nat):Int),max ((a.val:Nat):Int) ((b.val:Nat):Int)) (((c.val:Nat):Int),((d.val:Nat):Int))):=by decide+kernel
 obtain⟨a,rfl⟩:∃a:Nat,x=(a:Int):=⟨x.toNat,by omega⟩;obtain⟨b,rfl⟩:∃b:Nat,y=(b:Int):=⟨y.toNat,by omega⟩;have Z:=key ⟨a,by omega⟩ ⟨b,by omega⟩ ⟨0,by omega⟩ ⟨1,by omega⟩ (λe=>O (by rw [Fin.mk.injEq] at e;omega)) (by rw [Fin.mk_lt_mk];omega);obtain⟨K,U,_⟩:=bind_some Z;refine⟨K,U,λz ac=>?_⟩;obtain⟨z1,ag,al⟩:=ac;obtain⟨c,d⟩:=z;simp only at z1 ag al;obtain⟨c,rfl⟩:∃a:Nat,c=(a:Int):=⟨c.toNat,by omega⟩;obtain⟨d,rfl⟩:∃b:Nat,d=(b:Int):=⟨d.toNat,by omega⟩;have am:=key ⟨a,by omega⟩ ⟨b,by omega⟩ ⟨c,by omega⟩ ⟨d,by omega⟩ (λe=>O (by rw [Fin.mk.injEq] at e;omega)) (by rw [Fin.mk_lt_mk];omega);obtain⟨ap,aq,Y⟩:=bind_some am;rw [show ap=K from Option.some.inj (aq.symm.trans U)] at Y;exact Y
theorem YF{F:Nat}{o:OW}{x y:Int}(av:100<F)(h:NV 40 o):∃e,f105 F o x y=some e/\((e≠0/\∃z,f70 F o [x,y]=some (z,e))∨(e=0/\f70 F o [x,y]=some (o,0)/\VO o/\(0<=x/\x<o.1.length)/\(0<=y/\y<o.1.length)/\x≠y)):=by
 obtain⟨r,ap,aw⟩:=TS av h;have aq:f47 F o=some r:=(PV F o).trans ap;have a2:=h.l1;have U:f105 F o x y=some (if r≠0 then r else if ¬(0<=x/\x<=(o.1.length:Int) - 1)∨¬(0<=y/\y<=(o.1.length:Int) - 1) then 3 else if x=y then 8 else 0):=by
  refine EI ?_;unfold f105;refine By ap (Ci (λO=>Az (by rw [if_pos O])) (λO=>?_));refine BH _ rfl (by omega) (by omega) (By (Ji _ _ _ _) ?_);refine Br (S:=λc=>c=decide (¬(0<=x/\x<=(o.1.length:Int) - 1)∨¬(0<=y/\y<=(o.1.length:Int) - 1))) ?_ ?_
  ·refine Ci (λag=>Az ?_) (λag=>?_)
   ·have:¬(0<=x/\x<=(o.1.length:Int) - 1):=by simp at ag;omega
    exact(decide_eq_true (.inl this)).symm
   ·have ay:0<=x/\x<=(o.1.length:Int) - 1:=by simpa using ag
    refine BH _ rfl (by omega) (by omega) (By (Ji _ _ _ _) (Az ?_));by_cases Z:0<=y/\y<=(o.1.length:Int) - 1
    ·rw [decide_eq_true Z,decide_eq_false (λk=>k.elim (λk=>k ay) (λk=>k Z))];rfl
    ·rw [decide_eq_false Z,decide_eq_true (.inr Z)];rfl
  ·rintro c rfl;rw [if_neg O];refine Ci (λK=>Az ?_) (λK=>?_)
   ·rw [if_pos (of_decide_eq_true K)]
   ·rw [if_neg (λk=>K (decide_eq_true k))];refine Ci (λhe=>Az (by rw [if_pos he])) (λhe=>Az (by rw [if_neg he]))
 by_cases O:r≠0
 ·refine⟨r,by rw [U,if_pos O],.inl ⟨O,([],[]),?_⟩⟩;refine EI ?_;unfold f70;exact By aq (CI O (Az rfl))
 have az:=aw.1 (Decidable.not_not.1 O);have Y:f70 F o [x,y]=some (if ¬(0<=x/\x<=(o.1.length:Int) - 1)∨¬(0<=y/\y<=(o.1.length:Int) - 1) then(([],[]),3) else if x=y then(([],[]),8) else(o,0)):=by
  refine EI ?_;unfold f70;refine By aq (BP O ?_);refine Br (S:=λq=>(q=Sum.inl (([],[]),3)/\(¬(0<=x/\x<=(o.1.length:Int) - 1)∨¬(0<=y/\y<=(o.1.length:Int) - 1)))∨(q=Sum.inr ()/\¬(¬(0<=x/\x<=(o.1.length:Int) - 1)∨¬(0<=y/\y<=(o.1.length:Int) - 1)))) ?_ ?_
  ·refine EJ 2 (λi s=>s=(i:Int)/\∀j z,j<i-> [x,y][j]? =some z->0<=z/\z<=(o.1.length:Int) - 1) ⟨rfl,by simp⟩ (by omega) ?_ ?_
   ·rintro i s hi ⟨rfl,ac⟩;obtain⟨z,al⟩:∃z,[x,y][i]? =some z:=⟨_,List.getElem?_eq_getElem (by simp;omega)⟩;have a0:z=x∨z=y:=by
     have:=List.mem_of_getElem? al;simpa using this
    unfold NQ;refine CI (by simp only [List.length_cons,List.length_nil];omega) (By (IU (m:=i) rfl al) ?_);refine BH _ rfl (by omega) (by omega) (By (ZC _ _ _ _) ?_);refine Ci (λK=>Az (.inl ⟨rfl,?_⟩)) (λK=>?_)
    ·have:¬(0<=z/\z<=(o.1.length:Int) - 1):=by simp at K;omega
     rcases a0 with rfl | rfl
     ·exact .inl this
     ·exact .inr this
    ·have a1:0<=z/\z<=(o.1.length:Int) - 1:=by simpa using K
     refine BH ((i+1:Nat):Int) (by simp) (by omega) (by omega) (Az ⟨rfl,λj u am hu=>?_⟩);rcases Nat.lt_succ_iff_lt_or_eq.1 am with am | rfl
     ·exact ac j u am hu
     ·rw [al] at hu;cases hu;exact a1
   ·rintro s ⟨rfl,ac⟩;unfold NQ;refine BP (by simp) (Az ⟨_,rfl,.inr ⟨rfl,?_⟩⟩);rintro(k | k)
    ·exact k (ac 0 x (by omega) rfl)
    ·exact k (ac 1 y (by omega) rfl)
  ·rintro q (⟨rfl,k⟩ | ⟨rfl,k⟩)
   ·rw [Sum.elim_inl,if_pos k];exact Az rfl
   ·rw [Sum.elim_inr,if_neg k];refine Br (S:=λc=>c=decide (x=y)) ?_ ?_
    ·refine CI (by simp) (By (IU (m:=0) (b:=x) rfl rfl) ?_);exact By (IU (m:=1) (b:=y) rfl rfl) (Az rfl)
    ·rintro c rfl;refine Ci (λK=>Az ?_) (λK=>Az ?_)
     ·rw [if_pos (of_decide_eq_true K)]
     ·rw [if_neg (λe=>K (decide_eq_true e))]
 rw [if_neg O] at U;by_cases k:¬(0<=x/\x<=(o.1.length:Int) - 1)∨¬(0<=y/\y<=(o.1.length:Int) - 1)
 ·rw [if_pos k] at U Y;exact⟨3,U,.inl ⟨by decide,_,Y⟩⟩
 ·rw [if_neg k] at U Y;by_cases e:x=y
  ·rw [if_pos e] at U Y;exact⟨8,U,.inl ⟨by decide,_,Y⟩⟩
  ·rw [if_neg e] at U Y;exact⟨0,U,.inr ⟨rfl,Y,az,by omega,by omega,e⟩⟩
theorem Xz{F:Nat}{x y:Int}{L:List (List DT)}(ap:2000<F)(aq:L.length<=1024)(U:∀s∈L,s.length<=10):BQ (Pal.iter (Mf F x y L) F (0,0)) (λr=>r=((cnt x y L:Nat):Int)):=by
 have ac:∀i,i<=L.length->cnt x y (L.take i)<=10*i:=by
  intro i
  induction i with
  | zero=>intro _;unfold cnt;simp
  | succ i ag=>
   intro hi;have al:=ag (by omega);have Y:i<L.length:=by omega
   have av:=U _ (List.getElem_mem Y);have aw:=List.countP_le_length (p:=ER x y) (l:=L[i]);unfold cnt at al ⊢;rw [List.take_add_one,List.getElem?_eq_getElem Y,List.flatten_append,List.countP_append];simp only [Option.toList_some,List.flatten_cons,List.flatten_nil,List.append_nil];omega
 refine EJ L.length (λi s=>s.2=(i:Int)/\s.1=((cnt x y (L.take i):Nat):Int)) ⟨rfl,rfl⟩ (by omega) ?_ ?_
 ·rintro i ⟨a,c⟩ hi ⟨O,K⟩;simp only at O K;subst O;subst K;have ay:=ac i (by omega);have az:=U _ (List.getElem_mem hi);unfold Mf;refine CI (by simp only;omega) (EK (m:=i) rfl hi ?_);refine Br (S:=λr=>r=((cnt x y (L.take (i+1)):Nat):Int)) ?_ ?_
  ·have am:cnt x y (L.take (i+1))=cnt x y (L.take i)+L[i].countP (ER x y):=by
    unfold cnt;rw [List.take_add_one,List.getElem?_eq_getElem hi,List.flatten_append,List.countP_append];simp only [Option.toList_some,List.flatten_cons,List.flatten_nil,List.append_nil]
   refine EJ L[i].length (λj s=>s.2=(j:Int)/\s.1=((cnt x y (L.take i)+(L[i].take j).countP (ER x y):Nat):Int)) ⟨rfl,by simp⟩ (by omega) ?_ ?_
   ·rintro j ⟨a,c⟩ Z ⟨O,K⟩;simp only at O K;subst O;subst K;have hle:(L[i].take j).countP (ER x y)<=j:=by
     refine Nat.le_trans List.countP_le_length ?_;rw [List.length_take];omega
    have key:(L[i].take (j+1)).countP (ER x y)=(L[i].take j).countP (ER x y)+if ER x y L[i][j]=true then 1 else 0:=by
     rw [List.take_add_one,List.getElem?_eq_getElem Z,List.countP_append];simp only [Option.toList_some,List.countP_cons,List.countP_nil,Nat.zero_add]
    unfold NJ;refine CI (by simp only;omega) (EK (m:=j) rfl Z ?_);refine Br (S:=λc=>c=ER x y L[i][j]) ?_ ?_
    ·unfold ER;refine Ci (λh=>Az (by simp [h])) (λh=>Az (by simp [h]))
    rintro c rfl;refine Br (S:=λr=>r=((cnt x y (L.take i)+(L[i].take (j+1)).countP (ER x y):Nat):Int)) ?_ ?_
    ·refine Ci (λh=>?_) (λh=>?_)
     ·refine BH ((cnt x y (L.take i)+(L[i].take (j+1)).countP (ER x y):Nat):Int) ?_ (by omega) (by rw [key,if_pos h];omega) (Az rfl);rw [key,if_pos h];simp only;omega
     ·exact Az (by rw [key,if_neg h];rfl)
    ·rintro r rfl;exact BH ((j+1:Nat):Int) (by simp) (by omega) (by omega) (Az ⟨rfl,rfl⟩)
   ·rintro⟨a,c⟩ ⟨O,K⟩;simp only at O K;subst O;unfold NJ;rw [List.take_length] at K;exact BP (by simp) (Az ⟨_,rfl,by rw [am];exact K⟩)
  ·rintro r rfl;exact BH ((i+1:Nat):Int) (by simp) (by omega) (by omega) (Az ⟨rfl,rfl⟩)
 ·rintro⟨a,c⟩ ⟨O,K⟩;simp only at O K;subst O;unfold Mf;rw [List.take_length] at K;exact BP (by simp) (Az ⟨_,rfl,K⟩)
theorem O6{o:OW}(h:VO o)(P:PR->Bool):(FW o.1.length (Co o) P).length<=1024/\∃m,m<=5/\∀s∈FW o.1.length (Co o) P,s.length=m:=by
 obtain⟨-,hw⟩:=NO (F:=101) (by omega) h;obtain⟨K,m,O,U⟩:=Tn (P:=P) h.n5 hw;exact⟨K,m,O,λs Y=>(U s Y).1⟩
theorem ZE(F:Nat)(a b:Int):f93 F a b=some (if a=0 then 2 else if a<b then 3 else 1):=by
 refine EI ?_;unfold f93;refine Br (S:=λq=>(q=Sum.inl 2/\a=0)∨(q=Sum.inr (if a<b then 3 else 1)/\¬a=0)) ?_ ?_
 ·refine Ci (λk=>Az (.inl ⟨rfl,k⟩)) (λk=>?_);refine Ci (λK=>?_) (λK=>?_)
  ·refine BH 2 rfl (by omega) (by omega) (Br (S:=λr=>r=3) (CI K (BH 3 rfl (by omega) (by omega) (Az rfl))) ?_);rintro r rfl;exact Az (.inr ⟨by rw [if_pos K],k⟩)
  ·refine Br (S:=λr=>r=1) (BP K (Az rfl)) ?_;rintro r rfl;exact Az (.inr ⟨by rw [if_neg K],k⟩)
 ·rintro q (⟨rfl,k⟩ | ⟨rfl,k⟩)
  ·rw [Sum.elim_inl,if_pos k];exact Az rfl
  ·rw [Sum.elim_inr,if_neg k];exact Az rfl
end Pal
namespace Pal
def Uk(n:Nat)(T:(Nat->Bool)->Int)(L:List (List PR))(x y:Int):Bool:=
 match FD n T (Hw (y,x)) with
 | []=>decide (n<=2)&&(L.all (λt=>t.contains (x,y)) || L.all (λt=>t.contains (y,x)))
 | t::_=>decide ((L.headD []).length<=t.length)&&((L.all (λt=>t.contains (x,y)) || L.all (λt=>t.contains (y,x))) != ((L.headD []).length==t.length))
def Mq(n:Nat)(T:(Nat->Bool)->Int):Bool:=
 !(FD n T λ_=>true).isEmpty&&(List.range n).all λx=>(List.range x).all λy=>Uk n T (FD n T λ_=>true) ((x:Nat):Int) ((y:Nat):Int)
theorem bG:Lx 2 (Mq 2)=true:=by decide+kernel
theorem bF:Lx 3 (Mq 3)=true:=by decide+kernel
theorem bE:Lx 4 (Mq 4)=true:=by decide+kernel
def HX(x y:Int)(L:List (List DT)):Prop:=∀s∈L,∃d∈s,d.1=x/\d.2.1=y
theorem Sf{x y:Int}:∀{L:List (List DT)},(∀s∈L,s.countP (ER x y)<=1)->(cnt x y L=L.length↔HX x y L)
 | [],_=>by unfold cnt HX;simp
 | s::L,h=>by
  have Z:=h s List.mem_cons_self
  have K:=λt U=>h t (List.mem_cons_of_mem _ U)
  have O:=Sf (x:=x) (y:=y) K
  have hle:=PE K
  have e:cnt x y (s::L)=s.countP (ER x y)+cnt x y L:=by unfold cnt;rw [List.flatten_cons,List.countP_append]
  have Y:0<s.countP (ER x y)↔∃d∈s,d.1=x/\d.2.1=y:=by
   rw [List.countP_pos_iff];unfold ER;simp
  rw [e,List.length_cons];unfold HX at O ⊢;simp only [List.mem_cons,forall_eq_or_imp];rw [← Y,← O];omega
theorem TZ{F:Nat}{o:OW}{x y:Int}(Z:3000<F)(K:VO o)(ac:0<=x/\x<o.1.length)(ag:0<=y/\y<o.1.length)(U:x≠y):f70 F o [x,y]=some (o,0):=by
 obtain⟨e,Y,⟨he,z,O⟩ | ⟨rfl,O,-⟩⟩:=YF (x:=x) (y:=y) (show 100<F by omega) K.nv
 ·exfalso;have:f105 F o x y=some 0:=by
   refine EI ?_;unfold f105;refine By (show f48 F o=some 0 from (PV F o).symm.trans (Uf (by omega) K)) (BP (by simp) ?_);have al:=K.n5;refine BH _ rfl (by omega) (by omega) (By (Ji _ _ _ _) ?_);refine Br (S:=λc=>c=false) ?_ ?_
   ·refine BP (by simp;omega) (BH _ rfl (by omega) (by omega) ?_);refine By (Ji _ _ _ _) (Az ?_);simp;omega
   ·rintro c rfl;exact BP (by simp) (BP U (Az rfl))
  rw [Y] at this;exact he (Option.some.inj this)
 ·exact O
theorem SS{F:Nat}{o:OW}{x y:Int}(Y:3000<F)(K:VO o)(Z:0<=x/\x<o.1.length)(ac:0<=y/\y<o.1.length)(ag:x≠y)(al:Ew o≠ []):BQ (f50 F o x y) (λr=>r.2=0/\(r.1=1↔HX x y (Ew o))):=by
 have am:=TZ Y K Z ac ag;obtain⟨s1,m,hm,s2⟩:=O6 K λ_=>true;have U:∀s∈Ew o,s.countP (ER x y)<=1:=λs O=>Yc K.n5 s O;have hle:cnt x y (Ew o)<=(Ew o).length:=PE U;have ap:=Sf U;have aq:0<(Ew o).length:=List.length_pos_iff.2 al;unfold f50;refine By am ?_;refine BP (by simp) ?_;refine By (T9 (by omega) K) ?_;refine Br (Xz (by omega) s1 λs O=>by rw [s2 s O];omega) ?_;rintro r rfl;refine By (ZE _ _ _) (Az ⟨rfl,?_⟩);rw [← ap];simp only;split
 ·constructor
  ·intro h;cases h
  ·intro h;omega
 ·split
  ·constructor
   ·intro h;cases h
   ·intro h;omega
  ·constructor
   ·intro h;omega
   ·intro h;rfl
theorem SA{F:Nat}{o:OW}{x y:Int}(Z:3000<F)(K:VO o)(O:0<=x/\x<o.1.length)(U:0<=y/\y<o.1.length)(Y:x≠y):f58 F o x y=some (match FW o.1.length (Co o) (Hw (min x y,max x y)) with | []=>(0,11) | s::_=>((s.length:Int),0)):=by
 refine EI ?_;obtain⟨am,ac,ag⟩:=Yv (F:=F) K.n5 O.1 O.2 U.1 U.2 Y;have al:=TC (P:=Hw (min x y,max x y)) (show 100<F by omega) K ag;unfold f58;refine By (TZ Z K O U Y) (BP (by simp) ?_);refine By ac (By al ?_);cases FW o.1.length (Co o) (Hw (min x y,max x y)) with
 | nil=>exact CI (by simp) (Az rfl)
 | cons s L=>
  exact BP (by simp;omega) (By (IU (m:=0) rfl rfl) (Az rfl))
theorem XK{x y:Int}{S:List (List DT)}{R:List (List PR)}(h:F9 S R):R.all (λt=>t.contains (x,y))=true↔HX x y S:=by
 unfold HX;rw [h.X2,List.all_eq_true];simp only [List.contains_iff_mem]
theorem XO{o:OW}(K:VO o)(ay:o.1.length<=4):Ew o≠ []/\∃k,(∀s∈Ew o,s.length=k)/\∀x y:Nat,y<x->x<o.1.length->
  (match FW o.1.length (Co o) (Hw (((y:Nat):Int),((x:Nat):Int))) with | []=>o.1.length<=2/\(HX x y (Ew o)∨HX y x (Ew o)) | s::_=>k<=s.length/\(¬(HX x y (Ew o)∨HX y x (Ew o))↔k=s.length)):=by
 obtain⟨-,hw⟩:=NO (F:=101) (by omega) K;have ap:=XU K;have Y:=W9 K;unfold KL at Y;rw [ap 4 (by omega),Int.add_zero] at Y;have be:=K.n2;have az:Lx o.1.length (Mq o.1.length)=true:=by
  obtain e | e | e:o.1.length=2∨o.1.length=3∨o.1.length=4:=by omega
  all_goals rw [e]
  ·exact bG
  ·exact bF
  ·exact bE
 obtain⟨T,Z,a0⟩:=V8 az hw.1 ap ay Y;have aq:∀P,F9 (FW o.1.length (Co o) P) (FD o.1.length T P):=λP=>YL K.n5 hw.1 a0;unfold Mq at Z;rw [Bool.and_eq_true,List.all_eq_true] at Z;obtain⟨t1,t2⟩:=Z;have ac:=aq λ_=>true;have a1:Ew o≠ []:=by
  intro e;have:=ac.Nl;rw [show FW o.1.length (Co o) (λ_=>true)= [] from e] at this;rw [← this] at t1;cases t1
 obtain⟨_,k,_,av⟩:=O6 K λ_=>true;refine⟨a1,k,av,λx y a2 a3=>?_⟩;have t3:=List.all_eq_true.1 (t2 x (List.mem_range.2 a3)) y (List.mem_range.2 a2);have a4:=ac.len av;have hh:(FD o.1.length T λ_=>true).headD []∈FD o.1.length T λ_=>true:=by
  cases a5:FD o.1.length T λ_=>true with
  | nil=>rw [a5] at t1;cases t1
  | cons t a6=>exact List.mem_cons_self
 have a7:=a4 _ hh;have ag:=λu v=>XK (x:=u) (y:=v) ac;unfold Uk at t3;rw [a7] at t3;have al:=aq (Hw (((y:Nat):Int),((x:Nat):Int)));obtain⟨_,kb,_,aw⟩:=O6 K (Hw (((y:Nat):Int),((x:Nat):Int)));have a8:=al.len aw;cases am:FW o.1.length (Co o) (Hw (((y:Nat):Int),((x:Nat):Int))) with
 | nil=>
  have:=al.Nl;rw [am] at this;have O:FD o.1.length T (Hw (((y:Nat):Int),((x:Nat):Int)))= []:=List.isEmpty_iff.1 this.symm;rw [O] at t3;simp only [Bool.and_eq_true,Bool.or_eq_true,decide_eq_true_eq,ag] at t3;exact t3
 | cons s L=>
  have a9:s.length=kb:=aw s (by rw [am];exact List.mem_cons_self);cases O:FD o.1.length T (Hw (((y:Nat):Int),((x:Nat):Int))) with
  | nil=>
   have:=al.Nl;rw [am,O] at this;cases this
  | cons t a6=>
   have bb:t.length=kb:=a8 t (by rw [O];exact List.mem_cons_self);rw [O] at t3;simp only [Bool.and_eq_true,decide_eq_true_eq,bb,bne_iff_ne] at t3;simp only [a9];refine⟨t3.1,?_⟩;rw [← ag,← ag,← Bool.or_eq_true];have U:=t3.2;generalize ((FD o.1.length T λ_=>true).all (λt=>t.contains ((x:Int),(y:Int))) || (FD o.1.length T λ_=>true).all (λt=>t.contains ((y:Int),(x:Int))))=c at U ⊢;cases c
   ·simp at U;simp [U]
   ·simp at U;simp [U]
theorem Zu{F:Nat}(U:3000<F)(aw:f18 F=some true)(Un:List Int):f16 F Un=some true:=by
 refine EI ?_;unfold f16;refine Br (S:=λb=>BG 0 b) ?_ ?_
 ·unfold f20;exact Az ⟨Int.le_refl 0,Int.le_refl 0⟩
 intro b hb;refine Br (YM (pm:=4) (dm:=6) (by omega) hb (by omega) (by omega) (by omega) (by omega)) ?_;rintro⟨o,O⟩ ⟨K,al,hd,ay⟩;simp only at K al hd ay ⊢;obtain⟨ac,k,am,az⟩:=XO K al;refine By (Zf (by omega) K) (BP (by simp) ?_);have a0:(Kz (Ew o)).length=k:=by
  rcases Wh (l:=Ew o) with e | e
  ·have a2: []∈Ew o:=by
    have key:∀l:List (List DT),l≠ []->Kz l∈l:=by
     have:∀l:List (List DT),l= []∨((l.foldl EO ([],false)).1∈l/\(l.foldl EO ([],false)).2=true):=by
      refine Ku (.inl rfl) λl x h=> .inr ?_;rw [List.foldl_append];show(EO _ x).1∈l++ [x]/\(EO _ x).2=true;rcases h with rfl | ⟨a3,a4⟩
      ·exact⟨by simp [EO],rfl⟩
      ·unfold EO;split
       ·exact⟨by simp,rfl⟩
       ·exact⟨List.mem_append_left _ a3,a4⟩
     intro l a5;rcases this l with h | ⟨h,_⟩
     ·exact absurd h a5
     ·exact h
    rw [← e];exact key _ ac
   rw [e];exact am _ a2
  ·exact am _ e
 refine Br (S:=λq=>q=Sum.inr ()) ?_ ?_
 ·refine EJ o.1.length (λi s=>s=(i:Int)) rfl (by have:=K.n5;omega) ?_ ?_
  ·rintro x s a6 rfl;unfold Ny;refine CI (by simp only;omega) (Br (S:=λq=>q=Sum.inr ()) ?_ ?_)
   ·refine EJ x (λi s=>s=(i:Int)) rfl (by have:=K.n5;omega) ?_ ?_
    ·rintro y s a7 rfl;have bo:=K.n5;have Y:=az x y a7 a6;have O:(0:Int)<=x/\(x:Int)<o.1.length:=by omega
     have Z:(0:Int)<=y/\(y:Int)<o.1.length:=by omega
     obtain⟨v,a8,a9,ag⟩:=SS (F:=F) (x:=(x:Int)) (y:=(y:Int)) U K O Z (by omega) ac;obtain⟨u,bb,be,ap⟩:=SS (F:=F) (x:=(y:Int)) (y:=(x:Int)) U K Z O (by omega) ac;have a1:=SA (F:=F) (x:=(x:Int)) (y:=(y:Int)) U K O Z (by omega);have aq:=SA (F:=F) (x:=(y:Int)) (y:=(x:Int)) U K Z O (by omega);rw [show min (x:Int) (y:Int)=(y:Int) by omega,show max (x:Int) (y:Int)=(x:Int) by omega] at a1;rw [show min (y:Int) (x:Int)=(y:Int) by omega,show max (y:Int) (x:Int)=(x:Int) by omega] at aq;unfold NM
     dsimp only;refine CI (by omega) (By a8 ?_);refine By bb (By a1 ?_);refine By aq (Br (S:=λc=>c=false) (BP (by simp [a9]) (Az (by simp [be]))) ?_);rintro c rfl;refine Br (S:=λc=>c=false) (BP (by simp) (Az (by simp))) ?_;rintro c rfl;refine Br (S:=λc=>c=false) (BP (by simp) (Az (by simp))) ?_;rintro c rfl;rw [a0];cases av:FW o.1.length (Co o) (Hw (((y:Nat):Int),((x:Nat):Int))) with
     | nil=>
      rw [av] at Y;obtain⟨l1,l2⟩:=Y;simp only;refine Br (S:=λc=>c=false) ?_ ?_
      ·refine BP (by simp) (CI (by decide) ?_);refine BP (by decide) (Az ?_);simp;omega
      rintro c rfl;refine BP (by simp) (Br (S:=λc=>c=true) ?_ ?_)
      ·refine Ci (λ_=>Az rfl) (λh=>Az ?_);refine decide_eq_true (ap.2 ?_);rcases l2 with l2 | l2
       ·exact absurd (ag.2 l2) h
       ·exact l2
      rintro c rfl;refine Br (S:=λc=>c=false) (BP (by decide) (Az rfl)) ?_;rintro c rfl;refine Br (S:=λc=>c=false) (BP (by simp) (CI (by decide) (Az rfl))) ?_;rintro c rfl;refine BP (by simp) (BH ((y+1:Nat):Int) (by simp) (by omega) (by omega) ?_);exact Az rfl
     | cons s L=>
      rw [av] at Y;obtain⟨l1,l2⟩:=Y;simp only;refine Br (S:=λc=>c=false) (BP (by simp) (BP (by simp) (Az rfl))) ?_;rintro c rfl;refine BP (by simp) (Br (S:=λc=>c=true↔HX x y (Ew o)∨HX y x (Ew o)) ?_ ?_)
      ·refine Ci (λh=>Az ?_) (λh=>Az ?_)
       ·exact⟨λ_=> .inl (ag.1 h),λ_=>rfl⟩
       ·rw [decide_eq_true_eq,ap];exact⟨.inr,λl=>l.resolve_left λl=>h (ag.2 l)⟩
      intro c bi;rw [← bi] at l2;refine Br (S:=λc=>c=false) ?_ ?_
      ·refine CI (by simp) (BP (by omega) (Az ?_));cases c
       ·have:=l2.1 (by simp);simp;omega
       ·have:¬k=s.length:=λe=>(l2.2 e) rfl;simp;omega
      rintro bn rfl;refine Br (S:=λc=>c=false) (BP (by simp) (BP (by simp) (Az rfl))) ?_;rintro bn rfl;refine BP (by simp) (BH ((y+1:Nat):Int) (by simp) (by omega) (by omega) ?_);exact Az rfl
    ·rintro s rfl;unfold NM;exact BP (by first | omega | (simp only;omega)) (Az ⟨_,rfl,rfl⟩)
   ·rintro q rfl;rw [Sum.elim_inr];exact BH ((x+1:Nat):Int) (by simp) (by have:=K.n5;omega) (by have:=K.n5;omega) (Az rfl)
  ·rintro s rfl;unfold Ny;exact BP (by simp only;omega) (Az ⟨_,rfl,rfl⟩)
 ·rintro q rfl;rw [Sum.elim_inr];exact By aw (Az rfl)
end Pal
